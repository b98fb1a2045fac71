/- The functions that FnExactDeedsOf reaches, as tables. No conditions. -/
import Derived.Test.YtameehmkoglkeaaDoorEng4
import Derived.Lib.AtoiAll
import Derived.Lib.Index
import Derived.Lib.ItoaNum
import Derived.Lib.Join
import Derived.Lib.LaidTab
import Derived.Lib.Split
import Derived.Test.YtameehmkoglkeaaDoorChecked
set_option linter.all false
namespace Go.Proofs.YtameehmkoglkeaaDoor.M
open Go Go.Eng Go.Proofs
set_option linter.unusedVariables false
noncomputable section
def containsX (a : ByteArray × ByteArray) : Option Bool := bif decide (a.2.size = 1) then some (decide (0 ≤ Go.Lib.indexByte a.1.data.toList (a.2.data.getD 0 0))) else none
def joinX (a : (List ByteArray) × ByteArray) : Option ByteArray := bif decide (a.1.length ≤ 140737488355328 ∧ (Go.Lib.join (a.1.map (·.data.toList)) a.2.data.toList).length ≤ 140737488355328) then some ⟨(Go.Lib.join (a.1.map (·.data.toList)) a.2.data.toList).toArray⟩ else none
def itoaX (n : Int) : Option ByteArray := bif decide (-9223372036854775808 ≤ n ∧ n ≤ 9223372036854775807) then some ⟨(Go.Lib.itoa n).toArray⟩ else none
def splitNX (a : ByteArray × ByteArray × Int) : Option (List ByteArray) := bif decide (a.1.size < 4294967281 ∧ 1 ≤ a.2.1.size ∧ 1 ≤ a.2.2 ∧ a.2.2 ≤ 1000) then some (Go.Lib.splitB a.2.1 0 (min a.2.2.toNat (a.1.size + 1) - 1) a.1) else none
def splitX (a : ByteArray × ByteArray) : Option (List ByteArray) := bif decide (a.1.size < 4294967281 ∧ 1 ≤ a.2.size) then some (Go.Lib.splitB a.2 0 (Go.Lib.countB a.1 a.2) a.1) else none
def numA (r : Go.Lib.NumEnd Int) (s : ByteArray) : Int × Bool := match r with
  | .ok n => bif decide (0 ≤ n ∧ n ≤ 999999) && beqS ⟨(Go.Lib.itoa n).toArray⟩ s then (n, true) else (0, false)
  | _ => (0, false)
def numberX (s : ByteArray) : Option (Int × Bool) := bif decide (s.size ≤ 1099511627776) then some (numA (Go.Lib.atoiAll s.data.toList) s) else none
theorem gPow : Tryd.prog.globalNamed "internal/strconv.uint64pow10" = some 3 := by kernel_rfl
theorem pow_same {w w' : World} (h : w'.heap[(3 : Nat)]? = w.heap[(3 : Nat)]?) (hg : Lib.TabIs Tryd.prog w "internal/strconv.uint64pow10" .u64 Lib.pow10Tab) : Lib.TabIs Tryd.prog w' "internal/strconv.uint64pow10" .u64 Lib.pow10Tab := by
  unfold Lib.TabIs World.var? at hg ⊢
  rw [gPow] at hg ⊢
  simp only [Option.bind_some] at hg ⊢
  rw [h]
  exact hg
def gT : Glob := ⟨fun w => Lib.TabIs Tryd.prog w "internal/strconv.uint64pow10" .u64 Lib.pow10Tab ∧ (∃ m, w.cell? ⟨0, 0, none⟩ = some (.int .i64 m)) ∧ (∃ te pe, w.cell? ⟨1, 0, none⟩ = some (.iface te pe)) ∧ (∃ te pe, w.cell? ⟨2, 0, none⟩ = some (.iface te pe)), [3, 0, 1, 2], fun w w' h hg => ⟨pow_same (h 3 (by simp)) hg.1, (show ∃ m, w'.cell? _ = _ from (World.cell?_of_block (a := ⟨0, 0, none⟩) (h 0 (by simp))).symm ▸ hg.2.1), (show ∃ te pe, w'.cell? _ = _ from (World.cell?_of_block (a := ⟨1, 0, none⟩) (h 1 (by simp))).symm ▸ hg.2.2.1), (show ∃ te pe, w'.cell? _ = _ from (World.cell?_of_block (a := ⟨2, 0, none⟩) (h 2 (by simp))).symm ▸ hg.2.2.2)⟩⟩
abbrev terrorAddressString : Tys := (.cons .str (.cons (.int .u64) .nil))
abbrev XerrorAddressString : Type := ByteArray × Int
abbrev tacceptRange : Tys := (.cons (.int .u8) (.cons (.int .u8) .nil))
abbrev XacceptRange : Type := Int × Int
abbrev tFloor : Tys := (.cons (.int .i64) (.cons (.int .i64) .nil))
abbrev XFloor : Type := Int × Int
abbrev tTree : Tys := (.cons (.sl (.cons (.int .i64) .nil)) (.cons (.int .i64) .nil))
abbrev XTree : Type := (List Int) × Int
abbrev tboundsError : Tys := (.cons (.int .i64) (.cons (.int .i64) (.cons .bool (.cons (.int .u8) .nil))))
abbrev XboundsError : Type := Int × Int × Bool × Int
abbrev tl1Cur : Tys := (.cons (.sl (.cons (.int .u8) .nil)) (.cons (.int .i64) (.cons (.int .i64) .nil)))
abbrev Xl1Cur : Type := (List Int) × Int × Int
abbrev tEntry : Tys := (.cons (.int .i64) (.cons (.int .i64) (.cons (.int .i64) (.cons (.int .i64) (.cons .str .nil)))))
abbrev XEntry : Type := Int × Int × Int × Int × ByteArray
abbrev tItem : Tys := (.cons (.int .i64) (.cons (.int .i64) (.cons (.int .i64) (.cons (.int .i64) (.cons (.int .i64) (.cons .str .nil))))))
abbrev XItem : Type := Int × Int × Int × Int × Int × ByteArray
abbrev tState : Tys := (.cons (.sl tItem) (.cons (.sl tFloor) .nil))
abbrev XState : Type := (List XItem) × (List XFloor)
abbrev tMsg : Tys := (.cons (.int .i64) (.cons (.int .i64) (.cons (.int .i64) (.cons (.int .i64) (.cons (.int .i64) (.cons (.sl (.cons (.int .i64) .nil)) (.cons (.int .i64) (.cons (.sl (.cons (.int .i64) .nil)) (.cons (.sl (.cons (.int .i64) .nil)) (.cons (.sl tItem) (.cons (.sl tFloor) (.cons (.sl tFloor) .nil))))))))))))
abbrev XMsg : Type := Int × Int × Int × Int × Int × (List Int) × Int × (List Int) × (List Int) × (List XItem) × (List XFloor) × (List XFloor)
def zerrorAddressString : XerrorAddressString := (ByteArray.empty, 0)
def zacceptRange : XacceptRange := (0, 0)
def zFloor : XFloor := (0, 0)
def zTree : XTree := ([], 0)
def zboundsError : XboundsError := (0, 0, false, 0)
def zl1Cur : Xl1Cur := ([], 0, 0)
def zEntry : XEntry := (0, 0, 0, 0, ByteArray.empty)
def zItem : XItem := (0, 0, 0, 0, 0, ByteArray.empty)
def zState : XState := ([], [])
def zMsg : XMsg := (0, 0, 0, 0, 0, [], 0, [], [], [], [], [])
noncomputable def tyT : BT TI := (.node 51 ⟨true, true, tState, 48, 0, [0, 1], false⟩ (.node 26 ⟨true, true, tEntry, 48, 0, [0, 1, 2, 3, 4], false⟩ (.node 10 ⟨true, false, (.cons .str .nil), 16, 0, [], false⟩ (.node 6 ⟨true, false, (.cons (.int .u8) .nil), 1, 0, [], false⟩ (.node 4 ⟨true, false, (.cons .bool .nil), 1, 0, [], false⟩ (.node 3 ⟨true, false, (.cons (.int .i64) .nil), 8, 0, [], false⟩ (.node 2 ⟨true, false, (.cons (.int .i64) .nil), 8, 0, [], false⟩ .leaf .leaf) .leaf) (.node 5 ⟨true, false, (.cons (.int .u8) .nil), 1, 0, [], false⟩ .leaf .leaf)) (.node 8 ⟨true, true, tboundsError, 24, 0, [0, 1, 2, 3], false⟩ (.node 7 ⟨true, true, tboundsError, 24, 0, [0, 1, 2, 3], false⟩ .leaf .leaf) (.node 9 ⟨true, false, (.cons .str .nil), 16, 0, [], false⟩ .leaf .leaf))) (.node 14 ⟨true, true, terrorAddressString, 24, 0, [0, 1], false⟩ (.node 12 ⟨true, false, (.cons (.int .u64) .nil), 8, 0, [], false⟩ (.node 11 ⟨true, false, (.cons .str .nil), 16, 0, [], false⟩ .leaf .leaf) (.node 13 ⟨true, true, terrorAddressString, 24, 0, [0, 1], false⟩ .leaf .leaf)) (.node 22 ⟨true, true, tEntry, 48, 0, [0, 1, 2, 3, 4], false⟩ (.node 21 ⟨true, false, (.cons (.int .i32) .nil), 4, 0, [], false⟩ .leaf .leaf) (.node 23 ⟨true, true, tEntry, 48, 0, [0, 1, 2, 3, 4], false⟩ .leaf .leaf)))) (.node 41 ⟨true, true, tState, 48, 0, [0, 1], false⟩ (.node 37 ⟨true, true, tTree, 32, 0, [0, 1], false⟩ (.node 32 ⟨true, false, (.cons (.sl tEntry) .nil), 24, 26, [], false⟩ (.node 29 ⟨true, false, (.cons (.sl tEntry) .nil), 24, 23, [], false⟩ .leaf .leaf) (.node 36 ⟨true, false, (.cons (.sl (.cons (.int .i64) .nil)) .nil), 24, 3, [], false⟩ .leaf .leaf)) (.node 39 ⟨true, false, (.cons (.sl tItem) .nil), 24, 145, [], false⟩ (.node 38 ⟨true, true, tTree, 32, 0, [0, 1], false⟩ .leaf .leaf) (.node 40 ⟨true, false, (.cons (.sl tFloor) .nil), 24, 150, [], false⟩ .leaf .leaf))) (.node 45 ⟨true, true, tMsg, 192, 0, [0, 1, 2, 3, 4, 5, 7, 8, 9, 11], false⟩ (.node 43 ⟨true, false, (.cons (.sl tFloor) .nil), 24, 132, [], false⟩ (.node 42 ⟨true, true, tState, 48, 0, [0, 1], false⟩ .leaf .leaf) (.node 44 ⟨true, true, tMsg, 192, 0, [0, 1, 2, 3, 4, 5, 7, 8, 9, 11], false⟩ .leaf .leaf)) (.node 49 ⟨true, false, (.cons (.sl tItem) .nil), 24, 124, [], false⟩ (.node 48 ⟨true, true, tTree, 32, 0, [0, 1], false⟩ .leaf .leaf) (.node 50 ⟨true, false, (.cons (.sl tFloor) .nil), 24, 127, [], false⟩ .leaf .leaf))))) (.node 143 ⟨true, true, tEntry, 48, 0, [0, 1, 2, 3, 4], false⟩ (.node 123 ⟨true, true, tItem, 56, 0, [0, 1], false⟩ (.node 66 ⟨true, false, (.cons (.sl (.cons (.int .u8) .nil)) .nil), 24, 5, [], false⟩ (.node 54 ⟨true, true, tMsg, 192, 0, [0, 1, 2, 3, 4, 5, 7, 8, 9, 11], false⟩ (.node 53 ⟨true, false, (.cons (.sl tFloor) .nil), 24, 130, [], false⟩ (.node 52 ⟨true, true, tState, 48, 0, [0, 1], false⟩ .leaf .leaf) .leaf) (.node 55 ⟨true, true, tMsg, 192, 0, [0, 1, 2, 3, 4, 5, 7, 8, 9, 11], false⟩ .leaf .leaf)) (.node 121 ⟨true, true, tEntry, 48, 0, [0, 1, 2, 3, 4], false⟩ (.node 72 ⟨true, false, (.cons (.sl (.cons .str .nil)) .nil), 24, 9, [], false⟩ .leaf .leaf) (.node 122 ⟨true, true, tEntry, 48, 0, [0, 1, 2, 3, 4], false⟩ .leaf .leaf))) (.node 130 ⟨true, true, tFloor, 16, 0, [0, 1], false⟩ (.node 126 ⟨true, true, tFloor, 16, 0, [0, 1], false⟩ (.node 124 ⟨true, true, tItem, 56, 0, [0, 1], false⟩ .leaf .leaf) (.node 127 ⟨true, true, tFloor, 16, 0, [0, 1], false⟩ .leaf .leaf)) (.node 138 ⟨true, true, tl1Cur, 40, 0, [0, 1, 2], false⟩ (.node 132 ⟨true, true, tFloor, 16, 0, [0, 1], false⟩ .leaf .leaf) (.node 139 ⟨true, true, tl1Cur, 40, 0, [0, 1, 2], false⟩ .leaf .leaf)))) (.node 193 ⟨true, true, tacceptRange, 2, 0, [0, 1], false⟩ (.node 155 ⟨true, false, (.cons (.int .u64) .nil), 8, 0, [], false⟩ (.node 145 ⟨true, true, tItem, 56, 0, [0, 1], false⟩ (.node 144 ⟨true, true, tItem, 56, 0, [0, 1], false⟩ .leaf .leaf) (.node 150 ⟨true, true, tFloor, 16, 0, [0, 1], false⟩ .leaf .leaf)) (.node 174 ⟨true, false, (.cons (.int .u32) .nil), 4, 0, [], false⟩ (.node 168 ⟨true, false, (.cons (.int .i64) .nil), 8, 0, [], false⟩ .leaf .leaf) (.node 178 ⟨true, false, (.cons (.int .u64) .nil), 8, 0, [], false⟩ .leaf .leaf))) (.node 209 ⟨true, false, (.cons (.int .u8) .nil), 1, 0, [], false⟩ (.node 198 ⟨true, true, (.cons .str .nil), 16, 0, [0], false⟩ (.node 194 ⟨true, true, tacceptRange, 2, 0, [0, 1], false⟩ .leaf .leaf) (.node 199 ⟨true, true, (.cons .str .nil), 16, 0, [0], false⟩ .leaf .leaf)) (.node 212 ⟨true, false, (.cons (.int .i32) .nil), 4, 0, [], false⟩ (.node 210 ⟨true, false, (.cons (.int .u8) .nil), 1, 0, [], false⟩ .leaf .leaf) (.node 213 ⟨true, false, (.cons (.int .i32) .nil), 4, 0, [], false⟩ .leaf .leaf))))))
noncomputable def cbQ (r : Nat) : Nat → List SkC → List (Nat × Nat × SkC)
  | _, [] => []
  | k, x :: l => (r, k, x) :: cbQ r (k + 1) l
noncomputable def cQ0 : List (Eng.Mode × Ty) := [(.ro, .str)]
noncomputable def pQ1 : PSig := .val false cQ0
noncomputable def cQ2 : List (Eng.Mode × Ty) := [(.ro, .bool)]
noncomputable def pQ3 : PSig := .val false cQ2
noncomputable def cQ4 : List (Eng.Mode × Ty) := [(.ro, (.sl tEntry))]
noncomputable def pQ5 : PSig := .val false cQ4
noncomputable def cQ6 : List (Eng.Mode × Ty) := [(.own, (.sl tEntry))]
noncomputable def pQ7 : PSig := .val false cQ6
noncomputable def cQ8 : List (Eng.Mode × Ty) := [(.mut, (.sl tEntry))]
noncomputable def pQ9 : PSig := .val false cQ8
noncomputable def cQ10 : List (Eng.Mode × Ty) := [(.ro, (.int .i64))]
noncomputable def pQ11 : PSig := .val false cQ10
noncomputable def cQ12 : List (Eng.Mode × Ty) := [(.ro, (.int .i64)), (.ro, (.int .i64)), (.ro, (.int .i64)), (.ro, (.int .i64)), (.ro, .str)]
noncomputable def pQ13 : PSig := .val true cQ12
noncomputable def cQ14 : List (Eng.Mode × Ty) := [(.ro, (.int .u8))]
noncomputable def pQ15 : PSig := .val false cQ14
noncomputable def tQ16 : Ty := (.sl (.cons .str .nil))
noncomputable def cQ17 : List (Eng.Mode × Ty) := [(.own, tQ16)]
noncomputable def pQ18 : PSig := .val false cQ17
noncomputable def cQ19 : List (Eng.Mode × Ty) := [(.ro, tQ16)]
noncomputable def pQ20 : PSig := .val false cQ19
noncomputable def uQ21 : SkT := .val false [.ro (.sl tEntry)]
noncomputable def uQ22 : SkT := .val false [.sc (.int .i64)]
noncomputable def kQ23 : Sk := ⟨[(0, uQ21), (1, uQ21), (5, uQ22)], [], []⟩
noncomputable def uQ24 : SkT := .val false [.sc .bool]
noncomputable def kQ25 : Sk := ⟨[(4, uQ24)], [], []⟩
noncomputable def kQ26 : Sk := ⟨[], [], []⟩
noncomputable def uQ27 : SkT := .val false [.vw 4 0]
noncomputable def uQ28 : SkT := .val false [.vw 5 0]
noncomputable def kQ29 : Sk := ⟨[(4, uQ27), (5, uQ28), (6, uQ22)], [(4, 0, .own (.sl tEntry) true none), (5, 0, .own tQ16 true none)], []⟩
noncomputable def uQ30 : SkT := .val false [.vw 2 0]
noncomputable def kQ31 : Sk := ⟨[(2, uQ30), (3, uQ24)], [(2, 0, .own (.sl tEntry) true none)], []⟩
noncomputable def kQ32 : Sk := ⟨[(4, uQ27)], [(4, 0, .own (.sl tEntry) true none)], []⟩
noncomputable def uQ33 : SkT := .val false [.ro tQ16]
noncomputable def kQ34 : Sk := ⟨[(4, uQ27), (23, uQ33), (24, uQ22), (25, uQ22)], [(4, 0, .own (.sl tEntry) true none)], []⟩
noncomputable def uQ35 : SkT := .val false [.vw 0 0]
noncomputable def kQ36 : Sk := ⟨[(0, uQ35), (1, uQ22), (5, uQ22)], [(0, 0, .own (.sl tEntry) true (some (0, 0)))], []⟩
noncomputable def kQ37 : Sk := ⟨[(1, uQ22)], [(0, 0, .own (.sl tEntry) true (some (0, 0)))], []⟩
noncomputable def kQ38 : Sk := ⟨[(0, uQ21), (1, uQ22), (5, uQ22)], [], []⟩
noncomputable def kQ39 : Sk := ⟨[(4, uQ22)], [], []⟩
noncomputable def kQ40 : Sk := ⟨[(1, uQ22)], [], []⟩
noncomputable def uQ41 : SkT := .val false [.sc .str]
noncomputable def kQ42 : Sk := ⟨[(0, uQ41), (2, .ptr 2 0), (4, uQ27), (5, uQ22), (6, uQ24), (7, uQ22), (8, uQ24), (9, uQ22), (10, uQ24), (11, uQ22), (12, uQ24), (13, uQ41), (14, uQ22)], [(4, 0, .own tQ16 true none)], [(2, 5)]⟩
noncomputable def kQ43 : Sk := ⟨[(0, uQ41), (2, .ptr 2 0), (5, uQ22), (6, uQ24), (7, uQ22), (8, uQ24), (9, uQ22), (10, uQ24), (11, uQ22), (12, uQ24), (13, uQ41)], [], [(2, 5)]⟩
noncomputable def uQ44 : SkT := .val false [.sc (.int .u8)]
noncomputable def kQ45 : Sk := ⟨[(0, uQ41), (1, uQ44), (5, uQ28), (6, uQ22), (7, uQ22)], [(5, 0, .own tQ16 true none)], []⟩
noncomputable def kQ46 : Sk := ⟨[(5, uQ28)], [(5, 0, .own tQ16 true none)], []⟩
noncomputable def tQ47 : Ty := (.sl (.cons (.int .i64) .nil))
noncomputable def kQ48 : Sk := ⟨[(0, uQ41), (2, .ptr 2 0), (4, uQ33), (5, uQ28), (19, uQ33), (20, uQ22), (21, uQ22)], [(5, 0, .own tQ47 true none)], [(2, 5)]⟩
noncomputable def sQ49 : List SkC := [.sc (.int .i64), .sc (.int .i64), .sc (.int .i64), .sc (.int .i64), .sc .str]
noncomputable def kQ50 : Sk := ⟨[(2, .ptr 2 0), (3, uQ24)], cbQ 2 0 sQ49, [(2, 5)]⟩
noncomputable def kQ51 : Sk := ⟨[(0, uQ41), (2, .ptr 2 0), (4, uQ33), (5, uQ28)], [(5, 0, .own tQ47 true none)], [(2, 5)]⟩
noncomputable def kQ52 : Sk := ⟨[(0, uQ22), (3, uQ41)], [], []⟩
noncomputable def kQ53 : Sk := ⟨[(3, uQ41)], [], []⟩
noncomputable def kQ54 : Sk := ⟨[(0, uQ41), (4, uQ22), (5, uQ22)], [], []⟩
noncomputable def kQ55 : Sk := ⟨[(2, uQ22), (3, uQ24)], [], []⟩
noncomputable def kQ56 : Sk := ⟨[(0, uQ41), (4, uQ22)], [], []⟩
noncomputable def uQ57 : SkT := .val false [.vw 3 0]
noncomputable def uQ58 : SkT := .val false [.vw 31 0]
noncomputable def kQ59 : Sk := ⟨[(1, .ptr 1 0), (3, uQ57), (31, uQ58), (32, uQ22), (33, uQ22)], cbQ 1 0 sQ49 ++ [(3, 0, .own tQ16 true none), (31, 0, .own tQ47 true none)], [(1, 5)]⟩
noncomputable def kQ60 : Sk := ⟨[(2, uQ41)], [], []⟩
noncomputable def kQ61 : Sk := ⟨[(1, .ptr 1 0), (3, uQ57)], cbQ 1 0 sQ49 ++ [(3, 0, .own tQ16 true none)], [(1, 5)]⟩
noncomputable def kQ62 : Sk := ⟨[(0, uQ22), (3, uQ24), (4, uQ41)], [], []⟩
noncomputable def kQ63 : Sk := ⟨[(3, uQ24), (4, uQ41)], [], []⟩
noncomputable def sigT : BT Sig := (.node 36 ⟨[pQ11], [pQ1]⟩ (.node 25 ⟨[pQ13, pQ13], [pQ3]⟩ (.node 17 ⟨[pQ5, pQ5], [pQ3]⟩ (.node 10 ⟨[pQ13], [pQ1]⟩ (.node 7 ⟨[pQ1], [pQ3]⟩ .leaf .leaf) (.node 12 ⟨[pQ13], [pQ1]⟩ .leaf .leaf)) (.node 24 ⟨[pQ1], [pQ13, pQ3]⟩ (.node 23 ⟨[pQ1], [pQ13, pQ3]⟩ .leaf .leaf) .leaf)) (.node 29 ⟨[pQ5, pQ11], [pQ11]⟩ (.node 27 ⟨[pQ1], [pQ7, pQ3]⟩ (.node 26 ⟨[pQ1], [pQ7, pQ3]⟩ .leaf .leaf) (.node 28 ⟨[pQ9, pQ11], [pQ11]⟩ .leaf .leaf)) (.node 35 ⟨[pQ1, pQ15], [pQ18]⟩ (.node 34 ⟨[pQ11, pQ11, pQ11], [pQ3]⟩ .leaf .leaf) .leaf))) (.node 60 ⟨[pQ1], [pQ11, pQ3]⟩ (.node 40 ⟨[pQ20, pQ1], [pQ1]⟩ (.node 38 ⟨[pQ1, pQ1], [pQ3]⟩ (.node 37 ⟨[pQ11, pQ11, pQ11], [pQ3]⟩ .leaf .leaf) (.node 39 ⟨[pQ11], [pQ1]⟩ .leaf .leaf)) (.node 59 ⟨[pQ1, pQ1, pQ11], [pQ20]⟩ (.node 58 ⟨[pQ1], [pQ11, pQ3]⟩ .leaf .leaf) .leaf)) (.node 71 ⟨[pQ11], [pQ1]⟩ (.node 62 ⟨[pQ1, pQ1], [pQ20]⟩ (.node 61 ⟨[pQ1, pQ1], [pQ1, pQ3]⟩ .leaf .leaf) (.node 63 ⟨[pQ11], [pQ1]⟩ .leaf .leaf)) (.node 116 ⟨[pQ1, pQ1], [pQ3]⟩ (.node 96 ⟨[pQ1, pQ1], [pQ1, pQ3]⟩ .leaf .leaf) .leaf))))
noncomputable def codeT : BT Func := (.node 36 Tryd.f36 (.node 25 Tryd.f25 (.node 17 Tryd.f17 (.node 10 Tryd.f10 (.node 7 Tryd.f7 .leaf .leaf) (.node 12 Tryd.f12 .leaf .leaf)) (.node 24 Tryd.f24 (.node 23 Tryd.f23 .leaf .leaf) .leaf)) (.node 29 Tryd.f29 (.node 27 Tryd.f27 (.node 26 Tryd.f26 .leaf .leaf) (.node 28 Tryd.f28 .leaf .leaf)) (.node 35 Tryd.f35 (.node 34 Tryd.f34 .leaf .leaf) .leaf))) (.node 60 Tryd.f60 (.node 40 Tryd.f40 (.node 38 Tryd.f38 (.node 37 Tryd.f37 .leaf .leaf) (.node 39 Tryd.f39 .leaf .leaf)) (.node 59 Tryd.f59 (.node 58 Tryd.f58 .leaf .leaf) .leaf)) (.node 71 Tryd.f71 (.node 62 Tryd.f62 (.node 61 Tryd.f61 .leaf .leaf) (.node 63 Tryd.f63 .leaf .leaf)) (.node 116 Tryd.f116 (.node 96 Tryd.f96 .leaf .leaf) .leaf))))
noncomputable def lsigT : BT LSig := (.node 280000 ⟨kQ36, [(.exit 0, kQ37)]⟩ (.node 240000 ⟨kQ48, [(.ret, kQ50), (.exit 0, kQ51)]⟩ (.node 170000 ⟨kQ23, [(.ret, kQ25), (.exit 0, kQ26)]⟩ (.node 120000 ⟨kQ59, [(.ret, kQ60), (.exit 0, kQ61)]⟩ .leaf .leaf) (.node 230000 ⟨kQ42, [(.exit 0, kQ43)]⟩ .leaf .leaf)) (.node 270000 ⟨kQ34, [(.ret, kQ31), (.exit 0, kQ32)]⟩ (.node 260000 ⟨kQ29, [(.ret, kQ31), (.exit 0, kQ32)]⟩ .leaf .leaf) .leaf)) (.node 360000 ⟨kQ62, [(.exit 0, kQ63)]⟩ (.node 350000 ⟨kQ45, [(.exit 0, kQ46)]⟩ (.node 290000 ⟨kQ38, [(.ret, kQ39), (.exit 0, kQ40)]⟩ .leaf .leaf) .leaf) (.node 630000 ⟨kQ52, [(.exit 0, kQ53)]⟩ (.node 580000 ⟨kQ54, [(.ret, kQ55), (.exit 0, kQ56)]⟩ .leaf .leaf) .leaf)))
noncomputable def varT : BT (List Nat) := .leaf
noncomputable def instT : BT Nat := .leaf
noncomputable def keepT : BT (List Nat) := .leaf
noncomputable def realT : BT Nat := .leaf
noncomputable def extT : (f : Nat) → Option (Vals (sigT.get ⟨[], []⟩ f).ins → Option (Vals (sigT.get ⟨[], []⟩ f).outs)) := fun f =>
  if h : f = 38 then some (cast (by subst h; kernel_rfl) containsX) else
  if h : f = 40 then some (cast (by subst h; kernel_rfl) joinX) else
  if h : f = 71 then some (cast (by subst h; kernel_rfl) itoaX) else
  if h : f = 59 then some (cast (by subst h; kernel_rfl) splitNX) else
  if h : f = 62 then some (cast (by subst h; kernel_rfl) splitX) else
  if h : f = 60 then some (cast (by subst h; kernel_rfl) numberX) else
  none
noncomputable def E : Env := mkEnv tyT sigT codeT lsigT varT instT keepT realT extT gT
abbrev w : DFun E := W E
abbrev wl : LFun E := WL E
abbrev FT (A B : Type) : Type := DFun E → A → Option B
abbrev LT (A B : Type) : Type := LFun E → A → Option B
abbrev RT (A B : Type) : Type := DFun E → LFun E → A → Option B
abbrev aF (f : Nat) {A B : Type} (hA : Vals (E.sig f).ins = A := by kernel_rfl) (hB : Vals (E.sig f).outs = B := by kernel_rfl) : FT A B := ap hA hB
abbrev aL (f b : Nat) {A B : Type} (hA : Vals (E.lsig f b).sk.tys = A := by kernel_rfl) (hB : Alts (exTys (E.lsig f b).exits) = B := by kernel_rfl) : LT A B := apL hA hB
abbrev OfF {A B : Type} (X : FT A B) (R : RT A B) : Prop := ∀ {a : A} {o : B}, R w wl a = some o → X w a = some o
abbrev OfL {A B : Type} (X : LT A B) (R : RT A B) : Prop := ∀ {a : A} {o : B}, R w wl a = some o → X wl a = some o
theorem ofF {A B : Type} {X : FT A B} {R : RT A B} (f : Nat) (h : ∀ D L a, X (stepD E D L) a = R D L a) (hA : Vals (E.sig f).ins = A := by kernel_rfl) (hB : Vals (E.sig f).outs = B := by kernel_rfl) (e : X = aF f hA hB := by kernel_rfl) : OfF X R := fun {a _} => by subst e; exact ap_close hA hB (h w wl a)
theorem ofL {A B : Type} {X : LT A B} {R : RT A B} (f b : Nat) (h : ∀ D L a, X (stepL E D L) a = R D L a) (hA : Vals (E.lsig f b).sk.tys = A := by kernel_rfl) (hB : Alts (exTys (E.lsig f b).exits) = B := by kernel_rfl) (e : X = aL f b hA hB := by kernel_rfl) : OfL X R := fun {a _} => by subst e; exact apL_close hA hB (h w wl a)
def laws_FnExactDeedsOf : FT ByteArray Bool := aF 7
def laws_eqDeedS : FT ((List XEntry) × (List XEntry)) Bool := aF 17
def laws_eqDeedS_k0 : LT ((List XEntry) × (List XEntry) × Int) (Bool ⊕ Unit) := aL 17 0
def spec_DeedsOf : FT ByteArray ((List XEntry) × Bool) := aF 26
def spec_DeedsOf_k0 : LT (Int × (List XEntry) × (List ByteArray)) (((Bool × (List XEntry))) ⊕ (List XEntry)) := aL 26 0
def impl_DeedsOf : FT ByteArray ((List XEntry) × Bool) := aF 27
def impl_DeedsOf_k0 : LT ((List ByteArray) × Int × Int × (List XEntry)) (((Bool × (List XEntry))) ⊕ (List XEntry)) := aL 27 0
def laws_markDeedS : FT ((List XEntry) × Int) (Int × (List XEntry)) := aF 28
def laws_markDeedS_k0 : LT (Int × Int × (List XEntry)) ((Int × (List XEntry))) := aL 28 0
def laws_heldDeedS : FT ((List XEntry) × Int) Int := aF 29
def laws_heldDeedS_k0 : LT ((List XEntry) × Int × Int) (Int ⊕ Int) := aL 29 0
def laws_eqDeed : FT (Int × Int × Int × Int × ByteArray × Int × Int × Int × Int × ByteArray) Bool := aF 25
def spec_DeedOf : FT ByteArray (Int × Int × Int × Int × ByteArray × Bool) := aF 23
def spec_DeedOf_k0 : LT (ByteArray × Int × Bool × Int × Bool × Int × Bool × Int × Bool × ByteArray × Int × (List ByteArray)) ((ByteArray × Int × Bool × Int × Bool × Int × Bool × Int × Bool × ByteArray)) := aL 23 0
def spec_Parts : FT (ByteArray × Int) (List ByteArray) := aF 35
def spec_Parts_k0 : LT (ByteArray × Int × Int × Int × (List ByteArray)) (List ByteArray) := aL 35 0
def impl_DeedOf : FT ByteArray (Int × Int × Int × Int × ByteArray × Bool) := aF 24
def impl_DeedOf_k0 : LT (ByteArray × (List ByteArray) × (List ByteArray) × Int × Int × (List Int)) (((Bool × Int × Int × Int × Int × ByteArray)) ⊕ ((ByteArray × (List ByteArray) × (List Int)))) := aL 24 0
def strings_CutSuffix : FT (ByteArray × ByteArray) (ByteArray × Bool) := aF 61
def strings_Split : FT (ByteArray × ByteArray) (List ByteArray) := aF 62
def laws_markText : FT Int ByteArray := aF 63
def laws_markText_k0 : LT (Int × ByteArray) ByteArray := aL 63 0
def spec_DeedText : FT XEntry ByteArray := aF 10
def spec_Number : FT ByteArray (Int × Bool) := aF 58
def spec_Number_k0 : LT (ByteArray × Int × Int) (((Int × Bool)) ⊕ ((ByteArray × Int))) := aL 58 0
def impl_DeedText : FT XEntry ByteArray := aF 12
def impl_DeedText_k0 : LT (Int × Int × Int × Int × Int × Int × ByteArray × (List ByteArray) × (List Int)) (ByteArray ⊕ ((Int × Int × Int × Int × ByteArray × (List ByteArray)))) := aL 12 0
def strings_SplitN : FT (ByteArray × ByteArray × Int) (List ByteArray) := aF 59
def impl_Number : FT ByteArray (Int × Bool) := aF 60
def internal_stringslite_CutSuffix : FT (ByteArray × ByteArray) (ByteArray × Bool) := aF 96
def spec_l1In : FT (Int × Int × Int) Bool := aF 34
def spec_Digits : FT Int ByteArray := aF 36
def spec_Digits_k0 : LT (Int × Bool × ByteArray) ((Bool × ByteArray)) := aL 36 0
def impl_within : FT (Int × Int × Int) Bool := aF 37
def strings_Contains : FT (ByteArray × ByteArray) Bool := aF 38
def impl_Digits : FT Int ByteArray := aF 39
def strings_Join : FT ((List ByteArray) × ByteArray) ByteArray := aF 40
def internal_stringslite_HasSuffix : FT (ByteArray × ByteArray) Bool := aF 116
def strconv_Itoa : FT Int ByteArray := aF 71
end
end Go.Proofs.YtameehmkoglkeaaDoor.M
