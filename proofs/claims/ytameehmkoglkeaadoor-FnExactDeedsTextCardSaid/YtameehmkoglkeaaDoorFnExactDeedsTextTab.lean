/- The functions that FnExactDeedsText reaches, as tables. No conditions. -/
import Derived.Test.YtameehmkoglkeaaDoorEng4
import Derived.Lib.Index
import Derived.Lib.ItoaNum
import Derived.Lib.Join
import Derived.Lib.LaidTab
import Derived.Test.YtameehmkoglkeaaDoorChecked
set_option linter.all false
namespace Go.Proofs.YtameehmkoglkeaaDoor.M
open Go Go.Eng Go.Proofs
set_option linter.unusedVariables false
noncomputable section
def containsX (a : ByteArray × ByteArray) : Option Bool := bif decide (a.2.size = 1) then some (decide (0 ≤ Go.Lib.indexByte a.1.data.toList (a.2.data.getD 0 0))) else none
def joinX (a : (List ByteArray) × ByteArray) : Option ByteArray := bif decide (a.1.length ≤ 140737488355328 ∧ (Go.Lib.join (a.1.map (·.data.toList)) a.2.data.toList).length ≤ 140737488355328) then some ⟨(Go.Lib.join (a.1.map (·.data.toList)) a.2.data.toList).toArray⟩ else none
def itoaX (n : Int) : Option ByteArray := bif decide (-9223372036854775808 ≤ n ∧ n ≤ 9223372036854775807) then some ⟨(Go.Lib.itoa n).toArray⟩ else none
theorem gPow : Tryd.prog.globalNamed "internal/strconv.uint64pow10" = some 3 := by kernel_rfl
def gT : Glob := ⟨fun w => Lib.TabIs Tryd.prog w "internal/strconv.uint64pow10" .u64 Lib.pow10Tab, [3], fun w w' h hg => by
  unfold Lib.TabIs World.var? at hg ⊢
  rw [gPow] at hg ⊢
  simp only [Option.bind_some] at hg ⊢
  rw [h 3 (by simp)]
  exact hg⟩
abbrev terrorAddressString : Tys := (.cons .str (.cons (.int .u64) .nil))
abbrev XerrorAddressString : Type := ByteArray × Int
abbrev tacceptRange : Tys := (.cons (.int .u8) (.cons (.int .u8) .nil))
abbrev XacceptRange : Type := Int × Int
abbrev tFloor : Tys := (.cons (.int .i64) (.cons (.int .i64) .nil))
abbrev XFloor : Type := Int × Int
abbrev tTree : Tys := (.cons (.sl (.cons (.int .i64) .nil)) (.cons (.int .i64) .nil))
abbrev XTree : Type := (List Int) × Int
abbrev tboundsError : Tys := (.cons (.int .i64) (.cons (.int .i64) (.cons .bool (.cons (.int .u8) .nil))))
abbrev XboundsError : Type := Int × Int × Bool × Int
abbrev tl1Cur : Tys := (.cons (.sl (.cons (.int .u8) .nil)) (.cons (.int .i64) (.cons (.int .i64) .nil)))
abbrev Xl1Cur : Type := (List Int) × Int × Int
abbrev tEntry : Tys := (.cons (.int .i64) (.cons (.int .i64) (.cons (.int .i64) (.cons (.int .i64) (.cons .str .nil)))))
abbrev XEntry : Type := Int × Int × Int × Int × ByteArray
abbrev tItem : Tys := (.cons (.int .i64) (.cons (.int .i64) (.cons (.int .i64) (.cons (.int .i64) (.cons (.int .i64) (.cons .str .nil))))))
abbrev XItem : Type := Int × Int × Int × Int × Int × ByteArray
abbrev tState : Tys := (.cons (.sl tItem) (.cons (.sl tFloor) .nil))
abbrev XState : Type := (List XItem) × (List XFloor)
abbrev tMsg : Tys := (.cons (.int .i64) (.cons (.int .i64) (.cons (.int .i64) (.cons (.int .i64) (.cons (.int .i64) (.cons (.sl (.cons (.int .i64) .nil)) (.cons (.int .i64) (.cons (.sl (.cons (.int .i64) .nil)) (.cons (.sl (.cons (.int .i64) .nil)) (.cons (.sl tItem) (.cons (.sl tFloor) (.cons (.sl tFloor) .nil))))))))))))
abbrev XMsg : Type := Int × Int × Int × Int × Int × (List Int) × Int × (List Int) × (List Int) × (List XItem) × (List XFloor) × (List XFloor)
def zerrorAddressString : XerrorAddressString := (ByteArray.empty, 0)
def zacceptRange : XacceptRange := (0, 0)
def zFloor : XFloor := (0, 0)
def zTree : XTree := ([], 0)
def zboundsError : XboundsError := (0, 0, false, 0)
def zl1Cur : Xl1Cur := ([], 0, 0)
def zEntry : XEntry := (0, 0, 0, 0, ByteArray.empty)
def zItem : XItem := (0, 0, 0, 0, 0, ByteArray.empty)
def zState : XState := ([], [])
def zMsg : XMsg := (0, 0, 0, 0, 0, [], 0, [], [], [], [], [])
noncomputable def tyT : BT TI := (.node 51 ⟨true, true, tState, 48, 0, [0, 1], false⟩ (.node 26 ⟨true, true, tEntry, 48, 0, [0, 1, 2, 3, 4], false⟩ (.node 10 ⟨true, false, (.cons .str .nil), 16, 0, [], false⟩ (.node 6 ⟨true, false, (.cons (.int .u8) .nil), 1, 0, [], false⟩ (.node 4 ⟨true, false, (.cons .bool .nil), 1, 0, [], false⟩ (.node 3 ⟨true, false, (.cons (.int .i64) .nil), 8, 0, [], false⟩ (.node 2 ⟨true, false, (.cons (.int .i64) .nil), 8, 0, [], false⟩ .leaf .leaf) .leaf) (.node 5 ⟨true, false, (.cons (.int .u8) .nil), 1, 0, [], false⟩ .leaf .leaf)) (.node 8 ⟨true, true, tboundsError, 24, 0, [0, 1, 2, 3], false⟩ (.node 7 ⟨true, true, tboundsError, 24, 0, [0, 1, 2, 3], false⟩ .leaf .leaf) (.node 9 ⟨true, false, (.cons .str .nil), 16, 0, [], false⟩ .leaf .leaf))) (.node 14 ⟨true, true, terrorAddressString, 24, 0, [0, 1], false⟩ (.node 12 ⟨true, false, (.cons (.int .u64) .nil), 8, 0, [], false⟩ (.node 11 ⟨true, false, (.cons .str .nil), 16, 0, [], false⟩ .leaf .leaf) (.node 13 ⟨true, true, terrorAddressString, 24, 0, [0, 1], false⟩ .leaf .leaf)) (.node 22 ⟨true, true, tEntry, 48, 0, [0, 1, 2, 3, 4], false⟩ (.node 21 ⟨true, false, (.cons (.int .i32) .nil), 4, 0, [], false⟩ .leaf .leaf) (.node 23 ⟨true, true, tEntry, 48, 0, [0, 1, 2, 3, 4], false⟩ .leaf .leaf)))) (.node 41 ⟨true, true, tState, 48, 0, [0, 1], false⟩ (.node 37 ⟨true, true, tTree, 32, 0, [0, 1], false⟩ (.node 32 ⟨true, false, (.cons (.sl tEntry) .nil), 24, 26, [], false⟩ (.node 29 ⟨true, false, (.cons (.sl tEntry) .nil), 24, 23, [], false⟩ .leaf .leaf) (.node 36 ⟨true, false, (.cons (.sl (.cons (.int .i64) .nil)) .nil), 24, 3, [], false⟩ .leaf .leaf)) (.node 39 ⟨true, false, (.cons (.sl tItem) .nil), 24, 145, [], false⟩ (.node 38 ⟨true, true, tTree, 32, 0, [0, 1], false⟩ .leaf .leaf) (.node 40 ⟨true, false, (.cons (.sl tFloor) .nil), 24, 150, [], false⟩ .leaf .leaf))) (.node 45 ⟨true, true, tMsg, 192, 0, [0, 1, 2, 3, 4, 5, 7, 8, 9, 11], false⟩ (.node 43 ⟨true, false, (.cons (.sl tFloor) .nil), 24, 132, [], false⟩ (.node 42 ⟨true, true, tState, 48, 0, [0, 1], false⟩ .leaf .leaf) (.node 44 ⟨true, true, tMsg, 192, 0, [0, 1, 2, 3, 4, 5, 7, 8, 9, 11], false⟩ .leaf .leaf)) (.node 49 ⟨true, false, (.cons (.sl tItem) .nil), 24, 124, [], false⟩ (.node 48 ⟨true, true, tTree, 32, 0, [0, 1], false⟩ .leaf .leaf) (.node 50 ⟨true, false, (.cons (.sl tFloor) .nil), 24, 127, [], false⟩ .leaf .leaf))))) (.node 143 ⟨true, true, tEntry, 48, 0, [0, 1, 2, 3, 4], false⟩ (.node 123 ⟨true, true, tItem, 56, 0, [0, 1], false⟩ (.node 66 ⟨true, false, (.cons (.sl (.cons (.int .u8) .nil)) .nil), 24, 5, [], false⟩ (.node 54 ⟨true, true, tMsg, 192, 0, [0, 1, 2, 3, 4, 5, 7, 8, 9, 11], false⟩ (.node 53 ⟨true, false, (.cons (.sl tFloor) .nil), 24, 130, [], false⟩ (.node 52 ⟨true, true, tState, 48, 0, [0, 1], false⟩ .leaf .leaf) .leaf) (.node 55 ⟨true, true, tMsg, 192, 0, [0, 1, 2, 3, 4, 5, 7, 8, 9, 11], false⟩ .leaf .leaf)) (.node 121 ⟨true, true, tEntry, 48, 0, [0, 1, 2, 3, 4], false⟩ (.node 72 ⟨true, false, (.cons (.sl (.cons .str .nil)) .nil), 24, 9, [], false⟩ .leaf .leaf) (.node 122 ⟨true, true, tEntry, 48, 0, [0, 1, 2, 3, 4], false⟩ .leaf .leaf))) (.node 130 ⟨true, true, tFloor, 16, 0, [0, 1], false⟩ (.node 126 ⟨true, true, tFloor, 16, 0, [0, 1], false⟩ (.node 124 ⟨true, true, tItem, 56, 0, [0, 1], false⟩ .leaf .leaf) (.node 127 ⟨true, true, tFloor, 16, 0, [0, 1], false⟩ .leaf .leaf)) (.node 138 ⟨true, true, tl1Cur, 40, 0, [0, 1, 2], false⟩ (.node 132 ⟨true, true, tFloor, 16, 0, [0, 1], false⟩ .leaf .leaf) (.node 139 ⟨true, true, tl1Cur, 40, 0, [0, 1, 2], false⟩ .leaf .leaf)))) (.node 193 ⟨true, true, tacceptRange, 2, 0, [0, 1], false⟩ (.node 155 ⟨true, false, (.cons (.int .u64) .nil), 8, 0, [], false⟩ (.node 145 ⟨true, true, tItem, 56, 0, [0, 1], false⟩ (.node 144 ⟨true, true, tItem, 56, 0, [0, 1], false⟩ .leaf .leaf) (.node 150 ⟨true, true, tFloor, 16, 0, [0, 1], false⟩ .leaf .leaf)) (.node 174 ⟨true, false, (.cons (.int .u32) .nil), 4, 0, [], false⟩ (.node 168 ⟨true, false, (.cons (.int .i64) .nil), 8, 0, [], false⟩ .leaf .leaf) (.node 178 ⟨true, false, (.cons (.int .u64) .nil), 8, 0, [], false⟩ .leaf .leaf))) (.node 209 ⟨true, false, (.cons (.int .u8) .nil), 1, 0, [], false⟩ (.node 198 ⟨true, true, (.cons .str .nil), 16, 0, [0], false⟩ (.node 194 ⟨true, true, tacceptRange, 2, 0, [0, 1], false⟩ .leaf .leaf) (.node 199 ⟨true, true, (.cons .str .nil), 16, 0, [0], false⟩ .leaf .leaf)) (.node 212 ⟨true, false, (.cons (.int .i32) .nil), 4, 0, [], false⟩ (.node 210 ⟨true, false, (.cons (.int .u8) .nil), 1, 0, [], false⟩ .leaf .leaf) (.node 213 ⟨true, false, (.cons (.int .i32) .nil), 4, 0, [], false⟩ .leaf .leaf))))))
noncomputable def cbQ (r : Nat) : Nat → List SkC → List (Nat × Nat × SkC)
  | _, [] => []
  | k, x :: l => (r, k, x) :: cbQ r (k + 1) l
noncomputable def cQ0 : List (Eng.Mode × Ty) := [(.ro, (.sl tEntry))]
noncomputable def pQ1 : PSig := .val false cQ0
noncomputable def cQ2 : List (Eng.Mode × Ty) := [(.ro, .bool)]
noncomputable def pQ3 : PSig := .val false cQ2
noncomputable def cQ4 : List (Eng.Mode × Ty) := [(.ro, (.int .i64))]
noncomputable def pQ5 : PSig := .val false cQ4
noncomputable def cQ6 : List (Eng.Mode × Ty) := [(.ro, .str)]
noncomputable def pQ7 : PSig := .val false cQ6
noncomputable def cQ8 : List (Eng.Mode × Ty) := [(.own, (.sl tEntry))]
noncomputable def pQ9 : PSig := .val false cQ8
noncomputable def cQ10 : List (Eng.Mode × Ty) := [(.ro, (.int .i64)), (.ro, (.int .i64)), (.ro, (.int .i64)), (.ro, (.int .i64)), (.ro, .str)]
noncomputable def pQ11 : PSig := .val true cQ10
noncomputable def cQ12 : List (Eng.Mode × Ty) := [(.ro, (.int .u8))]
noncomputable def pQ13 : PSig := .val false cQ12
noncomputable def tQ14 : Ty := (.sl (.cons .str .nil))
noncomputable def cQ15 : List (Eng.Mode × Ty) := [(.own, tQ14)]
noncomputable def pQ16 : PSig := .val false cQ15
noncomputable def cQ17 : List (Eng.Mode × Ty) := [(.ro, tQ14)]
noncomputable def pQ18 : PSig := .val false cQ17
noncomputable def uQ19 : SkT := .val false [.ro (.sl tEntry)]
noncomputable def uQ20 : SkT := .val false [.sc (.int .i64)]
noncomputable def kQ21 : Sk := ⟨[(0, uQ19), (1, uQ20), (5, uQ20)], [], []⟩
noncomputable def kQ22 : Sk := ⟨[(4, uQ20)], [], []⟩
noncomputable def kQ23 : Sk := ⟨[(1, uQ20)], [], []⟩
noncomputable def uQ24 : SkT := .val false [.sc .str]
noncomputable def kQ25 : Sk := ⟨[(0, uQ19), (3, uQ24), (4, uQ20)], [], []⟩
noncomputable def kQ26 : Sk := ⟨[(2, uQ24)], [], []⟩
noncomputable def kQ27 : Sk := ⟨[(3, uQ24)], [], []⟩
noncomputable def uQ28 : SkT := .val false [.vw 3 0]
noncomputable def kQ29 : Sk := ⟨[(0, uQ19), (3, uQ28), (4, uQ20)], [(3, 0, .own (.sl tEntry) true none)], []⟩
noncomputable def kQ30 : Sk := ⟨[(3, uQ28)], [(3, 0, .own (.sl tEntry) true none)], []⟩
noncomputable def kQ31 : Sk := ⟨[(3, uQ24), (7, uQ19), (8, uQ20), (9, uQ20)], [], []⟩
noncomputable def kQ32 : Sk := ⟨[(0, uQ19), (1, uQ19), (5, uQ20)], [], []⟩
noncomputable def uQ33 : SkT := .val false [.sc .bool]
noncomputable def kQ34 : Sk := ⟨[(4, uQ33)], [], []⟩
noncomputable def kQ35 : Sk := ⟨[], [], []⟩
noncomputable def uQ36 : SkT := .val false [.vw 31 0]
noncomputable def tQ37 : Ty := (.sl (.cons (.int .i64) .nil))
noncomputable def sQ38 : List SkC := [.sc (.int .i64), .sc (.int .i64), .sc (.int .i64), .sc (.int .i64), .sc .str]
noncomputable def kQ39 : Sk := ⟨[(1, .ptr 1 0), (3, uQ28), (31, uQ36), (32, uQ20), (33, uQ20)], cbQ 1 0 sQ38 ++ [(3, 0, .own tQ14 true none), (31, 0, .own tQ37 true none)], [(1, 5)]⟩
noncomputable def kQ40 : Sk := ⟨[(1, .ptr 1 0), (3, uQ28)], cbQ 1 0 sQ38 ++ [(3, 0, .own tQ14 true none)], [(1, 5)]⟩
noncomputable def uQ41 : SkT := .val false [.sc (.int .u8)]
noncomputable def uQ42 : SkT := .val false [.vw 5 0]
noncomputable def kQ43 : Sk := ⟨[(0, uQ24), (1, uQ41), (5, uQ42), (6, uQ20), (7, uQ20)], [(5, 0, .own tQ14 true none)], []⟩
noncomputable def kQ44 : Sk := ⟨[(5, uQ42)], [(5, 0, .own tQ14 true none)], []⟩
noncomputable def kQ45 : Sk := ⟨[(0, uQ20), (3, uQ33), (4, uQ24)], [], []⟩
noncomputable def kQ46 : Sk := ⟨[(3, uQ33), (4, uQ24)], [], []⟩
noncomputable def sigT : BT Sig := (.node 17 ⟨[pQ1, pQ1], [pQ3]⟩ (.node 12 ⟨[pQ11], [pQ7]⟩ (.node 10 ⟨[pQ11], [pQ7]⟩ (.node 9 ⟨[pQ11, pQ5], [pQ5]⟩ (.node 4 ⟨[pQ1], [pQ3]⟩ .leaf .leaf) .leaf) (.node 11 ⟨[pQ11], [pQ11]⟩ .leaf .leaf)) (.node 15 ⟨[pQ1], [pQ9]⟩ (.node 14 ⟨[pQ1], [pQ7]⟩ (.node 13 ⟨[pQ1, pQ5], [pQ5]⟩ .leaf .leaf) .leaf) (.node 16 ⟨[pQ1], [pQ7]⟩ .leaf .leaf))) (.node 37 ⟨[pQ5, pQ5, pQ5], [pQ3]⟩ (.node 35 ⟨[pQ7, pQ13], [pQ16]⟩ (.node 34 ⟨[pQ5, pQ5, pQ5], [pQ3]⟩ (.node 25 ⟨[pQ11, pQ11], [pQ3]⟩ .leaf .leaf) .leaf) (.node 36 ⟨[pQ5], [pQ7]⟩ .leaf .leaf)) (.node 40 ⟨[pQ18, pQ7], [pQ7]⟩ (.node 39 ⟨[pQ5], [pQ7]⟩ (.node 38 ⟨[pQ7, pQ7], [pQ3]⟩ .leaf .leaf) .leaf) (.node 71 ⟨[pQ5], [pQ7]⟩ .leaf .leaf))))
noncomputable def codeT : BT Func := (.node 17 Tryd.f17 (.node 12 Tryd.f12 (.node 10 Tryd.f10 (.node 9 Tryd.f9 (.node 4 Tryd.f4 .leaf .leaf) .leaf) (.node 11 Tryd.f11 .leaf .leaf)) (.node 15 Tryd.f15 (.node 14 Tryd.f14 (.node 13 Tryd.f13 .leaf .leaf) .leaf) (.node 16 Tryd.f16 .leaf .leaf))) (.node 37 Tryd.f37 (.node 35 Tryd.f35 (.node 34 Tryd.f34 (.node 25 Tryd.f25 .leaf .leaf) .leaf) (.node 36 Tryd.f36 .leaf .leaf)) (.node 40 Tryd.f40 (.node 39 Tryd.f39 (.node 38 Tryd.f38 .leaf .leaf) .leaf) (.node 71 Tryd.f71 .leaf .leaf))))
noncomputable def lsigT : BT LSig := (.node 160000 ⟨kQ31, [(.ret, kQ26), (.exit 0, kQ27)]⟩ (.node 140000 ⟨kQ25, [(.ret, kQ26), (.exit 0, kQ27)]⟩ (.node 130000 ⟨kQ21, [(.ret, kQ22), (.exit 0, kQ23)]⟩ (.node 120000 ⟨kQ39, [(.ret, kQ26), (.exit 0, kQ40)]⟩ .leaf .leaf) .leaf) (.node 150000 ⟨kQ29, [(.exit 0, kQ30)]⟩ .leaf .leaf)) (.node 350000 ⟨kQ43, [(.exit 0, kQ44)]⟩ (.node 170000 ⟨kQ32, [(.ret, kQ34), (.exit 0, kQ35)]⟩ .leaf .leaf) (.node 360000 ⟨kQ45, [(.exit 0, kQ46)]⟩ .leaf .leaf)))
noncomputable def varT : BT (List Nat) := .leaf
noncomputable def instT : BT Nat := .leaf
noncomputable def keepT : BT (List Nat) := .leaf
noncomputable def realT : BT Nat := .leaf
noncomputable def extT : (f : Nat) → Option (Vals (sigT.get ⟨[], []⟩ f).ins → Option (Vals (sigT.get ⟨[], []⟩ f).outs)) := fun f =>
  if h : f = 38 then some (cast (by subst h; kernel_rfl) containsX) else
  if h : f = 40 then some (cast (by subst h; kernel_rfl) joinX) else
  if h : f = 71 then some (cast (by subst h; kernel_rfl) itoaX) else
  none
noncomputable def E : Env := mkEnv tyT sigT codeT lsigT varT instT keepT realT extT gT
abbrev w : DFun E := W E
abbrev wl : LFun E := WL E
abbrev FT (A B : Type) : Type := DFun E → A → Option B
abbrev LT (A B : Type) : Type := LFun E → A → Option B
abbrev RT (A B : Type) : Type := DFun E → LFun E → A → Option B
abbrev aF (f : Nat) {A B : Type} (hA : Vals (E.sig f).ins = A := by kernel_rfl) (hB : Vals (E.sig f).outs = B := by kernel_rfl) : FT A B := ap hA hB
abbrev aL (f b : Nat) {A B : Type} (hA : Vals (E.lsig f b).sk.tys = A := by kernel_rfl) (hB : Alts (exTys (E.lsig f b).exits) = B := by kernel_rfl) : LT A B := apL hA hB
abbrev OfF {A B : Type} (X : FT A B) (R : RT A B) : Prop := ∀ {a : A} {o : B}, R w wl a = some o → X w a = some o
abbrev OfL {A B : Type} (X : LT A B) (R : RT A B) : Prop := ∀ {a : A} {o : B}, R w wl a = some o → X wl a = some o
theorem ofF {A B : Type} {X : FT A B} {R : RT A B} (f : Nat) (h : ∀ D L a, X (stepD E D L) a = R D L a) (hA : Vals (E.sig f).ins = A := by kernel_rfl) (hB : Vals (E.sig f).outs = B := by kernel_rfl) (e : X = aF f hA hB := by kernel_rfl) : OfF X R := fun {a _} => by subst e; exact ap_close hA hB (h w wl a)
theorem ofL {A B : Type} {X : LT A B} {R : RT A B} (f b : Nat) (h : ∀ D L a, X (stepL E D L) a = R D L a) (hA : Vals (E.lsig f b).sk.tys = A := by kernel_rfl) (hB : Alts (exTys (E.lsig f b).exits) = B := by kernel_rfl) (e : X = aL f b hA hB := by kernel_rfl) : OfL X R := fun {a _} => by subst e; exact apL_close hA hB (h w wl a)
def laws_FnExactDeedsText : FT (List XEntry) Bool := aF 4
def laws_szDeedS : FT ((List XEntry) × Int) Int := aF 13
def laws_szDeedS_k0 : LT ((List XEntry) × Int × Int) (Int ⊕ Int) := aL 13 0
def spec_DeedsText : FT (List XEntry) ByteArray := aF 14
def spec_DeedsText_k0 : LT ((List XEntry) × ByteArray × Int) (ByteArray ⊕ ByteArray) := aL 14 0
def laws_toDeedS : FT (List XEntry) (List XEntry) := aF 15
def laws_toDeedS_k0 : LT ((List XEntry) × Int × (List XEntry)) (List XEntry) := aL 15 0
def impl_DeedsText : FT (List XEntry) ByteArray := aF 16
def impl_DeedsText_k0 : LT (ByteArray × (List XEntry) × Int × Int) (ByteArray ⊕ ByteArray) := aL 16 0
def laws_eqDeedS : FT ((List XEntry) × (List XEntry)) Bool := aF 17
def laws_eqDeedS_k0 : LT ((List XEntry) × (List XEntry) × Int) (Bool ⊕ Unit) := aL 17 0
def laws_szDeed : FT (Int × Int × Int × Int × ByteArray × Int) Int := aF 9
def spec_DeedText : FT XEntry ByteArray := aF 10
def laws_toDeed : FT XEntry XEntry := aF 11
def impl_DeedText : FT XEntry ByteArray := aF 12
def impl_DeedText_k0 : LT (Int × Int × Int × Int × Int × Int × ByteArray × (List ByteArray) × (List Int)) (ByteArray ⊕ ((Int × Int × Int × Int × ByteArray × (List ByteArray)))) := aL 12 0
def laws_eqDeed : FT (Int × Int × Int × Int × ByteArray × Int × Int × Int × Int × ByteArray) Bool := aF 25
def spec_l1In : FT (Int × Int × Int) Bool := aF 34
def spec_Parts : FT (ByteArray × Int) (List ByteArray) := aF 35
def spec_Parts_k0 : LT (ByteArray × Int × Int × Int × (List ByteArray)) (List ByteArray) := aL 35 0
def spec_Digits : FT Int ByteArray := aF 36
def spec_Digits_k0 : LT (Int × Bool × ByteArray) ((Bool × ByteArray)) := aL 36 0
def impl_within : FT (Int × Int × Int) Bool := aF 37
def strings_Contains : FT (ByteArray × ByteArray) Bool := aF 38
def impl_Digits : FT Int ByteArray := aF 39
def strings_Join : FT ((List ByteArray) × ByteArray) ByteArray := aF 40
def strconv_Itoa : FT Int ByteArray := aF 71
end
end Go.Proofs.YtameehmkoglkeaaDoor.M
