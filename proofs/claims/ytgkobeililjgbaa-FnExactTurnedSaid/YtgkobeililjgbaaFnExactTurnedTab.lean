/- The functions that FnExactTurned reaches, as tables. No conditions. -/
import Derived.Test.YtgkobeililjgbaaEng4
import Derived.Lib.Bytealg
import Derived.Test.YtgkobeililjgbaaChecked
namespace Go.Proofs.Ytgkobeililjgbaa.M
open Go Go.Eng Go.Proofs
set_option linter.unusedVariables false
def cmpX (a : ByteArray × ByteArray) : Option Int := some (Go.Lib.compareBytes a.1.data.toList a.2.data.toList)
abbrev terrorAddressString : Tys := (.cons .str (.cons (.int .u64) .nil))
abbrev XerrorAddressString : Type := ByteArray × Int
abbrev tFloor : Tys := (.cons (.int .i64) (.cons (.int .i64) .nil))
abbrev XFloor : Type := Int × Int
abbrev tTree : Tys := (.cons (.sl (.cons (.int .i64) .nil)) (.cons (.int .i64) .nil))
abbrev XTree : Type := (List Int) × Int
abbrev tRise : Tys := (.cons (.int .i64) (.cons (.int .i64) (.cons (.int .i64) .nil)))
abbrev XRise : Type := Int × Int × Int
abbrev tboundsError : Tys := (.cons (.int .i64) (.cons (.int .i64) (.cons .bool (.cons (.int .u8) .nil))))
abbrev XboundsError : Type := Int × Int × Bool × Int
abbrev tl1Cur : Tys := (.cons (.sl (.cons (.int .u8) .nil)) (.cons (.int .i64) (.cons (.int .i64) .nil)))
abbrev Xl1Cur : Type := (List Int) × Int × Int
abbrev tSess : Tys := (.cons (.int .i64) (.cons (.int .i64) (.cons .bool (.cons (.int .i64) .nil))))
abbrev XSess : Type := Int × Int × Bool × Int
abbrev tEntry : Tys := (.cons (.int .i64) (.cons (.int .i64) (.cons (.int .i64) (.cons (.int .i64) (.cons .str .nil)))))
abbrev XEntry : Type := Int × Int × Int × Int × ByteArray
abbrev tItem : Tys := (.cons (.int .i64) (.cons (.int .i64) (.cons (.int .i64) (.cons (.int .i64) (.cons (.int .i64) (.cons .str .nil))))))
abbrev XItem : Type := Int × Int × Int × Int × Int × ByteArray
abbrev tState : Tys := (.cons (.sl tItem) (.cons (.sl tFloor) .nil))
abbrev XState : Type := (List XItem) × (List XFloor)
abbrev tLog : Tys := (.cons (.int .i64) (.cons (.int .i64) (.cons (.sl tState) .nil)))
abbrev XLog : Type := Int × Int × (List XState)
abbrev tMsg : Tys := (.cons (.int .i64) (.cons (.int .i64) (.cons (.int .i64) (.cons (.int .i64) (.cons (.int .i64) (.cons (.sl (.cons (.int .i64) .nil)) (.cons (.int .i64) (.cons (.sl (.cons (.int .i64) .nil)) (.cons (.sl (.cons (.int .i64) .nil)) (.cons (.sl tItem) (.cons (.sl tFloor) (.cons (.sl tFloor) .nil))))))))))))
abbrev XMsg : Type := Int × Int × Int × Int × Int × (List Int) × Int × (List Int) × (List Int) × (List XItem) × (List XFloor) × (List XFloor)
abbrev tNode : Tys := (.cons (.int .i64) (.cons (.int .i64) (.cons (.sl tItem) (.cons (.sl tFloor) (.cons (.sl (.cons (.int .i64) .nil)) (.cons (.int .i64) (.cons (.int .i64) (.cons (.int .i64) (.cons (.sl tState) (.cons (.sl (.cons (.int .i64) .nil)) (.cons (.sl (.cons (.int .i64) .nil)) (.cons (.sl (.cons (.sl (.cons (.int .i64) .nil)) .nil)) (.cons (.int .i64) (.cons (.int .i64) (.cons (.sl tSess) (.cons (.int .i64) (.cons (.int .i64) (.cons (.int .i64) (.cons (.sl tRise) .nil)))))))))))))))))))
abbrev XNode : Type := Int × Int × (List XItem) × (List XFloor) × (List Int) × Int × Int × Int × (List XState) × (List Int) × (List Int) × (List (List Int)) × Int × Int × (List XSess) × Int × Int × Int × (List XRise)
def zerrorAddressString : XerrorAddressString := (ByteArray.empty, 0)
def zFloor : XFloor := (0, 0)
def zTree : XTree := ([], 0)
def zRise : XRise := (0, 0, 0)
def zboundsError : XboundsError := (0, 0, false, 0)
def zl1Cur : Xl1Cur := ([], 0, 0)
def zSess : XSess := (0, 0, false, 0)
def zEntry : XEntry := (0, 0, 0, 0, ByteArray.empty)
def zItem : XItem := (0, 0, 0, 0, 0, ByteArray.empty)
def zState : XState := ([], [])
def zLog : XLog := (0, 0, [])
def zMsg : XMsg := (0, 0, 0, 0, 0, [], 0, [], [], [], [], [])
def zNode : XNode := (0, 0, [], [], [], 0, 0, 0, [], [], [], [], 0, 0, [], 0, 0, 0, [])
noncomputable def tyT : BT TI := (.node 71 ⟨true, false, (.cons (.sl tSess) .nil), 24, 159, [], false⟩ (.node 47 ⟨true, true, tTree, 32, 0, [0, 1], false⟩ (.node 11 ⟨true, false, (.cons .str .nil), 16, 0, [], false⟩ (.node 6 ⟨true, false, (.cons (.int .u8) .nil), 1, 0, [], false⟩ (.node 4 ⟨true, false, (.cons .bool .nil), 1, 0, [], false⟩ (.node 3 ⟨true, false, (.cons (.int .i64) .nil), 8, 0, [], false⟩ (.node 2 ⟨true, false, (.cons (.int .i64) .nil), 8, 0, [], false⟩ .leaf .leaf) .leaf) (.node 5 ⟨true, false, (.cons (.int .u8) .nil), 1, 0, [], false⟩ .leaf .leaf)) (.node 9 ⟨true, false, (.cons .str .nil), 16, 0, [], false⟩ (.node 8 ⟨true, true, tboundsError, 24, 0, [0, 1, 2, 3], false⟩ (.node 7 ⟨true, true, tboundsError, 24, 0, [0, 1, 2, 3], false⟩ .leaf .leaf) .leaf) (.node 10 ⟨true, false, (.cons .str .nil), 16, 0, [], false⟩ .leaf .leaf))) (.node 24 ⟨true, false, (.cons (.sl (.cons (.int .i64) .nil)) .nil), 24, 3, [], false⟩ (.node 14 ⟨true, true, terrorAddressString, 24, 0, [0, 1], false⟩ (.node 13 ⟨true, true, terrorAddressString, 24, 0, [0, 1], false⟩ (.node 12 ⟨true, false, (.cons (.int .u64) .nil), 8, 0, [], false⟩ .leaf .leaf) .leaf) (.node 21 ⟨true, false, (.cons (.int .i32) .nil), 4, 0, [], false⟩ .leaf .leaf)) (.node 38 ⟨true, false, (.cons (.sl tState) .nil), 24, 61, [], false⟩ (.node 35 ⟨true, false, (.cons (.sl tState) .nil), 24, 52, [], false⟩ (.node 30 ⟨true, false, (.cons (.sl (.cons (.int .u8) .nil)) .nil), 24, 5, [], false⟩ .leaf .leaf) .leaf) (.node 42 ⟨true, false, (.cons (.sl tItem) .nil), 24, 103, [], false⟩ .leaf .leaf)))) (.node 59 ⟨true, false, (.cons (.sl tFloor) .nil), 24, 136, [], false⟩ (.node 52 ⟨true, true, tState, 48, 0, [0, 1], false⟩ (.node 50 ⟨true, false, (.cons (.sl tFloor) .nil), 24, 173, [], false⟩ (.node 49 ⟨true, false, (.cons (.sl tItem) .nil), 24, 170, [], false⟩ (.node 48 ⟨true, true, tTree, 32, 0, [0, 1], false⟩ .leaf .leaf) .leaf) (.node 51 ⟨true, true, tState, 48, 0, [0, 1], false⟩ .leaf .leaf)) (.node 55 ⟨true, true, tMsg, 192, 0, [0, 1, 2, 3, 4, 5, 7, 8, 9, 11], false⟩ (.node 54 ⟨true, true, tMsg, 192, 0, [0, 1, 2, 3, 4, 5, 7, 8, 9, 11], false⟩ (.node 53 ⟨true, false, (.cons (.sl tFloor) .nil), 24, 146, [], false⟩ .leaf .leaf) .leaf) (.node 58 ⟨true, true, tTree, 32, 0, [0, 1], false⟩ .leaf .leaf))) (.node 64 ⟨true, true, tMsg, 192, 0, [0, 1, 2, 3, 4, 5, 7, 8, 9, 11], false⟩ (.node 62 ⟨true, false, (.cons (.sl tFloor) .nil), 24, 144, [], false⟩ (.node 61 ⟨true, true, tState, 48, 0, [0, 1], false⟩ (.node 60 ⟨true, true, tState, 48, 0, [0, 1], false⟩ .leaf .leaf) .leaf) (.node 63 ⟨true, true, tMsg, 192, 0, [0, 1, 2, 3, 4, 5, 7, 8, 9, 11], false⟩ .leaf .leaf)) (.node 69 ⟨true, true, tLog, 40, 0, [0, 1, 2], false⟩ (.node 68 ⟨true, true, tLog, 40, 0, [0, 1, 2], false⟩ .leaf .leaf) (.node 70 ⟨true, false, (.cons (.sl (.cons (.sl (.cons (.int .i64) .nil)) .nil)) .nil), 24, 24, [], false⟩ .leaf .leaf))))) (.node 144 ⟨true, true, tFloor, 16, 0, [0, 1], false⟩ (.node 86 ⟨true, false, (.cons (.sl (.cons .str .nil)) .nil), 24, 9, [], false⟩ (.node 78 ⟨true, true, tLog, 40, 0, [0, 1, 2], false⟩ (.node 74 ⟨true, true, tNode, 296, 0, [0, 1, 2, 4, 6, 9, 10, 11, 12, 13, 14, 15, 16, 17, 18], false⟩ (.node 73 ⟨true, true, tNode, 296, 0, [0, 1, 2, 4, 6, 9, 10, 11, 12, 13, 14, 15, 16, 17, 18], false⟩ (.node 72 ⟨true, false, (.cons (.sl tRise) .nil), 24, 161, [], false⟩ .leaf .leaf) .leaf) (.node 77 ⟨true, true, tLog, 40, 0, [0, 1, 2], false⟩ .leaf .leaf)) (.node 81 ⟨true, true, tNode, 296, 0, [0, 1, 2, 4, 6, 9, 10, 11, 12, 13, 14, 15, 16, 17, 18], false⟩ (.node 80 ⟨true, false, (.cons (.sl tRise) .nil), 24, 155, [], false⟩ (.node 79 ⟨true, false, (.cons (.sl tSess) .nil), 24, 157, [], false⟩ .leaf .leaf) .leaf) (.node 82 ⟨true, true, tNode, 296, 0, [0, 1, 2, 4, 6, 9, 10, 11, 12, 13, 14, 15, 16, 17, 18], false⟩ .leaf .leaf))) (.node 128 ⟨true, true, tl1Cur, 40, 0, [0, 1, 2], false⟩ (.node 102 ⟨true, true, tItem, 56, 0, [0, 1], false⟩ (.node 95 ⟨true, true, tEntry, 48, 0, [0, 1, 2, 3, 4], false⟩ (.node 94 ⟨true, true, tEntry, 48, 0, [0, 1, 2, 3, 4], false⟩ .leaf .leaf) .leaf) (.node 103 ⟨true, true, tItem, 56, 0, [0, 1], false⟩ .leaf .leaf)) (.node 135 ⟨true, true, tFloor, 16, 0, [0, 1], false⟩ (.node 129 ⟨true, true, tl1Cur, 40, 0, [0, 1, 2], false⟩ .leaf .leaf) (.node 136 ⟨true, true, tFloor, 16, 0, [0, 1], false⟩ .leaf .leaf)))) (.node 169 ⟨true, true, tItem, 56, 0, [0, 1], false⟩ (.node 157 ⟨true, true, tSess, 32, 0, [0, 1, 2, 3], false⟩ (.node 155 ⟨true, true, tRise, 24, 0, [0, 1, 2], false⟩ (.node 154 ⟨true, true, tRise, 24, 0, [0, 1, 2], false⟩ (.node 146 ⟨true, true, tFloor, 16, 0, [0, 1], false⟩ .leaf .leaf) .leaf) (.node 156 ⟨true, true, tSess, 32, 0, [0, 1, 2, 3], false⟩ .leaf .leaf)) (.node 166 ⟨true, false, (.cons (.int .u64) .nil), 8, 0, [], false⟩ (.node 161 ⟨true, true, tRise, 24, 0, [0, 1, 2], false⟩ (.node 159 ⟨true, true, tSess, 32, 0, [0, 1, 2, 3], false⟩ .leaf .leaf) .leaf) (.node 168 ⟨true, true, tEntry, 48, 0, [0, 1, 2, 3, 4], false⟩ .leaf .leaf))) (.node 197 ⟨true, false, (.cons (.int .u8) .nil), 1, 0, [], false⟩ (.node 182 ⟨true, false, (.cons (.sl (.cons (.sl (.cons (.int .u8) .nil)) .nil)) .nil), 24, 30, [], false⟩ (.node 173 ⟨true, true, tFloor, 16, 0, [0, 1], false⟩ (.node 170 ⟨true, true, tItem, 56, 0, [0, 1], false⟩ .leaf .leaf) .leaf) (.node 196 ⟨true, false, (.cons (.int .u32) .nil), 4, 0, [], false⟩ .leaf .leaf)) (.node 201 ⟨true, false, (.cons (.int .i32) .nil), 4, 0, [], false⟩ (.node 198 ⟨true, false, (.cons (.int .u8) .nil), 1, 0, [], false⟩ .leaf .leaf) (.node 202 ⟨true, false, (.cons (.int .i32) .nil), 4, 0, [], false⟩ .leaf .leaf))))))
noncomputable def sigT : BT Sig := (.node 17 ⟨[.val false [(.ro, (.sl (.cons (.int .i64) .nil)))], .val false [(.ro, (.sl (.cons (.int .i64) .nil)))]], [.val false [(.ro, .bool)]]⟩ (.node 15 ⟨[.val false [(.ro, (.sl (.cons (.int .i64) .nil)))]], [.val false [(.own, (.sl (.cons (.int .i64) .nil)))]]⟩ (.node 14 ⟨[.val false [(.ro, (.sl (.cons (.int .i64) .nil)))], .val false [(.ro, (.int .i64))]], [.val false [(.own, (.sl (.cons (.int .i64) .nil)))]]⟩ (.node 4 ⟨[.val false [(.ro, (.sl (.cons (.int .i64) .nil)))], .val false [(.ro, (.int .i64))]], [.val false [(.ro, .bool)]]⟩ .leaf .leaf) .leaf) (.node 16 ⟨[.val false [(.ro, (.sl (.cons (.int .i64) .nil)))], .val false [(.ro, (.int .i64))]], [.val false [(.own, (.sl (.cons (.int .i64) .nil)))]]⟩ .leaf .leaf)) (.node 19 ⟨[.val false [(.ro, (.sl (.cons (.int .i64) .nil)))], .val false [(.ro, (.int .i64))]], [.val false [(.ro, (.int .i64))]]⟩ (.node 18 ⟨[.val false [(.mut, (.sl (.cons (.int .i64) .nil)))], .val false [(.ro, (.int .i64))]], [.val false [(.ro, (.int .i64))]]⟩ .leaf .leaf) (.node 52 ⟨[.val false [(.ro, (.sl (.cons (.int .i64) .nil)))]], [.val false [(.own, (.sl (.cons (.int .i64) .nil)))]]⟩ .leaf .leaf)))
noncomputable def codeT : BT Func := (.node 17 Go.Proofs.Try.f17 (.node 15 Go.Proofs.Try.f15 (.node 14 Go.Proofs.Try.f14 (.node 4 Go.Proofs.Try.f4 .leaf .leaf) .leaf) (.node 16 Go.Proofs.Try.f16 .leaf .leaf)) (.node 19 Go.Proofs.Try.f19 (.node 18 Go.Proofs.Try.f18 .leaf .leaf) (.node 52 Go.Proofs.Try.f52 .leaf .leaf)))
noncomputable def lsigT : BT LSig := (.node 180000 ⟨⟨[(0, .val false [.vw 0 0]), (1, .val false [.sc (.int .i64)]), (5, .val false [.sc (.int .i64)])], [(0, 0, .own (.sl (.cons (.int .i64) .nil)) true (some (0, 0)))], []⟩, [(.exit 0, ⟨[(1, .val false [.sc (.int .i64)])], [(0, 0, .own (.sl (.cons (.int .i64) .nil)) true (some (0, 0)))], []⟩)]⟩ (.node 170000 ⟨⟨[(0, .val false [.ro (.sl (.cons (.int .i64) .nil))]), (1, .val false [.ro (.sl (.cons (.int .i64) .nil))]), (5, .val false [.sc (.int .i64)])], [], []⟩, [(.ret, ⟨[(4, .val false [.sc .bool])], [], []⟩), (.exit 0, ⟨[], [], []⟩)]⟩ (.node 150000 ⟨⟨[(0, .val false [.ro (.sl (.cons (.int .i64) .nil))]), (3, .val false [.vw 3 0]), (4, .val false [.sc (.int .i64)])], [(3, 0, .own (.sl (.cons (.int .i64) .nil)) true none)], []⟩, [(.exit 0, ⟨[(3, .val false [.vw 3 0])], [(3, 0, .own (.sl (.cons (.int .i64) .nil)) true none)], []⟩)]⟩ .leaf .leaf) .leaf) (.node 190000 ⟨⟨[(0, .val false [.ro (.sl (.cons (.int .i64) .nil))]), (1, .val false [.sc (.int .i64)]), (5, .val false [.sc (.int .i64)])], [], []⟩, [(.ret, ⟨[(4, .val false [.sc (.int .i64)])], [], []⟩), (.exit 0, ⟨[(1, .val false [.sc (.int .i64)])], [], []⟩)]⟩ .leaf .leaf))
noncomputable def varT : BT (List Nat) := .leaf
noncomputable def instT : BT Nat := .leaf
noncomputable def keepT : BT (List Nat) := .leaf
noncomputable def realT : BT Nat := .leaf
noncomputable def extT : (f : Nat) → Option (Vals (sigT.get ⟨[], []⟩ f).ins → Option (Vals (sigT.get ⟨[], []⟩ f).outs)) := fun f =>
  none
noncomputable def E : Env := mkEnv tyT sigT codeT lsigT varT instT keepT realT extT
noncomputable abbrev w : DFun E := W E
noncomputable abbrev wl : LFun E := WL E
noncomputable def laws_FnExactTurned (D : DFun E) : XTree → Option (Bool) := ap (f := 4) (by kernel_rfl) (by kernel_rfl) D
noncomputable def spec_Turned (D : DFun E) : XTree → Option (List Int) := ap (f := 14) (by kernel_rfl) (by kernel_rfl) D
noncomputable def laws_toIntS (D : DFun E) : List Int → Option (List Int) := ap (f := 15) (by kernel_rfl) (by kernel_rfl) D
noncomputable def laws_toIntS_k0 (L : LFun E) : ((List Int) × Int × (List Int)) → Option ((List Int)) := apL (f := 15) (b := 0) (by kernel_rfl) (by kernel_rfl) L
noncomputable def impl_Turned (D : DFun E) : XTree → Option (List Int) := ap (f := 16) (by kernel_rfl) (by kernel_rfl) D
noncomputable def laws_eqIntS (D : DFun E) : ((List Int) × (List Int)) → Option (Bool) := ap (f := 17) (by kernel_rfl) (by kernel_rfl) D
noncomputable def laws_eqIntS_k0 (L : LFun E) : ((List Int) × (List Int) × Int) → Option (Bool ⊕ Unit) := apL (f := 17) (b := 0) (by kernel_rfl) (by kernel_rfl) L
noncomputable def laws_markIntS (D : DFun E) : XTree → Option ((Int × (List Int))) := ap (f := 18) (by kernel_rfl) (by kernel_rfl) D
noncomputable def laws_markIntS_k0 (L : LFun E) : (Int × Int × (List Int)) → Option (((Int × (List Int)))) := apL (f := 18) (b := 0) (by kernel_rfl) (by kernel_rfl) L
noncomputable def laws_heldIntS (D : DFun E) : XTree → Option (Int) := ap (f := 19) (by kernel_rfl) (by kernel_rfl) D
noncomputable def laws_heldIntS_k0 (L : LFun E) : ((List Int) × Int × Int) → Option (Int ⊕ Int) := apL (f := 19) (b := 0) (by kernel_rfl) (by kernel_rfl) L
noncomputable def impl_copyInts (D : DFun E) : List Int → Option (List Int) := ap (f := 52) (by kernel_rfl) (by kernel_rfl) D
end Go.Proofs.Ytgkobeililjgbaa.M
