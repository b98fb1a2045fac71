/- The tables agree with the program. No conditions. -/
import Derived.Test.YtgkobeililjgbaaFnExactPlainTab
import Derived.Shelf.Small.Strs
namespace Go.Proofs.Ytgkobeililjgbaa.M
open Go Go.Eng Go.Proofs
set_option linter.unusedVariables false
theorem hfn : codeT.AllP fun n fn => Try.prog.funcs[realT.get n n]? = some fn := ⟨Try.func103, ⟨Try.func59, ⟨Try.func34, ⟨Try.func31, ⟨Try.func27, ⟨Try.func8, trivial, trivial⟩, ⟨Try.func29, trivial, trivial⟩⟩, ⟨Try.func33, ⟨Try.func32, trivial, trivial⟩, trivial⟩⟩, ⟨Try.func37, ⟨Try.func36, ⟨Try.func35, trivial, trivial⟩, trivial⟩, ⟨Try.func51, ⟨Try.func50, trivial, trivial⟩, trivial⟩⟩⟩, ⟨Try.func67, ⟨Try.func64, ⟨Try.func61, ⟨Try.func60, trivial, trivial⟩, ⟨Try.func63, trivial, trivial⟩⟩, ⟨Try.func66, ⟨Try.func65, trivial, trivial⟩, trivial⟩⟩, ⟨Try.func70, ⟨Try.func69, ⟨Try.func68, trivial, trivial⟩, trivial⟩, ⟨Try.func102, ⟨Try.func71, trivial, trivial⟩, trivial⟩⟩⟩⟩, ⟨Try.func146, ⟨Try.func110, ⟨Try.func107, ⟨Try.func105, ⟨Try.func104, trivial, trivial⟩, ⟨Try.func106, trivial, trivial⟩⟩, ⟨Try.func109, ⟨Try.func108, trivial, trivial⟩, trivial⟩⟩, ⟨Try.func113, ⟨Try.func112, ⟨Try.func111, trivial, trivial⟩, trivial⟩, ⟨Try.func115, ⟨Try.func114, trivial, trivial⟩, trivial⟩⟩⟩, ⟨Try.func153, ⟨Try.func150, ⟨Try.func148, ⟨Try.func147, trivial, trivial⟩, ⟨Try.func149, trivial, trivial⟩⟩, ⟨Try.func152, ⟨Try.func151, trivial, trivial⟩, trivial⟩⟩, ⟨Try.func174, ⟨Try.func173, ⟨Try.func154, trivial, trivial⟩, trivial⟩, ⟨Try.func176, ⟨Try.func175, trivial, trivial⟩, trivial⟩⟩⟩⟩⟩
def rhoX : Go.Shelf.Ren := ⟨fun n => if n = 213 then 176 else 179, fun n => if n = 3 then 3 else 9, fun n => n⟩
theorem laysX : Go.Proofs.Lays.n213 Try.prog rhoX := by
  refine ⟨by kernel_rfl, (show Try.prog.funcs[(176 : Nat)]? = some (Body.n213 rhoX) from Try.func176.trans (congrArg some (by kernel_rfl))), (show Try.prog.funcs[(179 : Nat)]? = some (Body.n265 rhoX) from Try.func179.trans (congrArg some (by kernel_rfl))), ?_, ?_, ?_, ?_, ?_, ?_, ?_, ?_⟩
  all_goals first | kernel_rfl | (intro w; kernel_rfl)
theorem specX (f : Nat) (h : Vals (E.sig f).ins → Option (Vals (E.sig f).outs)) (he : E.ext f = some h) (ins : Vals (E.sig f).ins) (outs : Vals (E.sig f).outs) (ho : h ins = some outs) : FnSpec Try.prog (E.sig f) (E.real f) (unpack _ ins) (unpack _ outs) := by
  have he : extT f = some h := he
  unfold extT at he
  split at he
  · rename_i hf
    subst hf
    have e : h = (fun a : ByteArray × ByteArray => some (Go.Lib.compareBytes a.1.data.toList a.2.data.toList)) := (Option.some.inj he).symm
    subst e
    have ho : Go.Lib.compareBytes (show ByteArray × ByteArray from ins).1.data.toList (show ByteArray × ByteArray from ins).2.data.toList = (show Int from outs) := Option.some.inj ho
    have hx := spec_ss_i (P := Try.prog) (f := 176) (sg := E.sig 176) (m1 := .ro) (m2 := .ro) (m3 := .ro) (by kernel_rfl) (by kernel_rfl) rfl rfl rfl (fun a b => Go.Lib.compareBytes a.data.toList b.data.toList) (fun a b w => Any.bytealg_CompareString laysX a b w) (show ByteArray × ByteArray from ins).1 (show ByteArray × ByteArray from ins).2
    rw [ho] at hx
    exact hx
  · cases he
theorem hCode : EnvCode Try.prog E := envCode_of hfn (names_of (by kernel_rfl)) (by kernel_rfl) specX
theorem hTy : EnvTy Try.prog E := envTy_of rfl (by kernel_rfl) (fun T _ => noEq (by kernel_rfl) T)
theorem hRd : ∀ T, rdB Try.prog E.ty T (E.ty T) = true := rd_of (ty := tyT) (by kernel_rfl)
theorem hLoops : EnvLoops E := envLoops_of (by kernel_rfl) (by kernel_rfl) (by kernel_rfl)
theorem hmix : Try.prog.follows .mixedOrders = true := by kernel_rfl

end Go.Proofs.Ytgkobeililjgbaa.M
