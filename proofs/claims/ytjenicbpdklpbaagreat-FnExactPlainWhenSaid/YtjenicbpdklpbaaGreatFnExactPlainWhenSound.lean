/- The tables agree with the program. No conditions. -/
import Derived.Test.YtjenicbpdklpbaaGreatFnExactPlainWhenTab
import Derived.Shelf.Small.Strs
set_option linter.all false
namespace Go.Proofs.YtjenicbpdklpbaaGreat.M
open Go Go.Eng Go.Proofs
set_option linter.unusedVariables false
noncomputable section
theorem hfn : codeT.AllP fun n fn => Tryz.prog.funcs[realT.get n n]? = some fn := ⟨Tryz.func153, ⟨Tryz.func82, ⟨Tryz.func60, ⟨Tryz.func39, ⟨Tryz.func28, ⟨Tryz.func17, ⟨Tryz.func15, ⟨Tryz.func11, trivial, trivial⟩, trivial⟩, ⟨Tryz.func19, trivial, trivial⟩⟩, ⟨Tryz.func37, ⟨Tryz.func32, ⟨Tryz.func30, trivial, trivial⟩, trivial⟩, ⟨Tryz.func38, trivial, trivial⟩⟩⟩, ⟨Tryz.func47, ⟨Tryz.func44, ⟨Tryz.func43, ⟨Tryz.func40, trivial, trivial⟩, trivial⟩, ⟨Tryz.func46, trivial, trivial⟩⟩, ⟨Tryz.func57, ⟨Tryz.func56, ⟨Tryz.func55, trivial, trivial⟩, trivial⟩, ⟨Tryz.func59, trivial, trivial⟩⟩⟩⟩, ⟨Tryz.func70, ⟨Tryz.func65, ⟨Tryz.func63, ⟨Tryz.func62, ⟨Tryz.func61, trivial, trivial⟩, trivial⟩, ⟨Tryz.func64, trivial, trivial⟩⟩, ⟨Tryz.func68, ⟨Tryz.func67, ⟨Tryz.func66, trivial, trivial⟩, trivial⟩, ⟨Tryz.func69, trivial, trivial⟩⟩⟩, ⟨Tryz.func75, ⟨Tryz.func73, ⟨Tryz.func72, ⟨Tryz.func71, trivial, trivial⟩, trivial⟩, ⟨Tryz.func74, trivial, trivial⟩⟩, ⟨Tryz.func78, ⟨Tryz.func76, trivial, trivial⟩, ⟨Tryz.func81, trivial, trivial⟩⟩⟩⟩⟩, ⟨Tryz.func115, ⟨Tryz.func95, ⟨Tryz.func87, ⟨Tryz.func85, ⟨Tryz.func84, ⟨Tryz.func83, trivial, trivial⟩, trivial⟩, ⟨Tryz.func86, trivial, trivial⟩⟩, ⟨Tryz.func93, ⟨Tryz.func92, ⟨Tryz.func90, trivial, trivial⟩, trivial⟩, ⟨Tryz.func94, trivial, trivial⟩⟩⟩, ⟨Tryz.func103, ⟨Tryz.func101, ⟨Tryz.func97, ⟨Tryz.func96, trivial, trivial⟩, trivial⟩, ⟨Tryz.func102, trivial, trivial⟩⟩, ⟨Tryz.func113, ⟨Tryz.func110, trivial, trivial⟩, ⟨Tryz.func114, trivial, trivial⟩⟩⟩⟩, ⟨Tryz.func140, ⟨Tryz.func135, ⟨Tryz.func120, ⟨Tryz.func117, ⟨Tryz.func116, trivial, trivial⟩, trivial⟩, ⟨Tryz.func121, trivial, trivial⟩⟩, ⟨Tryz.func138, ⟨Tryz.func137, ⟨Tryz.func136, trivial, trivial⟩, trivial⟩, ⟨Tryz.func139, trivial, trivial⟩⟩⟩, ⟨Tryz.func145, ⟨Tryz.func143, ⟨Tryz.func142, ⟨Tryz.func141, trivial, trivial⟩, trivial⟩, ⟨Tryz.func144, trivial, trivial⟩⟩, ⟨Tryz.func147, ⟨Tryz.func146, trivial, trivial⟩, ⟨Tryz.func148, trivial, trivial⟩⟩⟩⟩⟩⟩, ⟨Tryz.func226, ⟨Tryz.func179, ⟨Tryz.func169, ⟨Tryz.func159, ⟨Tryz.func156, ⟨Tryz.func155, ⟨Tryz.func154, trivial, trivial⟩, trivial⟩, ⟨Tryz.func157, trivial, trivial⟩⟩, ⟨Tryz.func162, ⟨Tryz.func161, ⟨Tryz.func160, trivial, trivial⟩, trivial⟩, ⟨Tryz.func163, trivial, trivial⟩⟩⟩, ⟨Tryz.func174, ⟨Tryz.func172, ⟨Tryz.func171, ⟨Tryz.func170, trivial, trivial⟩, trivial⟩, ⟨Tryz.func173, trivial, trivial⟩⟩, ⟨Tryz.func177, ⟨Tryz.func176, ⟨Tryz.func175, trivial, trivial⟩, trivial⟩, ⟨Tryz.func178, trivial, trivial⟩⟩⟩⟩, ⟨Tryz.func217, ⟨Tryz.func186, ⟨Tryz.func184, ⟨Tryz.func181, ⟨Tryz.func180, trivial, trivial⟩, trivial⟩, ⟨Tryz.func185, trivial, trivial⟩⟩, ⟨Tryz.func189, ⟨Tryz.func188, ⟨Tryz.func187, trivial, trivial⟩, trivial⟩, ⟨Tryz.func216, trivial, trivial⟩⟩⟩, ⟨Tryz.func222, ⟨Tryz.func220, ⟨Tryz.func219, ⟨Tryz.func218, trivial, trivial⟩, trivial⟩, ⟨Tryz.func221, trivial, trivial⟩⟩, ⟨Tryz.func224, ⟨Tryz.func223, trivial, trivial⟩, ⟨Tryz.func225, trivial, trivial⟩⟩⟩⟩⟩, ⟨Tryz.func284, ⟨Tryz.func236, ⟨Tryz.func231, ⟨Tryz.func229, ⟨Tryz.func228, ⟨Tryz.func227, trivial, trivial⟩, trivial⟩, ⟨Tryz.func230, trivial, trivial⟩⟩, ⟨Tryz.func234, ⟨Tryz.func233, ⟨Tryz.func232, trivial, trivial⟩, trivial⟩, ⟨Tryz.func235, trivial, trivial⟩⟩⟩, ⟨Tryz.func249, ⟨Tryz.func239, ⟨Tryz.func238, ⟨Tryz.func237, trivial, trivial⟩, trivial⟩, ⟨Tryz.func242, trivial, trivial⟩⟩, ⟨Tryz.func253, ⟨Tryz.func252, trivial, trivial⟩, ⟨Tryz.func283, trivial, trivial⟩⟩⟩⟩, ⟨Tryz.func294, ⟨Tryz.func289, ⟨Tryz.func287, ⟨Tryz.func286, ⟨Tryz.func285, trivial, trivial⟩, trivial⟩, ⟨Tryz.func288, trivial, trivial⟩⟩, ⟨Tryz.func292, ⟨Tryz.func291, ⟨Tryz.func290, trivial, trivial⟩, trivial⟩, ⟨Tryz.func293, trivial, trivial⟩⟩⟩, ⟨Tryz.func318, ⟨Tryz.func316, ⟨Tryz.func315, ⟨Tryz.func297, trivial, trivial⟩, trivial⟩, ⟨Tryz.func317, trivial, trivial⟩⟩, ⟨Tryz.func320, ⟨Tryz.func319, trivial, trivial⟩, ⟨Tryz.func326, trivial, trivial⟩⟩⟩⟩⟩⟩⟩
def rhoX : Go.Shelf.Ren := ⟨fun n => if n = 213 then 320 else 327, fun n => if n = 3 then 3 else 9, fun n => n⟩
theorem laysX : Go.Proofs.Lays.n213 Tryz.prog rhoX := by
  refine ⟨by kernel_rfl, (show Tryz.prog.funcs[(320 : Nat)]? = some (Body.n213 rhoX) from Tryz.func320.trans (congrArg some (by kernel_rfl))), (show Tryz.prog.funcs[(327 : Nat)]? = some (Body.n265 rhoX) from Tryz.func327.trans (congrArg some (by kernel_rfl))), ?_, ?_, ?_, ?_, ?_, ?_, ?_, ?_⟩
  all_goals first | kernel_rfl | (intro w; kernel_rfl)
theorem specX (f : Nat) (h : Vals (E.sig f).ins → Option (Vals (E.sig f).outs)) (he : E.ext f = some h) (ins : Vals (E.sig f).ins) (outs : Vals (E.sig f).outs) (ho : h ins = some outs) : FnSpec Tryz.prog (E.sig f) (E.real f) (unpack _ ins) (unpack _ outs) := by
  have he : extT f = some h := he
  unfold extT at he
  split at he
  · rename_i hf
    subst hf
    have e : h = (fun a : ByteArray × ByteArray => some (Go.Lib.compareBytes a.1.data.toList a.2.data.toList)) := (Option.some.inj he).symm
    subst e
    have ho : Go.Lib.compareBytes (show ByteArray × ByteArray from ins).1.data.toList (show ByteArray × ByteArray from ins).2.data.toList = (show Int from outs) := Option.some.inj ho
    have hx := spec_ss_i (P := Tryz.prog) (f := 320) (sg := E.sig 320) (m1 := .ro) (m2 := .ro) (m3 := .ro) (by kernel_rfl) (by kernel_rfl) rfl rfl rfl (fun a b => Go.Lib.compareBytes a.data.toList b.data.toList) (fun a b w => Any.bytealg_CompareString laysX a b w) (show ByteArray × ByteArray from ins).1 (show ByteArray × ByteArray from ins).2
    rw [ho] at hx
    exact hx
  · cases he
theorem hCode : EnvCode Tryz.prog E := envCode_of hfn (names_of (by kernel_rfl)) (by kernel_rfl) specX
theorem hTy : EnvTy Tryz.prog E := envTy_of rfl (by kernel_rfl) (fun T _ => noEq (by kernel_rfl) T)
theorem hRd : ∀ T, rdB Tryz.prog E.ty T (E.ty T) = true := rd_of (ty := tyT) (by kernel_rfl)
theorem hLoops : EnvLoops E := envLoops_of (by kernel_rfl) (by kernel_rfl) (by kernel_rfl)
theorem hmix : Tryz.prog.follows .mixedOrders = true := by kernel_rfl

end
end Go.Proofs.YtjenicbpdklpbaaGreat.M
