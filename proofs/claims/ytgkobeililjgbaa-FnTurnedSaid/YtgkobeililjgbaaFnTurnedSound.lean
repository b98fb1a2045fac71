/- The tables agree with the program. No conditions. -/
import Derived.Test.YtgkobeililjgbaaFnTurnedTab
import Derived.Shelf.Small.Strs
namespace Go.Proofs.Ytgkobeililjgbaa.M
open Go Go.Eng Go.Proofs
set_option linter.unusedVariables false
theorem hfn : codeT.AllP fun n fn => Try.prog.funcs[realT.get n n]? = some fn := ⟨Try.func26, ⟨Try.func21, ⟨Try.func16, ⟨Try.func14, ⟨Try.func6, trivial, trivial⟩, trivial⟩, ⟨Try.func20, trivial, trivial⟩⟩, ⟨Try.func24, ⟨Try.func23, ⟨Try.func22, trivial, trivial⟩, trivial⟩, ⟨Try.func25, trivial, trivial⟩⟩⟩, ⟨Try.func56, ⟨Try.func54, ⟨Try.func53, ⟨Try.func52, trivial, trivial⟩, trivial⟩, ⟨Try.func55, trivial, trivial⟩⟩, ⟨Try.func100, ⟨Try.func58, ⟨Try.func57, trivial, trivial⟩, trivial⟩, ⟨Try.func101, trivial, trivial⟩⟩⟩⟩
theorem specX (f : Nat) (h : Vals (E.sig f).ins → Option (Vals (E.sig f).outs)) (he : E.ext f = some h) (ins : Vals (E.sig f).ins) (outs : Vals (E.sig f).outs) (ho : h ins = some outs) : FnSpec Try.prog (E.sig f) (E.real f) (unpack _ ins) (unpack _ outs) := by cases he
theorem hCode : EnvCode Try.prog E := envCode_of hfn (names_of (by kernel_rfl)) (by kernel_rfl) specX
theorem hTy : EnvTy Try.prog E := envTy_of rfl (by kernel_rfl) (fun T _ => noEq (by kernel_rfl) T)
theorem hRd : ∀ T, rdB Try.prog E.ty T (E.ty T) = true := rd_of (ty := tyT) (by kernel_rfl)
theorem hLoops : EnvLoops E := envLoops_of (by kernel_rfl) (by kernel_rfl) (by kernel_rfl)
theorem hmix : Try.prog.follows .mixedOrders = true := by kernel_rfl

end Go.Proofs.Ytgkobeililjgbaa.M
