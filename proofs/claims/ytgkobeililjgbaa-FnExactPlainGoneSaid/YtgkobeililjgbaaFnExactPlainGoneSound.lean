/- The tables agree with the program. No conditions. -/
import Derived.Test.YtgkobeililjgbaaFnExactPlainGoneTab
import Derived.Shelf.Small.Strs
namespace Go.Proofs.Ytgkobeililjgbaa.M
open Go Go.Eng Go.Proofs
set_option linter.unusedVariables false
theorem hfn : codeT.AllP fun n fn => Try.prog.funcs[realT.get n n]? = some fn := ⟨Try.func102, ⟨Try.func59, ⟨Try.func30, ⟨Try.func28, ⟨Try.func27, ⟨Try.func7, trivial, trivial⟩, trivial⟩, ⟨Try.func29, trivial, trivial⟩⟩, ⟨Try.func50, ⟨Try.func34, ⟨Try.func31, trivial, trivial⟩, trivial⟩, ⟨Try.func51, trivial, trivial⟩⟩⟩, ⟨Try.func64, ⟨Try.func62, ⟨Try.func61, ⟨Try.func60, trivial, trivial⟩, trivial⟩, ⟨Try.func63, trivial, trivial⟩⟩, ⟨Try.func66, ⟨Try.func65, trivial, trivial⟩, ⟨Try.func69, trivial, trivial⟩⟩⟩⟩, ⟨Try.func111, ⟨Try.func107, ⟨Try.func105, ⟨Try.func104, ⟨Try.func103, trivial, trivial⟩, trivial⟩, ⟨Try.func106, trivial, trivial⟩⟩, ⟨Try.func109, ⟨Try.func108, trivial, trivial⟩, ⟨Try.func110, trivial, trivial⟩⟩⟩, ⟨Try.func148, ⟨Try.func146, ⟨Try.func115, ⟨Try.func112, trivial, trivial⟩, trivial⟩, ⟨Try.func147, trivial, trivial⟩⟩, ⟨Try.func173, ⟨Try.func149, trivial, trivial⟩, ⟨Try.func174, trivial, trivial⟩⟩⟩⟩⟩
theorem specX (f : Nat) (h : Vals (E.sig f).ins → Option (Vals (E.sig f).outs)) (he : E.ext f = some h) (ins : Vals (E.sig f).ins) (outs : Vals (E.sig f).outs) (ho : h ins = some outs) : FnSpec Try.prog (E.sig f) (E.real f) (unpack _ ins) (unpack _ outs) := by cases he
theorem hCode : EnvCode Try.prog E := envCode_of hfn (names_of (by kernel_rfl)) (by kernel_rfl) specX
theorem hTy : EnvTy Try.prog E := envTy_of rfl (by kernel_rfl) (fun T _ => noEq (by kernel_rfl) T)
theorem hRd : ∀ T, rdB Try.prog E.ty T (E.ty T) = true := rd_of (ty := tyT) (by kernel_rfl)
theorem hLoops : EnvLoops E := envLoops_of (by kernel_rfl) (by kernel_rfl) (by kernel_rfl)
theorem hmix : Try.prog.follows .mixedOrders = true := by kernel_rfl

end Go.Proofs.Ytgkobeililjgbaa.M
