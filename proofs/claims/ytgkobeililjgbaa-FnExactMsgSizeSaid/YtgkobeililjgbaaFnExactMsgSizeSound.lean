/- The tables agree with the program. No conditions. -/
import Derived.Test.YtgkobeililjgbaaFnExactMsgSizeTab
import Derived.Shelf.Small.Strs
namespace Go.Proofs.Ytgkobeililjgbaa.M
open Go Go.Eng Go.Proofs
set_option linter.unusedVariables false
theorem hfn : codeT.AllP fun n fn => Try.prog.funcs[realT.get n n]? = some fn := ⟨Try.func108, ⟨Try.func69, ⟨Try.func42, ⟨Try.func38, ⟨Try.func17, ⟨Try.func15, ⟨Try.func9, trivial, trivial⟩, trivial⟩, ⟨Try.func34, trivial, trivial⟩⟩, ⟨Try.func40, ⟨Try.func39, trivial, trivial⟩, ⟨Try.func41, trivial, trivial⟩⟩⟩, ⟨Try.func61, ⟨Try.func51, ⟨Try.func50, trivial, trivial⟩, ⟨Try.func59, trivial, trivial⟩⟩, ⟨Try.func65, ⟨Try.func63, trivial, trivial⟩, ⟨Try.func66, trivial, trivial⟩⟩⟩⟩, ⟨Try.func80, ⟨Try.func76, ⟨Try.func74, ⟨Try.func73, ⟨Try.func72, trivial, trivial⟩, trivial⟩, ⟨Try.func75, trivial, trivial⟩⟩, ⟨Try.func78, ⟨Try.func77, trivial, trivial⟩, ⟨Try.func79, trivial, trivial⟩⟩⟩, ⟨Try.func104, ⟨Try.func102, ⟨Try.func92, trivial, trivial⟩, ⟨Try.func103, trivial, trivial⟩⟩, ⟨Try.func106, ⟨Try.func105, trivial, trivial⟩, ⟨Try.func107, trivial, trivial⟩⟩⟩⟩⟩, ⟨Try.func143, ⟨Try.func119, ⟨Try.func115, ⟨Try.func111, ⟨Try.func110, ⟨Try.func109, trivial, trivial⟩, trivial⟩, ⟨Try.func112, trivial, trivial⟩⟩, ⟨Try.func117, ⟨Try.func116, trivial, trivial⟩, ⟨Try.func118, trivial, trivial⟩⟩⟩, ⟨Try.func123, ⟨Try.func121, ⟨Try.func120, trivial, trivial⟩, ⟨Try.func122, trivial, trivial⟩⟩, ⟨Try.func125, ⟨Try.func124, trivial, trivial⟩, ⟨Try.func132, trivial, trivial⟩⟩⟩⟩, ⟨Try.func159, ⟨Try.func155, ⟨Try.func148, ⟨Try.func147, ⟨Try.func146, trivial, trivial⟩, trivial⟩, ⟨Try.func149, trivial, trivial⟩⟩, ⟨Try.func157, ⟨Try.func156, trivial, trivial⟩, ⟨Try.func158, trivial, trivial⟩⟩⟩, ⟨Try.func163, ⟨Try.func161, ⟨Try.func160, trivial, trivial⟩, ⟨Try.func162, trivial, trivial⟩⟩, ⟨Try.func173, ⟨Try.func167, trivial, trivial⟩, ⟨Try.func174, trivial, trivial⟩⟩⟩⟩⟩⟩
theorem specX (f : Nat) (h : Vals (E.sig f).ins → Option (Vals (E.sig f).outs)) (he : E.ext f = some h) (ins : Vals (E.sig f).ins) (outs : Vals (E.sig f).outs) (ho : h ins = some outs) : FnSpec Try.prog (E.sig f) (E.real f) (unpack _ ins) (unpack _ outs) := by cases he
theorem hCode : EnvCode Try.prog E := envCode_of hfn (names_of (by kernel_rfl)) (by kernel_rfl) specX
theorem hTy : EnvTy Try.prog E := envTy_of rfl (by kernel_rfl) (fun T _ => noEq (by kernel_rfl) T)
theorem hRd : ∀ T, rdB Try.prog E.ty T (E.ty T) = true := rd_of (ty := tyT) (by kernel_rfl)
theorem hLoops : EnvLoops E := envLoops_of (by kernel_rfl) (by kernel_rfl) (by kernel_rfl)
theorem hmix : Try.prog.follows .mixedOrders = true := by kernel_rfl

end Go.Proofs.Ytgkobeililjgbaa.M
