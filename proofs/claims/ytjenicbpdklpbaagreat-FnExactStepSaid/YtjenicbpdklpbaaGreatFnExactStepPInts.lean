/- What the plain forms that FnExactStep reaches come to: PInts. No conditions but those that each theorem states. -/
import Derived.Test.YtjenicbpdklpbaaGreatFnExactStepPView
set_option linter.all false
namespace Go.Proofs.YtjenicbpdklpbaaGreat.M
open Go Go.Eng Go.Proofs
set_option linter.unusedVariables false
theorem vS (a:List Int) (ha:a.length<=4294967296):ZF w a=some a:=by
 apply QrX
 have hf:fits a.length 8=true:=Qu (by omega)
 simp[Qhn,hf]
end Go.Proofs.YtjenicbpdklpbaaGreat.M
