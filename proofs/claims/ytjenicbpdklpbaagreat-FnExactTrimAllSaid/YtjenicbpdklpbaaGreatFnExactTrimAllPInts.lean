/- What the plain forms that FnExactTrimAll reaches come to: PInts. No conditions but those that each theorem states. -/
import Derived.Test.YtjenicbpdklpbaaGreatFnExactTrimAllPWA
set_option linter.all false
namespace Go.Proofs.YtjenicbpdklpbaaGreat.M
open Go Go.Eng Go.Proofs
set_option linter.unusedVariables false
theorem copyInts (a:List Int) (ha:a.length≤4294967296):impl_copyInts w a=some a:=by
 apply impl_copyInts_of
 have hf:fits a.length 8=true:=fits_of (by omega)
 simp[impl_copyInts_raw,hf]
end Go.Proofs.YtjenicbpdklpbaaGreat.M
