/- What the plain forms that FnExactStep reaches come to: PSafe. No conditions but those that each theorem states. -/
import Derived.Test.YtjenicbpdklpbaaGreatFnExactStepPInts
set_option linter.all false
namespace Go.Proofs.YtjenicbpdklpbaaGreat.M
open Go Go.Eng Go.Proofs
set_option linter.unusedVariables false
theorem QyX (a b:Int):Qbf w (a,b)=some (mnI a b):=by
 apply QxC
 simp only[Qnq,mnI]
 by_cases h:a<b
 ·rw[dt h,QQ1,if_neg (by omega)]
 ·rw[df h,QQ2]
  by_cases h2:b<a
  ·rw[if_pos h2]
  ·rw[if_neg h2];congr 1;omega
end Go.Proofs.YtjenicbpdklpbaaGreat.M
