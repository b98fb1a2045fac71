/- What the plain forms that FnExactStep reaches come to: PPlainGone. No conditions but those that each theorem states. -/
import Derived.Test.YtjenicbpdklpbaaGreatFnExactStepPNode2
set_option linter.all false
namespace Go.Proofs.YtjenicbpdklpbaaGreat.M
open Go Go.Eng Go.Proofs
set_option linter.unusedVariables false
theorem QyI (a b:Int):QbH w (a,b)=some (mxI a b):=by
 apply QxV
 simp only[Qm1,mxI]
 by_cases h:a<b
 ·rw[df (by omega),QQ2,if_pos h]
 ·by_cases h2:b<a
  ·rw[dt h2,QQ1,if_neg h]
  ·rw[df h2,QQ2,if_neg h];congr 1;omega
def smS (s:Qj):Prop:=s.1.length<=maxLen/\s.2.length<=maxLen
end Go.Proofs.YtjenicbpdklpbaaGreat.M
