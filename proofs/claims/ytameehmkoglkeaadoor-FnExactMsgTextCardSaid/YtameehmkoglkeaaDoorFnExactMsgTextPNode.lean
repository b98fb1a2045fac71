/- What the plain forms that FnExactMsgText reaches come to: PNode. No conditions but those that each theorem states. -/
import Derived.Test.YtameehmkoglkeaaDoorFnExactMsgTextPStBytes
set_option linter.all false
namespace Go.Proofs.YtameehmkoglkeaaDoor.M
open Go Go.Eng Go.Proofs
set_option linter.unusedVariables false
theorem Qb1 {α:Type}{R:Type}(p:α->Bool) (l:List α) (x y:R) {i:Nat}(hi:i<l.length):(if(l.drop i).all p then x else y)=(bif p l[i]then(if(l.drop (i+1)).all p then x else y)else y):=by
 rw[QRa hi,List.all_cons]
 cases p l[i]<;>simp
end Go.Proofs.YtameehmkoglkeaaDoor.M
