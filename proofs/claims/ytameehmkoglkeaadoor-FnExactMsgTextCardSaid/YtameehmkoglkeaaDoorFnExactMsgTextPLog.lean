/- What the plain forms that FnExactMsgText reaches come to: PLog. No conditions but those that each theorem states. -/
import Derived.Test.YtameehmkoglkeaaDoorFnExactMsgTextPTake
set_option linter.all false
namespace Go.Proofs.YtameehmkoglkeaaDoor.M
open Go Go.Eng Go.Proofs
set_option linter.unusedVariables false
def one (id:Int) (e:Q4):QM:=([(id,e)],[])
end Go.Proofs.YtameehmkoglkeaaDoor.M
