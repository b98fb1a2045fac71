/- What the plain forms that FnExactMsgText reaches come to: PSt2. No conditions but those that each theorem states. -/
import Derived.Test.YtameehmkoglkeaaDoorFnExactMsgTextPSt
set_option linter.all false
namespace Go.Proofs.YtameehmkoglkeaaDoor.M
open Go Go.Eng Go.Proofs
set_option linter.unusedVariables false
def QfS (xs:List Qg):List Int:=xs.flatMap fun x=>[x.1,x.2]
end Go.Proofs.YtameehmkoglkeaaDoor.M
