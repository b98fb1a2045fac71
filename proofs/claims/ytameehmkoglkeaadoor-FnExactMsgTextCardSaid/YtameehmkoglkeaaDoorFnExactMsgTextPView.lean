/- What the plain forms that FnExactMsgText reaches come to: PView. No conditions but those that each theorem states. -/
import Derived.Test.YtameehmkoglkeaaDoorFnExactMsgTextPWA
set_option linter.all false
namespace Go.Proofs.YtameehmkoglkeaaDoor.M
open Go Go.Eng Go.Proofs
set_option linter.unusedVariables false
def live (x:Qn):Bool:=decide (x.2.2.1=0)
def view (s:QM):List Qn:=bif Kr s then s.1.filter live else []
end Go.Proofs.YtameehmkoglkeaaDoor.M
