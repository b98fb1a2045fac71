/- What the plain forms that FnExactMsgText reaches come to: PMsgB. No conditions but those that each theorem states. -/
import Derived.Test.YtameehmkoglkeaaDoorFnExactMsgTextPRcv2
set_option linter.all false
namespace Go.Proofs.YtameehmkoglkeaaDoor.M
open Go Go.Eng Go.Proofs
set_option linter.unusedVariables false
def isB (l:List Int):Prop:=∀x∈l,0<=x/\x<256
end Go.Proofs.YtameehmkoglkeaaDoor.M
