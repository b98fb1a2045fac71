/- What the plain forms that FnExactMsgText reaches come to: PPlain. No conditions but those that each theorem states. -/
import Derived.Test.YtameehmkoglkeaaDoorFnExactMsgTextPPlainGone
set_option linter.all false
namespace Go.Proofs.YtameehmkoglkeaaDoor.M
open Go Go.Eng Go.Proofs
set_option linter.unusedVariables false
def QeX (r:Int×Int×Int×Int×ByteArray×Bool):Q4:=(r.1,r.2.1,r.2.2.1,r.2.2.2.1,r.2.2.2.2.1)
end Go.Proofs.YtameehmkoglkeaaDoor.M
