/- What the plain forms that FnExactMsgText reaches come to: PMo. No conditions but those that each theorem states. -/
import Derived.Test.YtameehmkoglkeaaDoorFnExactMsgTextPSt2
set_option linter.all false
namespace Go.Proofs.YtameehmkoglkeaaDoor.M
open Go Go.Eng Go.Proofs
set_option linter.unusedVariables false
def hi1 (c:List Int):Int×Int×Bool:=rnum c 2 false
def hi2 (c:List Int):Int×Int×Bool:=rnum c (hi1 c).2.1 (hi1 c).2.2
def hs1 (c:List Int):Int×Int×Bool:=rnum c 2 false
def hs2 (c:List Int):Int×Int×Bool:=rnum c (hs1 c).2.1 (hs1 c).2.2
def hs3 (c:List Int):Int×Int×Bool:=rnum c (hs2 c).2.1 (hs2 c).2.2
def hs4 (c:List Int):Int×Int×Bool:=rnum c (hs3 c).2.1 (hs3 c).2.2
def hs5 (c:List Int):Int×Int×Bool:=rnum c (hs4 c).2.1 (hs4 c).2.2
def hs6 (c:List Int):List Int×Int×Bool:=rmany c (hs5 c).2.1 (hs5 c).2.2 1
end Go.Proofs.YtameehmkoglkeaaDoor.M
