/- What the plain forms that FnExactMsgText reaches come to: PSem. No conditions but those that each theorem states. -/
import Derived.Test.YtameehmkoglkeaaDoorFnExactMsgTextPCopy
set_option linter.all false
namespace Go.Proofs.YtameehmkoglkeaaDoor.M
open Go Go.Eng Go.Proofs
set_option linter.unusedVariables false
def Qix (a b:QM) (id:Int):Q4:=Qjw (QeX (QbV id a.1)) (QeX (QbV id b.1))
def QfK (a b:QM) (id:Int):Int:=mxI (XT id a.2) (XT id b.2)
def Qjk (a b:QM) (i:Nat):List Qn:=bif decide (QfK a b (i:Int)<(Qix a b (i:Int)).1)then [((i:Int),Qix a b (i:Int))]else []
def Qi6 (a b:QM) (i:Nat):List Qg:=bif decide (0<QfK a b (i:Int))then [((i:Int),QfK a b (i:Int))]else []
def join (a b:QM):QM:=((List.range' 0 5).flatMap (Qjk a b),(List.range' 0 5).flatMap (Qi6 a b))
end Go.Proofs.YtameehmkoglkeaaDoor.M
