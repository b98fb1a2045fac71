/- What the plain forms that FnExactMsgText reaches come to: PEntry. No conditions but those that each theorem states. -/
import Derived.Test.YtameehmkoglkeaaDoorFnExactMsgTextPFam
import Derived.Lib.Bytealg
set_option linter.all false
namespace Go.Proofs.YtameehmkoglkeaaDoor.M
open Go Go.Eng Go.Proofs
set_option linter.unusedVariables false
def Qfu (a b:Int):Int:=if a<b then -1 else if b<a then 1 else 0
def Qkb (a b:ByteArray):Int:=Go.Lib.compareBytes a.data.toList b.data.toList
def or5 (a b c d e:Int):Int:=if a≠0 then a else if b≠0 then b else if c≠0 then c else if d≠0 then d else e
def Qjg (x y:Q4):Int:=or5 (Qfu x.1 y.1) (Qfu x.2.1 y.2.1) (Qfu x.2.2.1 y.2.2.1) (Qfu x.2.2.2.1 y.2.2.2.1) (Qkb x.2.2.2.2 y.2.2.2.2)
def Qjw (x y:Q4):Q4:=if Qjg x y<0 then y else x
end Go.Proofs.YtameehmkoglkeaaDoor.M
