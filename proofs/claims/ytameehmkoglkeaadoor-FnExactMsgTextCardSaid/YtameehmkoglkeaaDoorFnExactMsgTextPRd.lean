/- What the plain forms that FnExactMsgText reaches come to: PRd. No conditions but those that each theorem states. -/
import Derived.Test.YtameehmkoglkeaaDoorFnExactMsgTextPNum
set_option linter.all false
namespace Go.Proofs.YtameehmkoglkeaaDoor.M
open Go Go.Eng Go.Proofs
set_option linter.unusedVariables false
structure Bs (b:List Int):Prop where
 isb:isB b
 len:b.length<=4294967296
def rnum (b:List Int) (p:Int) (bad:Bool):Int×Int×Bool:=bif bad then(0,p,true)else(bif (Qht b p).2.2 then((Qht b p).1,(Qht b p).2.1,false)else(0,p,true))
def QdN (b:List Int):Nat->Int->Bool->List Int×Int×Bool
 |0,p,bad=>([],p,bad)
 |m+1,p,bad=>bif bad then([],p,bad)else((rnum b p bad).1::(QdN b m (rnum b p bad).2.1 (rnum b p bad).2.2).1,(QdN b m (rnum b p bad).2.1 (rnum b p bad).2.2).2)
def rmany (b:List Int) (p:Int) (bad:Bool) (t:Nat):List Int×Int×Bool:=bif decide (100<(rnum b p bad).1)then([],(rnum b p bad).2.1,true)else QdN b ((rnum b p bad).1.toNat*t) (rnum b p bad).2.1 (rnum b p bad).2.2
end Go.Proofs.YtameehmkoglkeaaDoor.M
