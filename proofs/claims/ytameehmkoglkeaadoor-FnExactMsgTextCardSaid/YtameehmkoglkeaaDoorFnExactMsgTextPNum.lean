/- What the plain forms that FnExactMsgText reaches come to: PNum. No conditions but those that each theorem states. -/
import Derived.Test.YtameehmkoglkeaaDoorFnExactMsgTextPMsgB
set_option linter.all false
namespace Go.Proofs.YtameehmkoglkeaaDoor.M
open Go Go.Eng Go.Proofs
set_option linter.unusedVariables false
def Qjm:Nat->Nat->Int->List Int->Option (Int×Nat)
 |0,_,_,_=>none
 |_+1,_,_,[]=>none
 |f+1,i,acc,c::l=>if 128<=c then Qjm f (i+1) (acc+(c % 128)*128^i) l
  else if(0<i/\c=0)\/2147483647<acc+(c % 128)*128^i then none else some (acc+(c % 128)*128^i,i+1)
def Qkt (k:Int):Option (Int×Nat)->Int×Int×Bool
 |none=>(0,0,false)
 |some r=>(r.1,k+(r.2:Nat),true)
def Qht (b:List Int) (k:Int):Int×Int×Bool:=if 0<=k/\k<(b.length:Int)then Qkt k (Qjm 5 0 0 (b.drop k.toNat))else(0,0,false)
theorem i5 {i:Nat}(h:i<5):i=0\/i=1\/i=2\/i=3\/i=4:=by omega
end Go.Proofs.YtameehmkoglkeaaDoor.M
