/- Plain forms of the functions that FnExactWorldText reaches, part 6. No conditions. -/
import Derived.Test.YtameehmkoglkeaaGreatDoorFnExactWorldTextTab
set_option linter.all false
namespace Go.Proofs.YtameehmkoglkeaaGreatDoor.M
open Go Go.Eng Go.Proofs
set_option linter.unusedVariables false
noncomputable section
def Qfs:rF vb:=fun D L a0=>
 (QN D ((ByteArray.size a0):Int)).bind fun r1=>
 (XX D [r1,(ofBytes a0)]).bind fun r2=>
 some r2
theorem Qmz:OfF vb Qfs:=ofF 174
def QcS:rL Jz:=fun D L (y0,y1,y2)=>
 bif (decide (y2<(y0.length:Int)))then(bif inb y2 y0.length then
 bif (decide ((rd1 (0:Int) y0 y2)=y1))then(some (Sum.inl true))
 else(Jz L (y0,y1,(wR (y2+1))))else none)
 else(some (Sum.inr ()))
theorem QeI:OfL Jz QcS:=ofL 175 0
def Qhr:rF vV:=fun D L (a0,a1)=>
 (Jz L (a0,a1,0)).bind fun z1=>
 Qo z1 (fun u2=>
 some u2)
 (fun z3=>
 some false)
theorem QqL:OfF vV Qhr:=ofF 175
def QgG:rF xV:=fun D L a0=>
 (ZW D a0).bind fun r1=>
 bif (!r1)then(some (-1))
 else((Q7 D a0).bind fun r2=>
 (zG D r2).bind fun r3=>
 bif decide ((4:Int)≠0)then
 some (Int.tmod r3 4)else none)
theorem Qpv:OfF xV QgG:=ofF 176
def Jr:rF Za:=fun D L (a0,a1)=>
 (Ka D (a0,a1)).bind fun r1=>
 some (decide (0<=r1))
theorem QdC:OfF Za Jr:=ofF 177
def Qgj:rF xT:=fun D L a0=>
 (ZY D a0).bind fun r1=>
 bif (!r1)then(some (-1))
 else((QN D a0).bind fun r2=>
 (zP D r2).bind fun r3=>
 bif decide ((4:Int)≠0)then
 some (Int.tmod r3 4)else none)
theorem Qo4:OfF xT Qgj:=ofF 178
def Vd:rL Zf:=fun D L (y0,y1,y2,y3)=>
 bif (decide (y3<y2))then(bif inb y3 y0.length then
 bif (decide (y1=(rd1 (0:Int) y0 y3)))then(some (Sum.inl y3))
 else(Zf L (y0,y1,y2,(wR (y3+1))))else none)
 else(some (Sum.inr ()))
theorem qd:OfL Zf Vd:=ofL 185 0
def xy:rF Ka:=fun D L (a0,a1)=>
 (Zf L (a0,a1,(a0.length:Int),0)).bind fun z1=>
 Qo z1 (fun u2=>
 some u2)
 (fun z3=>
 some (-1))
theorem Qg4:OfF Ka xy:=ofF 185
end
end Go.Proofs.YtameehmkoglkeaaGreatDoor.M
