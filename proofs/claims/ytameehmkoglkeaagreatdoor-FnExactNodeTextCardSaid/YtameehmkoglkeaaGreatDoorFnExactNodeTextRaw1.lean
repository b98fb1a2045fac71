/- Plain forms of the functions that FnExactNodeText reaches, part 1. No conditions. -/
import Derived.Test.YtameehmkoglkeaaGreatDoorFnExactNodeTextTab
set_option linter.all false
namespace Go.Proofs.YtameehmkoglkeaaGreatDoor.M
open Go Go.Eng Go.Proofs
set_option linter.unusedVariables false
noncomputable section
def Qaw:rF Vm:=fun D L (a0,a1,a2,a3)=>
 (xl D (a0,a2)).bind fun r1=>
 bif (!r1)then(some false)
 else((Jk D (a1,a3)).bind fun r2=>
 bif (!r2)then(some false)
 else(some true))
theorem QhB:OfF Vm Qaw:=ofF 38
def Qbq:rF zH:=fun D L (a0,a1,a2,a3)=>
 (YD D (a0,a2)).bind fun r1=>
 bif (!r1)then(some false)
 else(bif (!decide (a1=a3))then(some false)
 else(some true))
theorem Qib:OfF zH Qbq:=ofF 39
def Qcw:rF jW:=fun D L (a0,a1,a2,a3,a4,a5)=>
 bif (!decide (a0=a3))then(some false)
 else(bif (!decide (a1=a4))then(some false)
 else((Jn D (a2,a5)).bind fun r1=>
 bif (!r1)then(some false)
 else(some true)))
theorem QjG:OfF jW Qcw:=ofF 40
def x6:rL YM:=fun D L (y0,y1,y2)=>
 bif (decide (y2<(y0.length:Int)))then(bif inb y2 y0.length then
 bif inb y2 y1.length then
 bif (!decide ((rd1 (0:Int) y0 y2)=(rd1 (0:Int) y1 y2)))then(some (Sum.inl false))
 else(YM L (y0,y1,(wR (y2+1))))else none else none)
 else(some (Sum.inr ()))
theorem jG:OfL YM x6:=ofL 41 0
def QaX:rF YD:=fun D L (a0,a1)=>
 bif (!decide ((a0.length:Int)=(a1.length:Int)))then(some false)
 else((YM L (a0,a1,0)).bind fun z1=>
 Qr z1 (fun u2=>
 some u2)
 (fun z3=>
 some true))
theorem QhS:OfF YD QaX:=ofF 41
def xA:rL Ys:=fun D L (y0,y1,y2)=>
 bif (decide (y2<(y0.length:Int)))then(bif inb y2 y0.length then
 bif inb y2 y1.length then
 (YD D ((rd1 ([]:List Int) y0 y2),(rd1 ([]:List Int) y1 y2))).bind fun r1=>
 bif (!r1)then(some (Sum.inl false))
 else(Ys L (y0,y1,(wR (y2+1))))else none else none)
 else(some (Sum.inr ()))
theorem yN:OfL Ys xA:=ofL 42 0
def Qak:rF qI:=fun D L (a0,a1)=>
 bif (!decide ((a0.length:Int)=(a1.length:Int)))then(some false)
 else((Ys L (a0,a1,0)).bind fun z2=>
 Qr z2 (fun u3=>
 some u3)
 (fun z4=>
 some true))
theorem Qhk:OfF qI Qak:=ofF 42
def xK:rL Yn:=fun D L (y0,y1,y2)=>
 bif (decide (y2<(y0.length:Int)))then(bif inb y2 y0.length then
 let e1:=(rd1 QbE y0 y2);
 bif inb y2 y1.length then
 let e2:=(rd1 QbE y1 y2);
 (zN D (e1.1,e1.2.1,e1.2.2.1,e1.2.2.2,e2)).bind fun r3=>
 bif (!r3)then(some (Sum.inl false))
 else(Yn L (y0,y1,(wR (y2+1))))else none else none)
 else(some (Sum.inr ()))
theorem yu:OfL Yn xK:=ofL 43 0
def vx:rF qx:=fun D L (a0,a1)=>
 bif (!decide ((a0.length:Int)=(a1.length:Int)))then(some false)
 else((Yn L (a0,a1,0)).bind fun z4=>
 Qr z4 (fun u5=>
 some u5)
 (fun z6=>
 some true))
theorem Qg7:OfF qx vx:=ofF 43
def qy:rL Z5:=fun D L (y0,y1,y2)=>
 bif (decide (y2<(y0.length:Int)))then(bif inb y2 y0.length then
 let e1:=(rd1 QbF y0 y2);
 bif inb y2 y1.length then
 let e2:=(rd1 QbF y1 y2);
 (zW D (e1.1,e1.2.1,e1.2.2,e2)).bind fun r3=>
 bif (!r3)then(some (Sum.inl false))
 else(Z5 L (y0,y1,(wR (y2+1))))else none else none)
 else(some (Sum.inr ()))
theorem yK:OfL Z5 qy:=ofL 44 0
def Qam:rF qo:=fun D L (a0,a1)=>
 bif (!decide ((a0.length:Int)=(a1.length:Int)))then(some false)
 else((Z5 L (a0,a1,0)).bind fun z4=>
 Qr z4 (fun u5=>
 some u5)
 (fun z6=>
 some true))
theorem QgH:OfF qo Qam:=ofF 44
def KZ:rL Z6:=fun D L (y0,y1,y2)=>
 bif (decide (y2<(y0.length:Int)))then(bif inb y2 y0.length then
 let e1:=(rd1 Zi y0 y2);
 (zO D (e1.1,e1.2.1,e1.2.2.1,e1.2.2.2.1,e1.2.2.2.2.1,e1.2.2.2.2.2,y1)).bind fun r2=>
 bif (decide (r2<0))then(some (Sum.inl (-1)))
 else(Z6 L (y0,r2,(wR (y2+1))))else none)
 else(some (Sum.inr y1))
theorem Vi:OfL Z6 KZ:=ofL 60 0
def vB:rF J7:=fun D L (a0,a1)=>
 bif (decide ((wR (a1 - (a0.length:Int)))<0))then(some (-1))
 else((Z6 L (a0,(wR (a1 - (a0.length:Int))),0)).bind fun z3=>
 Qr z3 (fun u4=>
 some u4)
 (fun z5=>
 some z5))
theorem Qhz:OfF J7 vB:=ofF 60
def jt:rF Jo:=fun D L (a0,a1)=>
 bif (decide ((wR (a1 - (a0.length:Int)))<0))then(some (-1))
 else(some (wR (a1 - (a0.length:Int))))
theorem Qfx:OfF Jo jt:=ofF 61
def Kg:rL ZS:=fun D L (y0,y1,y2)=>
 bif (decide (y2<(y0.length:Int)))then(bif inb y2 y0.length then
 let e1:=(rd1 Qcs y0 y2);
 (K8 D (e1.1,e1.2,y1)).bind fun r2=>
 bif (decide (r2<0))then(some (Sum.inl (-1)))
 else(ZS L (y0,r2,(wR (y2+1))))else none)
 else(some (Sum.inr y1))
theorem KO:OfL ZS Kg:=ofL 62 0
def jz:rF Jl:=fun D L (a0,a1)=>
 bif (decide ((wR (a1 - (a0.length:Int)))<0))then(some (-1))
 else((ZS L (a0,(wR (a1 - (a0.length:Int))),0)).bind fun z3=>
 Qr z3 (fun u4=>
 some u4)
 (fun z5=>
 some z5))
theorem QfH:OfF Jl jz:=ofF 62
def QdI:rF QC:=fun D L (a0,a1,a2)=>
 bif (decide (a1<=a0))then(some (decide (a0<=a2)))
 else(some false)
theorem Qky:OfF QC QdI:=ofF 63
def xa:rL Zg:=fun D L (y0,y1,y2)=>
 bif (decide (y0<(y1.length:Int)))then(bif inb y0 y1.length then
 let e1:=(rd1 Zi y1 y0);
 (Kv D e1.1).bind fun r2=>
 bif (!r2)then(some (Sum.inl false))
 else(bif (decide (0<y0))then(bif inb (wR (y0 - 1)) y1.length then
 let e3:=(rd1 Zi y1 (wR (y0 - 1)));
 bif (decide (e1.1<=e3.1))then(some (Sum.inl false))
 else((YJ D e1.2).bind fun r4=>
 bif (!r4)then(some (Sum.inl false))
 else((Vf D (y1,y2,e1.1)).bind fun r5=>
 bif (decide (e1.2.1<=r5))then(some (Sum.inl false))
 else(Zg L ((wR (y0+1)),y1,y2))))else none)
 else((YJ D e1.2).bind fun r6=>
 bif (!r6)then(some (Sum.inl false))
 else((Vf D (y1,y2,e1.1)).bind fun r7=>
 bif (decide (e1.2.1<=r7))then(some (Sum.inl false))
 else(Zg L ((wR (y0+1)),y1,y2)))))else none)
 else(some (Sum.inr (y1,y2)))
theorem yX:OfL Zg xa:=ofL 64 0
def xI:rL Zn:=fun D L (y0,y1,y2)=>
 bif (decide (y0<(y2.length:Int)))then(bif inb y0 y2.length then
 let e11:=(rd1 Xx y2 y0);
 (Kv D e11.1).bind fun r12=>
 bif (!r12)then(some (Sum.inl false))
 else(bif (decide (0<y0))then(bif inb (wR (y0 - 1)) y2.length then
 let e13:=(rd1 Xx y2 (wR (y0 - 1)));
 bif (decide (e11.1<=e13.1))then(some (Sum.inl false))
 else((QC D (e11.2,1,1000)).bind fun r14=>
 bif (!r14)then(some (Sum.inl false))
 else(Zn L ((wR (y0+1)),y1,y2)))else none)
 else((QC D (e11.2,1,1000)).bind fun r15=>
 bif (!r15)then(some (Sum.inl false))
 else(Zn L ((wR (y0+1)),y1,y2))))else none)
 else(some (Sum.inr ()))
theorem yE:OfL Zn xI:=ofL 64 2
def vO:rF ZM:=fun D L (a0,a1)=>
 (Zg L (0,a0,a1)).bind fun z8=>
 Qr z8 (fun u9=>
 some u9)
 (fun z10=>
 (Zn L (0,z10)).bind fun z16=>
 Qr z16 (fun u17=>
 some u17)
 (fun z18=>
 some true))
theorem QgO:OfF ZM vO:=ofF 64
def QaJ:rF qX:=fun D L (a0,a1,a2,a3)=>
 (zM D (a0,a2)).bind fun r1=>
 bif r1 then(some (decide (a1=a3)))
 else(some false)
theorem Qhd:OfF qX QaJ:=ofF 65
def x0:rL ZF:=fun D L (y0,y1,y2,y3,y4)=>
 bif (decide (y0<4))then((xk D (y1,y2,y0)).bind fun r2=>
 bif fits (y3.length+ [r2].length) 8 then
 ZF L ((wR (y0+1)),y1,y2,(y3++[r2]),y4)else none)
 else(some (y3,y4))
theorem jv:OfL ZF x0:=ofL 66 0
def QbI:rF zG:=fun D L (a0,a1)=>
 (ZM D (a0,a1)).bind fun r1=>
 bif (!r1)then(some ([],0))
 else((ZF L (0,a0,a1,[],0)).bind fun z3=>
 (zT D z3.1).bind fun r4=>
 some (z3.1,r4))
theorem QiI:OfF zG QbI:=ofF 66
def jo:rL Kr:=fun D L (y0,y1,y2,y3)=>
 bif (decide (y0<(y3.length:Int)))then(bif inb y0 y3.length then
 let e3:=(rd1 Qcs y3 y0);
 (ZM D e3).bind fun r4=>
 bif (!r4)then(some (Sum.inl false))
 else(Kr L ((wR (y0+1)),y1,y2,y3))else none)
 else(some (Sum.inr ()))
theorem v7:OfL Kr jo:=ofL 67 0
def Qcb:rF qE:=fun D L (a0,a1,a2)=>
 (QC D (a0,1,8)).bind fun r1=>
 bif (!r1)then(some false)
 else(bif (decide (a0<(a2.length:Int)))then(some false)
 else((QC D (a1,0,100000)).bind fun r2=>
 bif (!r2)then(some false)
 else(bif (decide (100000<(wR (a1+(a2.length:Int)))))then(some false)
 else((Kr L (0,a0,a1,a2)).bind fun z5=>
 Qr z5 (fun u6=>
 some u6)
 (fun z7=>
 some true)))))
theorem QjF:OfF qE Qcb:=ofF 67
def jl:rL Kl:=fun D L (y0,y1,y2)=>
 bif (decide (y2<y1))then(bif inb y2 y0.length then
 (QC D ((rd1 (0:Int) y0 y2),0,100000)).bind fun r2=>
 bif (!r2)then(some (Sum.inl false))
 else(Kl L (y0,y1,(wR (y2+1))))else none)
 else(some (Sum.inr ()))
theorem Qas:OfL Kl jl:=ofL 68 0
def zb:rF qH:=fun D L (a0,a1)=>
 (QC D (a1,1,5)).bind fun r1=>
 bif (!r1)then(some false)
 else(bif (!decide ((a0.length:Int)=a1))then(some false)
 else((Kl L (a0,a1,0)).bind fun z3=>
 Qr z3 (fun u4=>
 some u4)
 (fun z5=>
 some true)))
theorem Qjx:OfF qH zb:=ofF 68
def QaY:rF Jg:=fun D L (a0,a1,a2)=>
 (qE D (a0,a1,a2)).bind fun r1=>
 bif (!r1)then(some 0)
 else(some (wR (a1+(a2.length:Int))))
theorem Qiz:OfF Jg QaY:=ofF 69
def qO:rL Yp:=fun D L (y0,y1,y2)=>
 bif (decide (y2<y1))then(bif inb y2 y0.length then
 bif (!decide (((List.length (rd1 ([]:List Int) y0 y2)):Int)=5))then(some (Sum.inl false))
 else((X8 L (y0,y1,y2,0)).bind fun z3=>
 Qr z3 (fun u4=>
 some (Sum.inl u4))
 (fun z5=>
 Yp L (z5.1,z5.2.1,(wR (z5.2.2+1)))))else none)
 else(some (Sum.inr ()))
theorem yW:OfL Yp qO:=ofL 70 0
def qi:rL X8:=fun D L (y0,y1,y2,y3)=>
 bif inb y2 y0.length then
 bif (decide (y3<((List.length (rd1 ([]:List Int) y0 y2)):Int)))then(bif inb y2 y0.length then
 bif inb y3 (List.length (rd1 ([]:List Int) y0 y2))then
 (QC D ((rd1 (0:Int) (rd1 ([]:List Int) y0 y2) y3),0,1000)).bind fun r2=>
 bif (!r2)then(some (Sum.inl false))
 else(X8 L (y0,y1,y2,(wR (y3+1))))else none else none)
 else(some (Sum.inr (y0,y1,y2)))else none
theorem yc:OfL X8 qi:=ofL 70 2
def JJ:rF J2:=fun D L (a0,a1)=>
 (QC D (a1,1,5)).bind fun r1=>
 bif (!r1)then(some false)
 else(bif (!decide ((a0.length:Int)=a1))then(some false)
 else((Yp L (a0,a1,0)).bind fun z6=>
 Qr z6 (fun u7=>
 some u7)
 (fun z8=>
 some true)))
theorem Qhg:OfF J2 JJ:=ofF 70
def xB:rL Yo:=fun D L (y0,y1,y2,y3,y4,y5,y6,y7,y8,y9,y10,y11,y12,y13,y14,y15,y16,y17,y18,y19)=>
 bif (decide (y0<(y15.length:Int)))then(bif inb y0 y15.length then
 let e1:=(rd1 QbE y15 y0);
 (QC D (e1.1,0,(wR (y2 - 1)))).bind fun r2=>
 bif (!r2)then(some (Sum.inl false))
 else(bif (decide (e1.1=y1))then(some (Sum.inl false))
 else((QC D (e1.2.1,0,100000)).bind fun r3=>
 bif (!r3)then(some (Sum.inl false))
 else((QC D (e1.2.2.2,0,y16)).bind fun r4=>
 bif (!r4)then(some (Sum.inl false))
 else((XJ L (y0,0,e1.1,y1,(decide (e1.1=y1)),e1.2.1,r3,(!r3),e1.2.2.2,y16,r4,(!r4),y1,y2,y3,y4,y5,y6,y7,y8,y9,y10,y11,y12,y13,y14,y15,y16,y17,y18,y19,e1)).bind fun z7=>
 Qr z7 (fun u8=>
 some (Sum.inl u8))
 (fun z9=>
 Yo L ((wR (z9.1+1)),z9.2.2.2.2.2.2.2.2.2.2.2.1,z9.2.2.2.2.2.2.2.2.2.2.2.2.1,z9.2.2.2.2.2.2.2.2.2.2.2.2.2.1,z9.2.2.2.2.2.2.2.2.2.2.2.2.2.2.1,z9.2.2.2.2.2.2.2.2.2.2.2.2.2.2.2.1,z9.2.2.2.2.2.2.2.2.2.2.2.2.2.2.2.2.1,z9.2.2.2.2.2.2.2.2.2.2.2.2.2.2.2.2.2.1,z9.2.2.2.2.2.2.2.2.2.2.2.2.2.2.2.2.2.2.1,z9.2.2.2.2.2.2.2.2.2.2.2.2.2.2.2.2.2.2.2.1,z9.2.2.2.2.2.2.2.2.2.2.2.2.2.2.2.2.2.2.2.2.1,z9.2.2.2.2.2.2.2.2.2.2.2.2.2.2.2.2.2.2.2.2.2.1,z9.2.2.2.2.2.2.2.2.2.2.2.2.2.2.2.2.2.2.2.2.2.2.1,z9.2.2.2.2.2.2.2.2.2.2.2.2.2.2.2.2.2.2.2.2.2.2.2.1,z9.2.2.2.2.2.2.2.2.2.2.2.2.2.2.2.2.2.2.2.2.2.2.2.2.1,z9.2.2.2.2.2.2.2.2.2.2.2.2.2.2.2.2.2.2.2.2.2.2.2.2.2.1,z9.2.2.2.2.2.2.2.2.2.2.2.2.2.2.2.2.2.2.2.2.2.2.2.2.2.2.1,z9.2.2.2.2.2.2.2.2.2.2.2.2.2.2.2.2.2.2.2.2.2.2.2.2.2.2.2.1,z9.2.2.2.2.2.2.2.2.2.2.2.2.2.2.2.2.2.2.2.2.2.2.2.2.2.2.2.2.1,z9.2.2.2.2.2.2.2.2.2.2.2.2.2.2.2.2.2.2.2.2.2.2.2.2.2.2.2.2.2.1))))))else none)
 else(some (Sum.inr ()))
theorem yS:OfL Yo xB:=ofL 71 0
def xG:rL XJ:=fun D L (y0,y1,y2,y3,y4,y5,y6,y7,y8,y9,y10,y11,y12,y13,y14,y15,y16,y17,y18,y19,y20,y21,y22,y23,y24,y25,y26,y27,y28,y29,y30,y31,y32,y33,y34)=>
 bif (decide (y1<y0))then(bif inb y1 y26.length then
 let e5:=(rd1 QbE y26 y1);
 bif (decide (e5.1=y31))then(bif inb y1 y26.length then
 let e6:=(rd1 QbE y26 y1);
 bif (e6.2.2.1==y33)then(some (Sum.inl false))
 else(XJ L (y0,(wR (y1+1)),y2,y3,y4,y5,y6,y7,y8,y9,y10,y11,y12,y13,y14,y15,y16,y17,y18,y19,y20,y21,y22,y23,y24,y25,y26,y27,y28,y29,y30,y31,y32,y33,y34))else none)
 else(XJ L (y0,(wR (y1+1)),y2,y3,y4,y5,y6,y7,y8,y9,y10,y11,y12,y13,y14,y15,y16,y17,y18,y19,y20,y21,y22,y23,y24,y25,y26,y27,y28,y29,y30,y31,y32,y33,y34))else none)
 else(some (Sum.inr (y0,y2,y3,y4,y5,y6,y7,y8,y9,y10,y11,y12,y13,y14,y15,y16,y17,y18,y19,y20,y21,y22,y23,y24,y25,y26,y27,y28,y29,y30,y31,y32,y33,y34)))
theorem yr:OfL XJ xG:=ofL 71 2
def QaA:rF qC:=fun D L (a0,a1,a2,a3,a4,a5,a6,a7,a8,a9,a10,a11,a12,a13,a14,a15,a16,a17,a18)=>
 bif (decide (a13<(a14.length:Int)))then(some false)
 else((Yo L (0,a0,a1,a2,a3,a4,a5,a6,a7,a8,a9,a10,a11,a12,a13,a14,a15,a16,a17,a18)).bind fun z10=>
 Qr z10 (fun u11=>
 some u11)
 (fun z12=>
 some true))
theorem Qgt:OfF qC QaA:=ofF 71
def yq:rF YQ:=fun D L (a0,a1,a2,a3,a4)=>
 bif (decide (a1=0))then(bif (decide (a1=1))then((QE D a0).bind fun r1=>
 bif fits (ByteArray.size r1+ByteArray.size (⟨#[103]⟩:ByteArray)) 1 then
 (QE D a2).bind fun r2=>
 bif fits (ByteArray.size (r1++(⟨#[103]⟩:ByteArray))+ByteArray.size r2) 1 then
 bif fits (ByteArray.size ((r1++(⟨#[103]⟩:ByteArray))++r2)+ByteArray.size (⟨#[46]⟩:ByteArray)) 1 then
 (QE D a3).bind fun r3=>
 bif fits (ByteArray.size (((r1++(⟨#[103]⟩:ByteArray))++r2)++(⟨#[46]⟩:ByteArray))+ByteArray.size r3) 1 then
 bif fits (ByteArray.size ((((r1++(⟨#[103]⟩:ByteArray))++r2)++(⟨#[46]⟩:ByteArray))++r3)+ByteArray.size (⟨#[58]⟩:ByteArray)) 1 then
 bif fits (ByteArray.size (((((r1++(⟨#[103]⟩:ByteArray))++r2)++(⟨#[46]⟩:ByteArray))++r3)++(⟨#[58]⟩:ByteArray))+ByteArray.size a4) 1 then
 some ((((((r1++(⟨#[103]⟩:ByteArray))++r2)++(⟨#[46]⟩:ByteArray))++r3)++(⟨#[58]⟩:ByteArray))++a4)else none else none else none else none else none else none)
 else((QE D a0).bind fun r4=>
 bif fits (ByteArray.size r4+ByteArray.size (⟨#[117]⟩:ByteArray)) 1 then
 (QE D a2).bind fun r5=>
 bif fits (ByteArray.size (r4++(⟨#[117]⟩:ByteArray))+ByteArray.size r5) 1 then
 bif fits (ByteArray.size ((r4++(⟨#[117]⟩:ByteArray))++r5)+ByteArray.size (⟨#[46]⟩:ByteArray)) 1 then
 (QE D a3).bind fun r6=>
 bif fits (ByteArray.size (((r4++(⟨#[117]⟩:ByteArray))++r5)++(⟨#[46]⟩:ByteArray))+ByteArray.size r6) 1 then
 bif fits (ByteArray.size ((((r4++(⟨#[117]⟩:ByteArray))++r5)++(⟨#[46]⟩:ByteArray))++r6)+ByteArray.size (⟨#[58]⟩:ByteArray)) 1 then
 bif fits (ByteArray.size (((((r4++(⟨#[117]⟩:ByteArray))++r5)++(⟨#[46]⟩:ByteArray))++r6)++(⟨#[58]⟩:ByteArray))+ByteArray.size a4) 1 then
 some ((((((r4++(⟨#[117]⟩:ByteArray))++r5)++(⟨#[46]⟩:ByteArray))++r6)++(⟨#[58]⟩:ByteArray))++a4)else none else none else none else none else none else none))
 else(bif (decide (a1=1))then((QE D a0).bind fun r7=>
 bif fits (ByteArray.size r7+ByteArray.size (⟨#[103]⟩:ByteArray)) 1 then
 (QE D a2).bind fun r8=>
 bif fits (ByteArray.size (r7++(⟨#[103]⟩:ByteArray))+ByteArray.size r8) 1 then
 bif fits (ByteArray.size ((r7++(⟨#[103]⟩:ByteArray))++r8)+ByteArray.size (⟨#[46]⟩:ByteArray)) 1 then
 (QE D a3).bind fun r9=>
 bif fits (ByteArray.size (((r7++(⟨#[103]⟩:ByteArray))++r8)++(⟨#[46]⟩:ByteArray))+ByteArray.size r9) 1 then
 bif fits (ByteArray.size ((((r7++(⟨#[103]⟩:ByteArray))++r8)++(⟨#[46]⟩:ByteArray))++r9)+ByteArray.size (⟨#[58]⟩:ByteArray)) 1 then
 bif fits (ByteArray.size (((((r7++(⟨#[103]⟩:ByteArray))++r8)++(⟨#[46]⟩:ByteArray))++r9)++(⟨#[58]⟩:ByteArray))+ByteArray.size a4) 1 then
 some ((((((r7++(⟨#[103]⟩:ByteArray))++r8)++(⟨#[46]⟩:ByteArray))++r9)++(⟨#[58]⟩:ByteArray))++a4)else none else none else none else none else none else none)
 else((QE D a0).bind fun r10=>
 bif fits (ByteArray.size r10+ByteArray.size (⟨#[63]⟩:ByteArray)) 1 then
 (QE D a2).bind fun r11=>
 bif fits (ByteArray.size (r10++(⟨#[63]⟩:ByteArray))+ByteArray.size r11) 1 then
 bif fits (ByteArray.size ((r10++(⟨#[63]⟩:ByteArray))++r11)+ByteArray.size (⟨#[46]⟩:ByteArray)) 1 then
 (QE D a3).bind fun r12=>
 bif fits (ByteArray.size (((r10++(⟨#[63]⟩:ByteArray))++r11)++(⟨#[46]⟩:ByteArray))+ByteArray.size r12) 1 then
 bif fits (ByteArray.size ((((r10++(⟨#[63]⟩:ByteArray))++r11)++(⟨#[46]⟩:ByteArray))++r12)+ByteArray.size (⟨#[58]⟩:ByteArray)) 1 then
 bif fits (ByteArray.size (((((r10++(⟨#[63]⟩:ByteArray))++r11)++(⟨#[46]⟩:ByteArray))++r12)++(⟨#[58]⟩:ByteArray))+ByteArray.size a4) 1 then
 some ((((((r10++(⟨#[63]⟩:ByteArray))++r11)++(⟨#[46]⟩:ByteArray))++r12)++(⟨#[58]⟩:ByteArray))++a4)else none else none else none else none else none else none))
theorem Qe3:OfF YQ yq:=ofF 72
def qd:rL Yb:=fun D L (y0,y1,y2)=>
 bif (decide (y1<(y0.length:Int)))then(bif inb y1 y0.length then
 let e1:=(rd1 Zi y0 y1);
 (zA D e1).bind fun r2=>
 bif inb y1 y2.length then
 let l3:=List.set y2 (Int.toNat y1) r2;
 Yb L (y0,(wR (y1+1)),l3)else none else none)
 else(some y2)
theorem yj:OfL Yb qd:=ofL 73 0
def Qan:rF qP:=fun D L a0=>
 bif (decide ((0:Int)<=(a0.length:Int)/\((a0.length:Int):Int)=(a0.length:Int))&&fits (Int.toNat (a0.length:Int)) 56)then
 (Yb L (a0,0,(List.replicate (Int.toNat (a0.length:Int)) (0,0,0,0,0,ByteArray.empty)))).bind fun z4=>
 some z4 else none
theorem Qhw:OfF qP Qan:=ofF 73
def JI:rL ZL:=fun D L (y0,y1,y2)=>
 bif (decide (y1<(y0.length:Int)))then(bif inb y1 y0.length then
 let e1:=(rd1 Xx y0 y1);
 (qw D e1).bind fun r2=>
 bif inb y1 y2.length then
 let l3:=List.set y2 (Int.toNat y1) r2;
 ZL L (y0,(wR (y1+1)),l3)else none else none)
 else(some y2)
theorem xN:OfL ZL JI:=ofL 74 0
def jM:rF Jm:=fun D L a0=>
 bif (decide ((0:Int)<=(a0.length:Int)/\((a0.length:Int):Int)=(a0.length:Int))&&fits (Int.toNat (a0.length:Int)) 16)then
 (ZL L (a0,0,(List.replicate (Int.toNat (a0.length:Int)) (0,0)))).bind fun z4=>
 some z4 else none
theorem QfO:OfF Jm jM:=ofF 74
def JE:rL ZH:=fun D L (y0,y1,y2)=>
 bif (decide (y1<(y0.length:Int)))then(bif inb y1 y0.length then
 let e1:=(rd1 Qcs y0 y1);
 (Vp D e1).bind fun r2=>
 bif inb y1 y2.length then
 let l3:=List.set y2 (Int.toNat y1) r2;
 ZH L (y0,(wR (y1+1)),l3)else none else none)
 else(some y2)
theorem xP:OfL ZH JE:=ofL 75 0
def jH:rF Jp:=fun D L a0=>
 bif (decide ((0:Int)<=(a0.length:Int)/\((a0.length:Int):Int)=(a0.length:Int))&&fits (Int.toNat (a0.length:Int)) 48)then
 (ZH L (a0,0,(List.replicate (Int.toNat (a0.length:Int)) ([],[])))).bind fun z4=>
 some z4 else none
theorem QfI:OfF Jp jH:=ofF 75
def Qbl:rF zy:=fun D L (a0,a1,a2,a3)=>
 some (a0,a1,a2,a3)
theorem QhY:OfF zy Qbl:=ofF 76
def Qa4:rF zU:=fun D L (a0,a1,a2)=>
 some (a0,a1,a2)
theorem Qil:OfF zU Qa4:=ofF 77
def Qa3:rF Qw:=fun D L (a0,a1,a2)=>
 bif (decide (a1<=a0))then(some (decide (a0<=a2)))
 else(some false)
theorem Qin:OfF Qw Qa3:=ofF 78
def qU:rL Zc:=fun D L (y0,y1,y2,y3,y4)=>
 bif (decide (y2<y1))then(bif inb y2 y0.length then
 let e1:=(rd1 Xx y0 y2);
 (Kw D e1.1).bind fun r2=>
 bif (!r2)then(some (Sum.inl false))
 else((Qw D (e1.2,1,1000)).bind fun r3=>
 bif (!r3)then(some (Sum.inl false))
 else(bif (decide (0<y2))then(bif inb (wR (y2 - 1)) y4.length then
 let e4:=(rd1 Xx y4 (wR (y2 - 1)));
 bif (decide (e1.1<=e4.1))then(some (Sum.inl false))
 else(Zc L (y0,y1,(wR (y2+1)),y3,y4))else none)
 else(Zc L (y0,y1,(wR (y2+1)),y3,y4))))else none)
 else(some (Sum.inr (y3,y4)))
theorem yT:OfL Zc qU:=ofL 79 0
def qK:rL X9:=fun D L (y0,y1,y2,y3,y4)=>
 bif (decide (y2<y1))then(bif inb y2 y0.length then
 let e8:=(rd1 Zi y0 y2);
 (Kw D e8.1).bind fun r9=>
 bif (!r9)then(some (Sum.inl false))
 else((Vq D e8.2).bind fun r10=>
 bif (!r10)then(some (Sum.inl false))
 else((qf D (y3,y4,e8.1)).bind fun r11=>
 bif (decide (e8.2.1<=r11))then(some (Sum.inl false))
 else(bif (decide (0<y2))then(bif inb (wR (y2 - 1)) y3.length then
 let e12:=(rd1 Zi y3 (wR (y2 - 1)));
 bif (decide (e8.1<=e12.1))then(some (Sum.inl false))
 else(X9 L (y0,y1,(wR (y2+1)),y3,y4))else none)
 else(X9 L (y0,y1,(wR (y2+1)),y3,y4)))))else none)
 else(some (Sum.inr ()))
theorem yH:OfL X9 qK:=ofL 79 2
def vM:rF XM:=fun D L (a0,a1)=>
 (Zc L (a1,(a1.length:Int),0,a0,a1)).bind fun z5=>
 Qr z5 (fun u6=>
 some u6)
 (fun z7=>
 (X9 L (z7.1,(z7.1.length:Int),0,z7)).bind fun z13=>
 Qr z13 (fun u14=>
 some u14)
 (fun z15=>
 some true))
theorem QgP:OfF XM vM:=ofF 79
def jF:rF Jq:=fun D L (a0,a1,a2,a3)=>
 (ZV D (a0,a2)).bind fun r1=>
 bif r1 then(some (decide (a1=a3)))
 else(some false)
theorem QfF:OfF Jq jF:=ofF 80
def xW:rL ZE:=fun D L (y0,y1,y2,y3,y4)=>
 bif (decide (y0<4))then((qu D (y1,y2,y0)).bind fun r2=>
 bif fits (y3.length+ [r2].length) 8 then
 ZE L ((wR (y0+1)),y1,y2,(y3++[r2]),y4)else none)
 else(some (y3,y4))
theorem js:OfL ZE xW:=ofL 81 0
def Qbb:rF zY:=fun D L (a0,a1)=>
 (XM D (a0,a1)).bind fun r1=>
 bif (!r1)then(some ([],0))
 else((ZE L (0,a0,a1,[],0)).bind fun z3=>
 (zu D z3.1).bind fun r4=>
 some (z3.1,r4))
theorem QiD:OfF zY Qbb:=ofF 81
end
end Go.Proofs.YtameehmkoglkeaaGreatDoor.M
