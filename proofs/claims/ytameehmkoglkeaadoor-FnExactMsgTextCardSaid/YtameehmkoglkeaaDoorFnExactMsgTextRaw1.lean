/- Plain forms of the functions that FnExactMsgText reaches, part 1. No conditions. -/
import Derived.Test.YtameehmkoglkeaaDoorFnExactMsgTextTab
set_option linter.all false
namespace Go.Proofs.YtameehmkoglkeaaDoor.M
open Go Go.Eng Go.Proofs
set_option linter.unusedVariables false
noncomputable section
def VD:rL ZE:=fun D L (y0,y1,y2)=>
 bif (decide (y2<(y0.length:Int)))then(bif inb y2 y0.length then
 bif inb y2 y1.length then
 bif (!decide ((rd1 (0:Int) y0 y2)=(rd1 (0:Int) y1 y2)))then(some (Sum.inl false))
 else(ZE L (y0,y1,(wR (y2+1))))else none else none)
 else(some (Sum.inr ()))
theorem JQ:OfL ZE VD:=ofL 55 0
def xV:rF Ya:=fun D L (a0,a1)=>
 bif (!decide ((a0.length:Int)=(a1.length:Int)))then(some false)
 else((ZE L (a0,a1,0)).bind fun z1=>
 QK z1 (fun u2=>
 some u2)
 (fun z3=>
 some true))
theorem QbG:OfF Ya xV:=ofF 55
def qm:rF Vs:=fun D L (a0,a1,a2,a3)=>
 (KX D (a0,a2)).bind fun r1=>
 bif (!r1)then(some false)
 else((Ki D (a1,a3)).bind fun r2=>
 bif (!r2)then(some false)
 else(some true))
theorem QaQ:OfF Vs qm:=ofF 56
def K9:rL Zi:=fun D L (y0,y1,y2)=>
 bif (decide (y2<(y0.length:Int)))then(bif inb y2 y0.length then
 let e1:=(rd1 QV y0 y2);
 bif inb y2 y1.length then
 let e2:=(rd1 QV y1 y2);
 (V4 D (e1.1,e1.2,e2)).bind fun r3=>
 bif (!r3)then(some (Sum.inl false))
 else(Zi L (y0,y1,(wR (y2+1))))else none else none)
 else(some (Sum.inr ()))
theorem JE:OfL Zi K9:=ofL 57 0
def qv:rF KV:=fun D L (a0,a1)=>
 bif (!decide ((a0.length:Int)=(a1.length:Int)))then(some false)
 else((Zi L (a0,a1,0)).bind fun z4=>
 QK z4 (fun u5=>
 some u5)
 (fun z6=>
 some true))
theorem Qa8:OfF KV qv:=ofF 57
def qt:rF strconv_Itoa:=fun _ _=>QaM
theorem Qbm:OfF strconv_Itoa qt:=ofF 71
def Yi:rL Zo:=fun D L (y0,y1,y2)=>
 bif (decide (y2<(y0.length:Int)))then(bif inb y2 y0.length then
 let e1:=(rd1 Yk y0 y2);
 (VQ D (e1.1,e1.2.1,e1.2.2.1,e1.2.2.2.1,e1.2.2.2.2.1,e1.2.2.2.2.2,y1)).bind fun r2=>
 bif (decide (r2<0))then(some (Sum.inl (-1)))
 else(Zo L (y0,r2,(wR (y2+1))))else none)
 else(some (Sum.inr y1))
theorem Yt:OfL Zo Yi:=ofL 75 0
def xf:rF K2:=fun D L (a0,a1)=>
 bif (decide ((wR (a1 - (a0.length:Int)))<0))then(some (-1))
 else((Zo L (a0,(wR (a1 - (a0.length:Int))),0)).bind fun z3=>
 QK z3 (fun u4=>
 some u4)
 (fun z5=>
 some z5))
theorem QaB:OfF K2 xf:=ofF 75
def JR:rF Kf:=fun D L (a0,a1)=>
 bif (decide ((wR (a1 - (a0.length:Int)))<0))then(some (-1))
 else(some (wR (a1 - (a0.length:Int))))
theorem vV:OfF Kf JR:=ofF 76
def xz:rF XS:=fun D L a0=>
 (QS D (a0,0,4)).bind fun r1=>
 some r1
theorem QbY:OfF XS xz:=ofF 77
def qx:rF KH:=fun D L (a0,a1)=>
 bif (decide ((a0.length:Int)=0))then(some (decide (a1=0)))
 else(bif (decide ((a0.length:Int)=4))then((ZG D (a0,4,1023)).bind fun r1=>
 bif r1 then((QS D (a1,0,1023)).bind fun r2=>
 some r2)
 else(some false))
 else(some false))
theorem QaJ:OfF KH qx:=ofF 78
def KI:rL Zj:=fun D L (y0,y1,y2)=>
 bif (decide (y2<(y0.length:Int)))then(bif inb y2 y0.length then
 (QS D ((rd1 (0:Int) y0 y2),0,y1)).bind fun r1=>
 bif (!r1)then(some (Sum.inl false))
 else(Zj L (y0,y1,(wR (y2+1))))else none)
 else(some (Sum.inr ()))
theorem Je:OfL Zj KI:=ofL 79 0
def xe:rF ZG:=fun D L (a0,a1,a2)=>
 bif (decide (a1<(a0.length:Int)))then(some false)
 else((Zj L (a0,a2,0)).bind fun z2=>
 QK z2 (fun u3=>
 some u3)
 (fun z4=>
 some true))
theorem Qau:OfF ZG xe:=ofF 79
def KL:rL XC:=fun D L (y0,y1,y2)=>
 bif (decide (y0<(y1.length:Int)))then(bif inb y0 y1.length then
 let e1:=(rd1 Yk y1 y0);
 (XS D e1.1).bind fun r2=>
 bif (!r2)then(some (Sum.inl false))
 else(bif (decide (0<y0))then(bif inb (wR (y0 - 1)) y1.length then
 let e3:=(rd1 Yk y1 (wR (y0 - 1)));
 bif (decide (e1.1<=e3.1))then(some (Sum.inl false))
 else((ZA D e1.2).bind fun r4=>
 bif (!r4)then(some (Sum.inl false))
 else((Yq D (y1,y2,e1.1)).bind fun r5=>
 bif (decide (e1.2.1<=r5))then(some (Sum.inl false))
 else(XC L ((wR (y0+1)),y1,y2))))else none)
 else((ZA D e1.2).bind fun r6=>
 bif (!r6)then(some (Sum.inl false))
 else((Yq D (y1,y2,e1.1)).bind fun r7=>
 bif (decide (e1.2.1<=r7))then(some (Sum.inl false))
 else(XC L ((wR (y0+1)),y1,y2)))))else none)
 else(some (Sum.inr (y1,y2)))
theorem Jx:OfL XC KL:=ofL 80 0
def KW:rL XE:=fun D L (y0,y1,y2)=>
 bif (decide (y0<(y2.length:Int)))then(bif inb y0 y2.length then
 let e11:=(rd1 QV y2 y0);
 (XS D e11.1).bind fun r12=>
 bif (!r12)then(some (Sum.inl false))
 else(bif (decide (0<y0))then(bif inb (wR (y0 - 1)) y2.length then
 let e13:=(rd1 QV y2 (wR (y0 - 1)));
 bif (decide (e11.1<=e13.1))then(some (Sum.inl false))
 else((QS D (e11.2,1,1000)).bind fun r14=>
 bif (!r14)then(some (Sum.inl false))
 else(XE L ((wR (y0+1)),y1,y2)))else none)
 else((QS D (e11.2,1,1000)).bind fun r15=>
 bif (!r15)then(some (Sum.inl false))
 else(XE L ((wR (y0+1)),y1,y2))))else none)
 else(some (Sum.inr ()))
theorem Jt:OfL XE KW:=ofL 80 2
def qI:rF K3:=fun D L (a0,a1)=>
 (XC L (0,a0,a1)).bind fun z8=>
 QK z8 (fun u9=>
 some u9)
 (fun z10=>
 (XE L (0,z10)).bind fun z16=>
 QK z16 (fun u17=>
 some u17)
 (fun z18=>
 some true))
theorem Qae:OfF K3 qI:=ofF 80
def Vo:rL Xy:=fun D L (y0,y1)=>
 bif (decide (y1<(y0.length:Int)))then(bif inb y1 y0.length then
 let e1:=(rd1 QV y0 y1);
 (XS D e1.1).bind fun r2=>
 bif (!r2)then(some (Sum.inl false))
 else(bif (decide (0<y1))then(bif inb y1 y0.length then
 let e3:=(rd1 QV y0 y1);
 bif inb (wR (y1 - 1)) y0.length then
 let e4:=(rd1 QV y0 (wR (y1 - 1)));
 bif (decide (e3.1<=e4.1))then(some (Sum.inl false))
 else(bif inb y1 y0.length then
 let e5:=(rd1 QV y0 y1);
 (QS D (e5.2,1,1000)).bind fun r6=>
 bif (!r6)then(some (Sum.inl false))
 else(Xy L (y0,(wR (y1+1))))else none)else none else none)
 else(bif inb y1 y0.length then
 let e7:=(rd1 QV y0 y1);
 (QS D (e7.2,1,1000)).bind fun r8=>
 bif (!r8)then(some (Sum.inl false))
 else(Xy L (y0,(wR (y1+1))))else none))else none)
 else(some (Sum.inr ()))
theorem Jk:OfL Xy Vo:=ofL 81 0
def qE:rF KO:=fun D L a0=>
 (Xy L (a0,0)).bind fun z9=>
 QK z9 (fun u10=>
 some u10)
 (fun z11=>
 some true)
theorem Qav:OfF KO qE:=ofF 81
def Jg:rF ZF:=fun D L (a0,a1,a2,a3,a4)=>
 bif (decide (a1=0))then(bif (decide (a1=1))then((Qv D a0).bind fun r1=>
 bif fits (ByteArray.size r1+ByteArray.size (⟨#[103]⟩:ByteArray)) 1 then
 (Qv D a2).bind fun r2=>
 bif fits (ByteArray.size (r1++(⟨#[103]⟩:ByteArray))+ByteArray.size r2) 1 then
 bif fits (ByteArray.size ((r1++(⟨#[103]⟩:ByteArray))++r2)+ByteArray.size (⟨#[46]⟩:ByteArray)) 1 then
 (Qv D a3).bind fun r3=>
 bif fits (ByteArray.size (((r1++(⟨#[103]⟩:ByteArray))++r2)++(⟨#[46]⟩:ByteArray))+ByteArray.size r3) 1 then
 bif fits (ByteArray.size ((((r1++(⟨#[103]⟩:ByteArray))++r2)++(⟨#[46]⟩:ByteArray))++r3)+ByteArray.size (⟨#[58]⟩:ByteArray)) 1 then
 bif fits (ByteArray.size (((((r1++(⟨#[103]⟩:ByteArray))++r2)++(⟨#[46]⟩:ByteArray))++r3)++(⟨#[58]⟩:ByteArray))+ByteArray.size a4) 1 then
 some ((((((r1++(⟨#[103]⟩:ByteArray))++r2)++(⟨#[46]⟩:ByteArray))++r3)++(⟨#[58]⟩:ByteArray))++a4)else none else none else none else none else none else none)
 else((Qv D a0).bind fun r4=>
 bif fits (ByteArray.size r4+ByteArray.size (⟨#[117]⟩:ByteArray)) 1 then
 (Qv D a2).bind fun r5=>
 bif fits (ByteArray.size (r4++(⟨#[117]⟩:ByteArray))+ByteArray.size r5) 1 then
 bif fits (ByteArray.size ((r4++(⟨#[117]⟩:ByteArray))++r5)+ByteArray.size (⟨#[46]⟩:ByteArray)) 1 then
 (Qv D a3).bind fun r6=>
 bif fits (ByteArray.size (((r4++(⟨#[117]⟩:ByteArray))++r5)++(⟨#[46]⟩:ByteArray))+ByteArray.size r6) 1 then
 bif fits (ByteArray.size ((((r4++(⟨#[117]⟩:ByteArray))++r5)++(⟨#[46]⟩:ByteArray))++r6)+ByteArray.size (⟨#[58]⟩:ByteArray)) 1 then
 bif fits (ByteArray.size (((((r4++(⟨#[117]⟩:ByteArray))++r5)++(⟨#[46]⟩:ByteArray))++r6)++(⟨#[58]⟩:ByteArray))+ByteArray.size a4) 1 then
 some ((((((r4++(⟨#[117]⟩:ByteArray))++r5)++(⟨#[46]⟩:ByteArray))++r6)++(⟨#[58]⟩:ByteArray))++a4)else none else none else none else none else none else none))
 else(bif (decide (a1=1))then((Qv D a0).bind fun r7=>
 bif fits (ByteArray.size r7+ByteArray.size (⟨#[103]⟩:ByteArray)) 1 then
 (Qv D a2).bind fun r8=>
 bif fits (ByteArray.size (r7++(⟨#[103]⟩:ByteArray))+ByteArray.size r8) 1 then
 bif fits (ByteArray.size ((r7++(⟨#[103]⟩:ByteArray))++r8)+ByteArray.size (⟨#[46]⟩:ByteArray)) 1 then
 (Qv D a3).bind fun r9=>
 bif fits (ByteArray.size (((r7++(⟨#[103]⟩:ByteArray))++r8)++(⟨#[46]⟩:ByteArray))+ByteArray.size r9) 1 then
 bif fits (ByteArray.size ((((r7++(⟨#[103]⟩:ByteArray))++r8)++(⟨#[46]⟩:ByteArray))++r9)+ByteArray.size (⟨#[58]⟩:ByteArray)) 1 then
 bif fits (ByteArray.size (((((r7++(⟨#[103]⟩:ByteArray))++r8)++(⟨#[46]⟩:ByteArray))++r9)++(⟨#[58]⟩:ByteArray))+ByteArray.size a4) 1 then
 some ((((((r7++(⟨#[103]⟩:ByteArray))++r8)++(⟨#[46]⟩:ByteArray))++r9)++(⟨#[58]⟩:ByteArray))++a4)else none else none else none else none else none else none)
 else((Qv D a0).bind fun r10=>
 bif fits (ByteArray.size r10+ByteArray.size (⟨#[63]⟩:ByteArray)) 1 then
 (Qv D a2).bind fun r11=>
 bif fits (ByteArray.size (r10++(⟨#[63]⟩:ByteArray))+ByteArray.size r11) 1 then
 bif fits (ByteArray.size ((r10++(⟨#[63]⟩:ByteArray))++r11)+ByteArray.size (⟨#[46]⟩:ByteArray)) 1 then
 (Qv D a3).bind fun r12=>
 bif fits (ByteArray.size (((r10++(⟨#[63]⟩:ByteArray))++r11)++(⟨#[46]⟩:ByteArray))+ByteArray.size r12) 1 then
 bif fits (ByteArray.size ((((r10++(⟨#[63]⟩:ByteArray))++r11)++(⟨#[46]⟩:ByteArray))++r12)+ByteArray.size (⟨#[58]⟩:ByteArray)) 1 then
 bif fits (ByteArray.size (((((r10++(⟨#[63]⟩:ByteArray))++r11)++(⟨#[46]⟩:ByteArray))++r12)++(⟨#[58]⟩:ByteArray))+ByteArray.size a4) 1 then
 some ((((((r10++(⟨#[63]⟩:ByteArray))++r11)++(⟨#[46]⟩:ByteArray))++r12)++(⟨#[58]⟩:ByteArray))++a4)else none else none else none else none else none else none))
theorem vf:OfF ZF Jg:=ofF 82
def Vf:rL Ze:=fun D L (y0,y1,y2)=>
 bif (decide (y1<(y0.length:Int)))then(bif inb y1 y0.length then
 let e1:=(rd1 Yk y0 y1);
 (VU D e1).bind fun r2=>
 bif inb y1 y2.length then
 let l3:=List.set y2 (Int.toNat y1) r2;
 Ze L (y0,(wR (y1+1)),l3)else none else none)
 else(some y2)
theorem Jc:OfL Ze Vf:=ofL 83 0
def qn:rF KE:=fun D L a0=>
 bif (decide ((0:Int)<=(a0.length:Int)/\((a0.length:Int):Int)=(a0.length:Int))&&fits (Int.toNat (a0.length:Int)) 56)then
 (Ze L (a0,0,(List.replicate (Int.toNat (a0.length:Int)) (0,0,0,0,0,ByteArray.empty)))).bind fun z4=>
 some z4 else none
theorem QaC:OfF KE qn:=ofF 83
def Kn:rL XX:=fun D L (y0,y1,y2)=>
 bif (decide (y1<(y0.length:Int)))then(bif inb y1 y0.length then
 let e1:=(rd1 QV y0 y1);
 (KP D e1).bind fun r2=>
 bif inb y1 y2.length then
 let l3:=List.set y2 (Int.toNat y1) r2;
 XX L (y0,(wR (y1+1)),l3)else none else none)
 else(some y2)
theorem VB:OfL XX Kn:=ofL 84 0
def JM:rF Kg:=fun D L a0=>
 bif (decide ((0:Int)<=(a0.length:Int)/\((a0.length:Int):Int)=(a0.length:Int))&&fits (Int.toNat (a0.length:Int)) 16)then
 (XX L (a0,0,(List.replicate (Int.toNat (a0.length:Int)) (0,0)))).bind fun z4=>
 some z4 else none
theorem vO:OfF Kg JM:=ofF 84
def xU:rF VW:=fun D L (a0,a1)=>
 some (a0,a1)
theorem QbD:OfF VW xU:=ofF 85
def xY:rF XP:=fun D L a0=>
 (QG D (a0,0,4)).bind fun r1=>
 some r1
theorem Qb3:OfF XP xY:=ofF 86
def VN:rL ZL:=fun D L (y0,y1,y2,y3,y4)=>
 bif (decide (y2<y1))then(bif inb y2 y0.length then
 (QG D ((rd1 (0:Int) y0 y2),0,1023)).bind fun r1=>
 bif (!r1)then(some (Sum.inl false))
 else(ZL L (y0,y1,(wR (y2+1)),y3,y4))else none)
 else(some (Sum.inr (y3,y4)))
theorem JP:OfL ZL VN:=ofL 87 0
def xT:rF VZ:=fun D L (a0,a1)=>
 bif (decide ((a0.length:Int)=0))then(some (decide (a1=0)))
 else((ZL L (a0,(a0.length:Int),0,a0,a1)).bind fun z2=>
 QK z2 (fun u3=>
 some u3)
 (fun z4=>
 bif (decide ((z4.1.length:Int)=4))then((QG D (z4.2,0,1023)).bind fun r5=>
 some r5)
 else(some false)))
theorem Qb5:OfF VZ xT:=ofF 87
def Ve:rL Xz:=fun D L (y0,y1,y2,y3,y4)=>
 bif (decide (y2<y1))then(bif inb y2 y0.length then
 let e1:=(rd1 QV y0 y2);
 (XP D e1.1).bind fun r2=>
 bif (!r2)then(some (Sum.inl false))
 else((QG D (e1.2,1,1000)).bind fun r3=>
 bif (!r3)then(some (Sum.inl false))
 else(bif (decide (0<y2))then(bif inb (wR (y2 - 1)) y4.length then
 let e4:=(rd1 QV y4 (wR (y2 - 1)));
 bif (decide (e1.1<=e4.1))then(some (Sum.inl false))
 else(Xz L (y0,y1,(wR (y2+1)),y3,y4))else none)
 else(Xz L (y0,y1,(wR (y2+1)),y3,y4))))else none)
 else(some (Sum.inr (y3,y4)))
theorem Jd:OfL Xz Ve:=ofL 88 0
def KN:rL XB:=fun D L (y0,y1,y2,y3,y4)=>
 bif (decide (y2<y1))then(bif inb y2 y0.length then
 let e8:=(rd1 Yk y0 y2);
 (XP D e8.1).bind fun r9=>
 bif (!r9)then(some (Sum.inl false))
 else((Yw D e8.2).bind fun r10=>
 bif (!r10)then(some (Sum.inl false))
 else((K8 D (y3,y4,e8.1)).bind fun r11=>
 bif (decide (e8.2.1<=r11))then(some (Sum.inl false))
 else(bif (decide (0<y2))then(bif inb (wR (y2 - 1)) y3.length then
 let e12:=(rd1 Yk y3 (wR (y2 - 1)));
 bif (decide (e8.1<=e12.1))then(some (Sum.inl false))
 else(XB L (y0,y1,(wR (y2+1)),y3,y4))else none)
 else(XB L (y0,y1,(wR (y2+1)),y3,y4)))))else none)
 else(some (Sum.inr ()))
theorem Jn:OfL XB KN:=ofL 88 2
def xj:rF Va:=fun D L (a0,a1)=>
 (Xz L (a1,(a1.length:Int),0,a0,a1)).bind fun z5=>
 QK z5 (fun u6=>
 some u6)
 (fun z7=>
 (XB L (z7.1,(z7.1.length:Int),0,z7)).bind fun z13=>
 QK z13 (fun u14=>
 some u14)
 (fun z15=>
 some true))
theorem QaI:OfF Va xj:=ofF 88
def K0:rL XD:=fun D L (y0,y1,y2,y3)=>
 bif (decide (y3<y2))then(bif inb y3 y1.length then
 let e1:=(rd1 QV y1 y3);
 (XP D e1.1).bind fun r2=>
 bif (!r2)then(some (Sum.inl false))
 else((QG D (e1.2,1,1000)).bind fun r3=>
 bif (!r3)then(some (Sum.inl false))
 else(bif (decide (0<y3))then(bif inb (wR (y3 - 1)) y0.length then
 let e4:=(rd1 QV y0 (wR (y3 - 1)));
 bif (decide (e1.1<=e4.1))then(some (Sum.inl false))
 else(XD L (y0,y1,y2,(wR (y3+1))))else none)
 else(XD L (y0,y1,y2,(wR (y3+1))))))else none)
 else(some (Sum.inr ()))
theorem Jy:OfL XD K0:=ofL 89 0
def qz:rF KS:=fun D L a0=>
 (XD L (a0,a0,(a0.length:Int),0)).bind fun z5=>
 QK z5 (fun u6=>
 some u6)
 (fun z7=>
 some true)
theorem QaA:OfF KS qz:=ofF 89
def Jv:rF YR:=fun D L (a0,a1,a2,a3,a4)=>
 bif (decide (a1=0))then((QD D a0).bind fun r1=>
 bif fits (ByteArray.size r1+ByteArray.size (⟨#[117]⟩:ByteArray)) 1 then
 (QD D a2).bind fun r2=>
 bif fits (ByteArray.size (r1++(⟨#[117]⟩:ByteArray))+ByteArray.size r2) 1 then
 bif fits (ByteArray.size ((r1++(⟨#[117]⟩:ByteArray))++r2)+ByteArray.size (⟨#[46]⟩:ByteArray)) 1 then
 (QD D a3).bind fun r3=>
 bif fits (ByteArray.size (((r1++(⟨#[117]⟩:ByteArray))++r2)++(⟨#[46]⟩:ByteArray))+ByteArray.size r3) 1 then
 bif fits (ByteArray.size ((((r1++(⟨#[117]⟩:ByteArray))++r2)++(⟨#[46]⟩:ByteArray))++r3)+ByteArray.size (⟨#[58]⟩:ByteArray)) 1 then
 bif fits (ByteArray.size (((((r1++(⟨#[117]⟩:ByteArray))++r2)++(⟨#[46]⟩:ByteArray))++r3)++(⟨#[58]⟩:ByteArray))+ByteArray.size a4) 1 then
 some ((((((r1++(⟨#[117]⟩:ByteArray))++r2)++(⟨#[46]⟩:ByteArray))++r3)++(⟨#[58]⟩:ByteArray))++a4)else none else none else none else none else none else none)
 else(bif (decide (a1=1))then((QD D a0).bind fun r4=>
 bif fits (ByteArray.size r4+ByteArray.size (⟨#[103]⟩:ByteArray)) 1 then
 (QD D a2).bind fun r5=>
 bif fits (ByteArray.size (r4++(⟨#[103]⟩:ByteArray))+ByteArray.size r5) 1 then
 bif fits (ByteArray.size ((r4++(⟨#[103]⟩:ByteArray))++r5)+ByteArray.size (⟨#[46]⟩:ByteArray)) 1 then
 (QD D a3).bind fun r6=>
 bif fits (ByteArray.size (((r4++(⟨#[103]⟩:ByteArray))++r5)++(⟨#[46]⟩:ByteArray))+ByteArray.size r6) 1 then
 bif fits (ByteArray.size ((((r4++(⟨#[103]⟩:ByteArray))++r5)++(⟨#[46]⟩:ByteArray))++r6)+ByteArray.size (⟨#[58]⟩:ByteArray)) 1 then
 bif fits (ByteArray.size (((((r4++(⟨#[103]⟩:ByteArray))++r5)++(⟨#[46]⟩:ByteArray))++r6)++(⟨#[58]⟩:ByteArray))+ByteArray.size a4) 1 then
 some ((((((r4++(⟨#[103]⟩:ByteArray))++r5)++(⟨#[46]⟩:ByteArray))++r6)++(⟨#[58]⟩:ByteArray))++a4)else none else none else none else none else none else none)
 else((QD D a0).bind fun r7=>
 bif fits (ByteArray.size r7+ByteArray.size (⟨#[63]⟩:ByteArray)) 1 then
 (QD D a2).bind fun r8=>
 bif fits (ByteArray.size (r7++(⟨#[63]⟩:ByteArray))+ByteArray.size r8) 1 then
 bif fits (ByteArray.size ((r7++(⟨#[63]⟩:ByteArray))++r8)+ByteArray.size (⟨#[46]⟩:ByteArray)) 1 then
 (QD D a3).bind fun r9=>
 bif fits (ByteArray.size (((r7++(⟨#[63]⟩:ByteArray))++r8)++(⟨#[46]⟩:ByteArray))+ByteArray.size r9) 1 then
 bif fits (ByteArray.size ((((r7++(⟨#[63]⟩:ByteArray))++r8)++(⟨#[46]⟩:ByteArray))++r9)+ByteArray.size (⟨#[58]⟩:ByteArray)) 1 then
 bif fits (ByteArray.size (((((r7++(⟨#[63]⟩:ByteArray))++r8)++(⟨#[46]⟩:ByteArray))++r9)++(⟨#[58]⟩:ByteArray))+ByteArray.size a4) 1 then
 some ((((((r7++(⟨#[63]⟩:ByteArray))++r8)++(⟨#[46]⟩:ByteArray))++r9)++(⟨#[58]⟩:ByteArray))++a4)else none else none else none else none else none else none))
theorem vk:OfF YR Jv:=ofF 90
def Vw:rL Zf:=fun D L (y0,y1,y2)=>
 bif (decide (y2<(y0.length:Int)))then(bif inb y2 y0.length then
 let e1:=(rd1 Yk y0 y2);
 bif inb y2 y1.length then
 let e2:=(rd1 Yk y1 y2);
 (V9 D (e1.1,e1.2.1,e1.2.2.1,e1.2.2.2.1,e1.2.2.2.2.1,e1.2.2.2.2.2,e2)).bind fun r3=>
 bif (!r3)then(some (Sum.inl false))
 else(Zf L (y0,y1,(wR (y2+1))))else none else none)
 else(some (Sum.inr ()))
theorem JD:OfL Zf Vw:=ofL 91 0
def qj:rF KX:=fun D L (a0,a1)=>
 bif (!decide ((a0.length:Int)=(a1.length:Int)))then(some false)
 else((Zf L (a0,a1,0)).bind fun z4=>
 QK z4 (fun u5=>
 some u5)
 (fun z6=>
 some true))
theorem Qbn:OfF KX qj:=ofF 91
def Kp:rL XY:=fun D L (y0,y1,y2)=>
 bif (decide (y2<(y0.length:Int)))then(bif inb y2 y0.length then
 let e1:=(rd1 QV y0 y2);
 bif inb y2 y1.length then
 let e2:=(rd1 QV y1 y2);
 (Vm D (e1.1,e1.2,e2)).bind fun r3=>
 bif (!r3)then(some (Sum.inl false))
 else(XY L (y0,y1,(wR (y2+1))))else none else none)
 else(some (Sum.inr ()))
theorem Vz:OfL XY Kp:=ofL 92 0
def JN:rF Ki:=fun D L (a0,a1)=>
 bif (!decide ((a0.length:Int)=(a1.length:Int)))then(some false)
 else((XY L (a0,a1,0)).bind fun z4=>
 QK z4 (fun u5=>
 some u5)
 (fun z6=>
 some true))
theorem vX:OfF Ki JN:=ofF 92
def xL:rF V4:=fun D L (a0,a1,a2,a3)=>
 bif (!decide (a0=a2))then(some false)
 else(bif (!decide (a1=a3))then(some false)
 else(some true))
theorem Qb2:OfF V4 xL:=ofF 93
def xF:rF VQ:=fun D L (a0,a1,a2,a3,a4,a5,a6)=>
 (Vl D (a1,a2,a3,a4,a5,a6)).bind fun r1=>
 bif (decide (r1<0))then(some (-1))
 else(some r1)
theorem QbU:OfF VQ xF:=ofF 103
def qN:rF ZA:=fun D L (a0,a1,a2,a3,a4)=>
 (QS D (a0,1,1000)).bind fun r1=>
 bif r1 then((QS D (a1,0,1)).bind fun r2=>
 bif r2 then((QS D (a2,0,100000)).bind fun r3=>
 bif r3 then((QS D (a3,0,1000)).bind fun r4=>
 bif r4 then(some (decide (((ByteArray.size a4):Int)<=8)))
 else(some false))
 else(some false))
 else(some false))
 else(some false)
theorem Qa4:OfF ZA qN:=ofF 104
def Vi:rL Zl:=fun D L (y0,y1,y2,y3)=>
 bif (decide (y1<(y3.length:Int)))then(bif inb y1 y3.length then
 let e1:=(rd1 QV y3 y1);
 bif (decide (e1.1=y0))then(bif inb y1 y3.length then
 let e2:=(rd1 QV y3 y1);
 some (Sum.inl e2.2)else none)
 else(Zl L (y0,(wR (y1+1)),y2,y3))else none)
 else(some (Sum.inr ()))
theorem Jw:OfL Zl Vi:=ofL 105 0
def xm:rF Yq:=fun D L (a0,a1,a2)=>
 (Zl L (a2,0,a0,a1)).bind fun z3=>
 QK z3 (fun u4=>
 some u4)
 (fun z5=>
 some 0)
theorem Qaf:OfF Yq xm:=ofF 105
def xq:rF VU:=fun D L (a0,a1,a2,a3,a4,a5)=>
 (KM D (a1,a2,a3,a4,a5)).bind fun r1=>
 some (a0,r1)
theorem QbQ:OfF VU xq:=ofF 106
def qF:rF KP:=fun D L (a0,a1)=>
 some (a0,a1)
theorem Qaw:OfF KP qF:=ofF 107
def qU:rF Yw:=fun D L (a0,a1,a2,a3,a4)=>
 (QG D (a0,1,1000)).bind fun r1=>
 bif r1 then((QG D (a1,0,1)).bind fun r2=>
 bif r2 then((QG D (a2,0,100000)).bind fun r3=>
 bif r3 then((QG D (a3,0,1000)).bind fun r4=>
 bif r4 then(some (decide (((ByteArray.size a4):Int)<=8)))
 else(some false))
 else(some false))
 else(some false))
 else(some false)
theorem QaR:OfF Yw qU:=ofF 108
def Vq:rL Zd:=fun D L (y0,y1,y2,y3)=>
 bif (decide (y3<y2))then(bif inb y3 y1.length then
 let e1:=(rd1 QV y1 y3);
 bif (decide (e1.1=y0))then(some (Sum.inl e1.2))
 else(Zd L (y0,y1,y2,(wR (y3+1))))else none)
 else(some (Sum.inr ()))
theorem JA:OfL Zd Vq:=ofL 109 0
def ql:rF K8:=fun D L (a0,a1,a2)=>
 (Zd L (a2,a1,(a1.length:Int),0)).bind fun z2=>
 QK z2 (fun u3=>
 some u3)
 (fun z4=>
 some 0)
theorem QaK:OfF K8 ql:=ofF 109
def xP:rF V9:=fun D L (a0,a1,a2,a3,a4,a5,a6,a7,a8,a9,a10,a11)=>
 bif (!decide (a0=a6))then(some false)
 else((Vu D (a1,a2,a3,a4,a5,a7,a8,a9,a10,a11)).bind fun r1=>
 bif (!r1)then(some false)
 else(some true))
theorem QbF:OfF V9 xP:=ofF 110
def qY:rF Vm:=fun D L (a0,a1,a2,a3)=>
 bif (!decide (a0=a2))then(some false)
 else(bif (!decide (a1=a3))then(some false)
 else(some true))
theorem Qbk:OfF Vm qY:=ofF 111
def qq:rF Vl:=fun D L (a0,a1,a2,a3,a4,a5)=>
 bif (decide ((wR (a5 - ((ByteArray.size a4):Int)))<0))then(some (-1))
 else(some (wR (a5 - ((ByteArray.size a4):Int))))
theorem Qaz:OfF Vl qq:=ofF 124
def qS:rF KM:=fun D L (a0,a1,a2,a3,a4)=>
 some (a0,a1,a2,a3,a4)
theorem Qak:OfF KM qS:=ofF 125
def qC:rF Vu:=fun D L (a0,a1,a2,a3,a4,a5,a6,a7,a8,a9)=>
 bif (!decide (a0=a5))then(some false)
 else(bif (!decide (a1=a6))then(some false)
 else(bif (!decide (a2=a7))then(some false)
 else(bif (!decide (a3=a8))then(some false)
 else(bif (!X1 a4 a9)then(some false)
 else(some true)))))
theorem Qa5:OfF Vu qC:=ofF 126
end
end Go.Proofs.YtameehmkoglkeaaDoor.M
