/- Plain forms of the functions that FnExactNodeText reaches, part 2. No conditions. -/
import Derived.Test.YtameehmkoglkeaaGreatDoorFnExactNodeTextTab
set_option linter.all false
namespace Go.Proofs.YtameehmkoglkeaaGreatDoor.M
open Go Go.Eng Go.Proofs
set_option linter.unusedVariables false
noncomputable section
def Qbg:rF zV:=fun D L (a0,a1,a2)=>
 (qc D (a0,a1,a2)).bind fun r1=>
 bif (!r1)then(some 0)
 else(some (wR (a1+(a2.length:Int))))
theorem Qis:OfF zV Qbg:=ofF 82
def jk:rL Kj:=fun D L (y0,y1,y2,y3,y4,y5)=>
 bif (decide (y2<y1))then(bif inb y2 y0.length then
 let e1:=(rd1 Qcs y0 y2);
 (XM D e1).bind fun r2=>
 bif (!r2)then(some (Sum.inl false))
 else(Kj L (y0,y1,(wR (y2+1)),y3,y4,y5))else none)
 else(some (Sum.inr (y3,y4,y5)))
theorem v8:OfL Kj jk:=ofL 83 0
def Qcm:rF qc:=fun D L (a0,a1,a2)=>
 (Kj L (a2,(a2.length:Int),0,a0,a1,a2)).bind fun z3=>
 Qr z3 (fun u4=>
 some u4)
 (fun z5=>
 (Qw D (z5.1,1,8)).bind fun r6=>
 bif r6 then(bif (decide ((z5.2.2.length:Int)<=z5.1))then((Qw D (z5.2.1,0,100000)).bind fun r7=>
 bif r7 then(some (decide ((wR (z5.2.1+(z5.2.2.length:Int)))<=100000)))
 else(some false))
 else(some false))
 else(some false))
theorem Qjn:OfF qc Qcm:=ofF 83
def jd:rL Kq:=fun D L (y0,y1,y2,y3,y4)=>
 bif (decide (y4<y3))then(bif inb y4 y2.length then
 (Qw D ((rd1 (0:Int) y2 y4),0,100000)).bind fun r1=>
 bif (!r1)then(some (Sum.inl false))
 else(Kq L (y0,y1,y2,y3,(wR (y4+1))))else none)
 else(some (Sum.inr (y0,y1)))
theorem vE:OfL Kq jd:=ofL 84 0
def QcD:rF xJ:=fun D L (a0,a1)=>
 (Kq L (a0,a1,a0,(a0.length:Int),0)).bind fun z2=>
 Qr z2 (fun u3=>
 some u3)
 (fun z4=>
 (Qw D (z4.2,1,5)).bind fun r5=>
 bif r5 then(some (decide ((z4.1.length:Int)=z4.2)))
 else(some false))
theorem Qjs:OfF xJ QcD:=ofF 84
def Kd:rL Xp:=fun D L (y0,y1,y2)=>
 bif (decide (y2<(y0.length:Int)))then(bif inb y2 y0.length then
 Xp L (y0,(mxI y1 (rd1 (0:Int) y0 y2)),(wR (y2+1)))else none)
 else(some y1)
theorem VT:OfL Xp Kd:=ofL 85 0
def JY:rF Zs:=fun D L a0=>
 bif (decide ((a0.length:Int)<1))then(none)
 else(bif inb 0 a0.length then
 (Xp L (a0,(rd1 (0:Int) a0 0),1)).bind fun z1=>
 some z1 else none)
theorem Qdq:OfF Zs JY:=ofF 85
def xq:rL Yl:=fun D L (y0,y1,y2,y3,y4)=>
 bif (decide (y4<y3))then(bif inb y4 y2.length then
 (Zm L (y0,y1,(rd1 ([]:List Int) y2 y4),y2,y3,y4,(rd1 ([]:List Int) y2 y4),((List.length (rd1 ([]:List Int) y2 y4)):Int),0)).bind fun z2=>
 Qr z2 (fun u3=>
 some (Sum.inl u3))
 (fun z4=>
 bif (!decide ((z4.2.2.1.length:Int)=5))then(some (Sum.inl false))
 else(Yl L (z4.1,z4.2.1,z4.2.2.2.1,z4.2.2.2.2.1,(wR (z4.2.2.2.2.2+1)))))else none)
 else(some (Sum.inr (y0,y1)))
theorem yx:OfL Yl xq:=ofL 86 0
def qF:rL Zm:=fun D L (y0,y1,y2,y3,y4,y5,y6,y7,y8)=>
 bif (decide (y8<y7))then(bif inb y8 y6.length then
 (Qw D ((rd1 (0:Int) y6 y8),0,1000)).bind fun r1=>
 bif (!r1)then(some (Sum.inl false))
 else(Zm L (y0,y1,y2,y3,y4,y5,y6,y7,(wR (y8+1))))else none)
 else(some (Sum.inr (y0,y1,y2,y3,y4,y5)))
theorem yn:OfL Zm qF:=ofL 86 2
def Qap:rF J1:=fun D L (a0,a1)=>
 (Yl L (a0,a1,a0,(a0.length:Int),0)).bind fun z5=>
 Qr z5 (fun u6=>
 some u6)
 (fun z7=>
 (Qw D (z7.2,1,5)).bind fun r8=>
 bif r8 then(some (decide ((z7.1.length:Int)=z7.2)))
 else(some false))
theorem Qhl:OfF J1 Qap:=ofF 86
def x7:rL YU:=fun D L (y0,y1,y2,y3,y4,y5,y6,y7,y8,y9,y10,y11,y12,y13,y14,y15,y16,y17,y18,y19,y20,y21)=>
 bif (decide (y2<y1))then(bif inb y2 y0.length then
 let e1:=(rd1 QbE y0 y2);
 (zQ D (y3,y4,y5,y6,y7,y8,y9,y10,y11,y12,y13,y14,y15,y16,y17,y18,y19,y20,y21,e1.1)).bind fun r2=>
 bif (!r2)then(some (Sum.inl false))
 else((Qw D (e1.2.1,0,100000)).bind fun r3=>
 bif (!r3)then(some (Sum.inl false))
 else((Qw D (e1.2.2.2,0,y18)).bind fun r4=>
 bif (!r4)then(some (Sum.inl false))
 else((Qa9 D (y3,y4,y5,y6,y7,y8,y9,y10,y11,y12,y13,y14,y15,y16,y17,y18,y19,y20,y21,e1.1,e1.2.2.1)).bind fun r5=>
 bif (!decide (r5=y2))then(some (Sum.inl false))
 else(YU L (y0,y1,(wR (y2+1)),y3,y4,y5,y6,y7,y8,y9,y10,y11,y12,y13,y14,y15,y16,y17,y18,y19,y20,y21)))))else none)
 else(some (Sum.inr (y3,y4,y5,y6,y7,y8,y9,y10,y11,y12,y13,y14,y15,y16,y17,y18,y19,y20,y21)))
theorem jr:OfL YU x7:=ofL 87 0
def Qbn:rF zJ:=fun D L (a0,a1,a2,a3,a4,a5,a6,a7,a8,a9,a10,a11,a12,a13,a14,a15,a16,a17,a18)=>
 (YU L (a14,(a14.length:Int),0,a0,a1,a2,a3,a4,a5,a6,a7,a8,a9,a10,a11,a12,a13,a14,a15,a16,a17,a18)).bind fun z6=>
 Qr z6 (fun u7=>
 some u7)
 (fun z8=>
 (Qw D (z8.2.2.2.2.2.2.2.2.2.2.2.2.2.1,1,4)).bind fun r9=>
 bif r9 then(some (decide ((z8.2.2.2.2.2.2.2.2.2.2.2.2.2.2.1.length:Int)<=z8.2.2.2.2.2.2.2.2.2.2.2.2.2.1)))
 else(some false))
theorem QiK:OfF zJ Qbn:=ofF 87
def J9:rL Yf:=fun D L (y0,y1,y2,y3,y4,y5,y6,y7,y8,y9,y10,y11,y12,y13,y14,y15,y16,y17,y18,y19,y20,y21)=>
 bif (decide (y2<y1))then(bif inb y2 y0.length then
 let e1:=(rd1 QbF y0 y2);
 (Qw D (e1.1,0,1000)).bind fun r2=>
 bif (!r2)then(some (Sum.inl false))
 else((Qw D (e1.2.1,0,100000)).bind fun r3=>
 bif (!r3)then(some (Sum.inl false))
 else((Qw D (e1.2.2,0,y20)).bind fun r4=>
 bif (!r4)then(some (Sum.inl false))
 else(Yf L (y0,y1,(wR (y2+1)),y3,y4,y5,y6,y7,y8,y9,y10,y11,y12,y13,y14,y15,y16,y17,y18,y19,y20,y21))))else none)
 else(some (Sum.inr (y3,y4,y5,y6,y7,y8,y9,y10,y11,y12,y13,y14,y15,y16,y17,y18,y19,y20,y21)))
theorem yO:OfL Yf J9:=ofL 88 0
def vt:rF qe:=fun D L (a0,a1,a2,a3,a4,a5,a6,a7,a8,a9,a10,a11,a12,a13,a14,a15,a16,a17,a18)=>
 (Yf L (a18,(a18.length:Int),0,a0,a1,a2,a3,a4,a5,a6,a7,a8,a9,a10,a11,a12,a13,a14,a15,a16,a17,a18)).bind fun z5=>
 Qr z5 (fun u6=>
 some u6)
 (fun z7=>
 some (decide ((z7.2.2.2.2.2.2.2.2.2.2.2.2.2.2.2.2.2.2.length:Int)=5)))
theorem QgU:OfF qe vt:=ofF 88
def vX:rF strconv_Itoa:=fun _ _=>Qgo
theorem Qgy:OfF strconv_Itoa vX:=ofF 89
def KP:rL XW:=fun D L (y0,y1,y2,y3)=>
 bif (decide (y2<y1))then(bif inb y2 y0.length then
 (QP D (rd1 (0:Int) y0 y2)).bind fun r1=>
 bif fits (y3.length+ [r1].length) 16 then
 XW L (y0,y1,(wR (y2+1)),(y3++[r1]))else none else none)
 else(some y3)
theorem V4:OfL XW KP:=ofL 90 0
def qM:rF Ki:=fun D L a0=>
 (XW L (a0,(a0.length:Int),0,[])).bind fun z2=>
 (strings_Join D (z2,(⟨#[44]⟩:ByteArray))).bind fun r3=>
 some r3
theorem QdL:OfF Ki qM:=ofF 90
def ym:rF VI:=fun D L (a0,a1,a2,a3,a4)=>
 bif (decide (a1=0))then((QP D a0).bind fun r1=>
 bif fits (ByteArray.size r1+ByteArray.size (⟨#[117]⟩:ByteArray)) 1 then
 (QP D a2).bind fun r2=>
 bif fits (ByteArray.size (r1++(⟨#[117]⟩:ByteArray))+ByteArray.size r2) 1 then
 bif fits (ByteArray.size ((r1++(⟨#[117]⟩:ByteArray))++r2)+ByteArray.size (⟨#[46]⟩:ByteArray)) 1 then
 (QP D a3).bind fun r3=>
 bif fits (ByteArray.size (((r1++(⟨#[117]⟩:ByteArray))++r2)++(⟨#[46]⟩:ByteArray))+ByteArray.size r3) 1 then
 bif fits (ByteArray.size ((((r1++(⟨#[117]⟩:ByteArray))++r2)++(⟨#[46]⟩:ByteArray))++r3)+ByteArray.size (⟨#[58]⟩:ByteArray)) 1 then
 bif fits (ByteArray.size (((((r1++(⟨#[117]⟩:ByteArray))++r2)++(⟨#[46]⟩:ByteArray))++r3)++(⟨#[58]⟩:ByteArray))+ByteArray.size a4) 1 then
 some ((((((r1++(⟨#[117]⟩:ByteArray))++r2)++(⟨#[46]⟩:ByteArray))++r3)++(⟨#[58]⟩:ByteArray))++a4)else none else none else none else none else none else none)
 else(bif (decide (a1=1))then((QP D a0).bind fun r4=>
 bif fits (ByteArray.size r4+ByteArray.size (⟨#[103]⟩:ByteArray)) 1 then
 (QP D a2).bind fun r5=>
 bif fits (ByteArray.size (r4++(⟨#[103]⟩:ByteArray))+ByteArray.size r5) 1 then
 bif fits (ByteArray.size ((r4++(⟨#[103]⟩:ByteArray))++r5)+ByteArray.size (⟨#[46]⟩:ByteArray)) 1 then
 (QP D a3).bind fun r6=>
 bif fits (ByteArray.size (((r4++(⟨#[103]⟩:ByteArray))++r5)++(⟨#[46]⟩:ByteArray))+ByteArray.size r6) 1 then
 bif fits (ByteArray.size ((((r4++(⟨#[103]⟩:ByteArray))++r5)++(⟨#[46]⟩:ByteArray))++r6)+ByteArray.size (⟨#[58]⟩:ByteArray)) 1 then
 bif fits (ByteArray.size (((((r4++(⟨#[103]⟩:ByteArray))++r5)++(⟨#[46]⟩:ByteArray))++r6)++(⟨#[58]⟩:ByteArray))+ByteArray.size a4) 1 then
 some ((((((r4++(⟨#[103]⟩:ByteArray))++r5)++(⟨#[46]⟩:ByteArray))++r6)++(⟨#[58]⟩:ByteArray))++a4)else none else none else none else none else none else none)
 else((QP D a0).bind fun r7=>
 bif fits (ByteArray.size r7+ByteArray.size (⟨#[63]⟩:ByteArray)) 1 then
 (QP D a2).bind fun r8=>
 bif fits (ByteArray.size (r7++(⟨#[63]⟩:ByteArray))+ByteArray.size r8) 1 then
 bif fits (ByteArray.size ((r7++(⟨#[63]⟩:ByteArray))++r8)+ByteArray.size (⟨#[46]⟩:ByteArray)) 1 then
 (QP D a3).bind fun r9=>
 bif fits (ByteArray.size (((r7++(⟨#[63]⟩:ByteArray))++r8)++(⟨#[46]⟩:ByteArray))+ByteArray.size r9) 1 then
 bif fits (ByteArray.size ((((r7++(⟨#[63]⟩:ByteArray))++r8)++(⟨#[46]⟩:ByteArray))++r9)+ByteArray.size (⟨#[58]⟩:ByteArray)) 1 then
 bif fits (ByteArray.size (((((r7++(⟨#[63]⟩:ByteArray))++r8)++(⟨#[46]⟩:ByteArray))++r9)++(⟨#[58]⟩:ByteArray))+ByteArray.size a4) 1 then
 some ((((((r7++(⟨#[63]⟩:ByteArray))++r8)++(⟨#[46]⟩:ByteArray))++r9)++(⟨#[58]⟩:ByteArray))++a4)else none else none else none else none else none else none))
theorem Qe4:OfF VI ym:=ofF 91
def vn:rF strings_Join:=fun _ _=>Qgk
theorem Qg3:OfF strings_Join vn:=ofF 92
def qA:rL Yg:=fun D L (y0,y1,y2)=>
 bif (decide (y2<(y0.length:Int)))then(bif inb y2 y0.length then
 let e1:=(rd1 Zi y0 y2);
 bif inb y2 y1.length then
 let e2:=(rd1 Zi y1 y2);
 (zF D (e1.1,e1.2.1,e1.2.2.1,e1.2.2.2.1,e1.2.2.2.2.1,e1.2.2.2.2.2,e2)).bind fun r3=>
 bif (!r3)then(some (Sum.inl false))
 else(Yg L (y0,y1,(wR (y2+1))))else none else none)
 else(some (Sum.inr ()))
theorem yF:OfL Yg qA:=ofL 93 0
def vo:rF xl:=fun D L (a0,a1)=>
 bif (!decide ((a0.length:Int)=(a1.length:Int)))then(some false)
 else((Yg L (a0,a1,0)).bind fun z4=>
 Qr z4 (fun u5=>
 some u5)
 (fun z6=>
 some true))
theorem Qf7:OfF xl vo:=ofF 93
def Jy:rL ZR:=fun D L (y0,y1,y2)=>
 bif (decide (y2<(y0.length:Int)))then(bif inb y2 y0.length then
 let e1:=(rd1 Xx y0 y2);
 bif inb y2 y1.length then
 let e2:=(rd1 Xx y1 y2);
 (xC D (e1.1,e1.2,e2)).bind fun r3=>
 bif (!r3)then(some (Sum.inl false))
 else(ZR L (y0,y1,(wR (y2+1))))else none else none)
 else(some (Sum.inr ()))
theorem xQ:OfL ZR Jy:=ofL 94 0
def jB:rF Jk:=fun D L (a0,a1)=>
 bif (!decide ((a0.length:Int)=(a1.length:Int)))then(some false)
 else((ZR L (a0,a1,0)).bind fun z4=>
 Qr z4 (fun u5=>
 some u5)
 (fun z6=>
 some true))
theorem QfN:OfF Jk jB:=ofF 94
def JC:rL ZQ:=fun D L (y0,y1,y2)=>
 bif (decide (y2<(y0.length:Int)))then(bif inb y2 y0.length then
 let e1:=(rd1 Qcs y0 y2);
 bif inb y2 y1.length then
 let e2:=(rd1 Qcs y1 y2);
 (Vm D (e1.1,e1.2,e2)).bind fun r3=>
 bif (!r3)then(some (Sum.inl false))
 else(ZQ L (y0,y1,(wR (y2+1))))else none else none)
 else(some (Sum.inr ()))
theorem xO:OfL ZQ JC:=ofL 95 0
def jI:rF Jn:=fun D L (a0,a1)=>
 bif (!decide ((a0.length:Int)=(a1.length:Int)))then(some false)
 else((ZQ L (a0,a1,0)).bind fun z4=>
 Qr z4 (fun u5=>
 some u5)
 (fun z6=>
 some true))
theorem QfC:OfF Jn jI:=ofF 95
def Qba:rF zN:=fun D L (a0,a1,a2,a3,a4,a5,a6,a7)=>
 bif (!decide (a0=a4))then(some false)
 else(bif (!decide (a1=a5))then(some false)
 else(bif (!(a2==a6))then(some false)
 else(bif (!decide (a3=a7))then(some false)
 else(some true))))
theorem Qig:OfF zN Qba:=ofF 96
def QbJ:rF zW:=fun D L (a0,a1,a2,a3,a4,a5)=>
 bif (!decide (a0=a3))then(some false)
 else(bif (!decide (a1=a4))then(some false)
 else(bif (!decide (a2=a5))then(some false)
 else(some true)))
theorem Qii:OfF zW QbJ:=ofF 97
def Qbe:rF zO:=fun D L (a0,a1,a2,a3,a4,a5,a6)=>
 (J0 D (a1,a2,a3,a4,a5,a6)).bind fun r1=>
 bif (decide (r1<0))then(some (-1))
 else(some r1)
theorem Qim:OfF zO Qbe:=ofF 118
def Qa2:rF Kv:=fun D L a0=>
 (QC D (a0,0,4)).bind fun r1=>
 some r1
theorem Qh5:OfF Kv Qa2:=ofF 119
def vp:rF YJ:=fun D L (a0,a1,a2,a3,a4)=>
 (QC D (a0,1,1000)).bind fun r1=>
 bif r1 then((QC D (a1,0,1)).bind fun r2=>
 bif r2 then((QC D (a2,0,100000)).bind fun r3=>
 bif r3 then((QC D (a3,0,1000)).bind fun r4=>
 bif r4 then(some (decide (((ByteArray.size a4):Int)<=8)))
 else(some false))
 else(some false))
 else(some false))
 else(some false)
theorem Qgu:OfF YJ vp:=ofF 120
def xx:rL Ym:=fun D L (y0,y1,y2,y3)=>
 bif (decide (y1<(y3.length:Int)))then(bif inb y1 y3.length then
 let e1:=(rd1 Xx y3 y1);
 bif (decide (e1.1=y0))then(bif inb y1 y3.length then
 let e2:=(rd1 Xx y3 y1);
 some (Sum.inl e2.2)else none)
 else(Ym L (y0,(wR (y1+1)),y2,y3))else none)
 else(some (Sum.inr ()))
theorem yl:OfL Ym xx:=ofL 121 0
def Qax:rF Vf:=fun D L (a0,a1,a2)=>
 (Ym L (a2,0,a0,a1)).bind fun z3=>
 Qr z3 (fun u4=>
 some u4)
 (fun z5=>
 some 0)
theorem Qgm:OfF Vf Qax:=ofF 121
def VB:rL YW:=fun D L (y0,y1,y2)=>
 bif (decide (y2<(y0.length:Int)))then(bif inb y2 y0.length then
 bif inb y2 y1.length then
 bif (!decide ((rd1 (0:Int) y0 y2)=(rd1 (0:Int) y1 y2)))then(some (Sum.inl false))
 else(YW L (y0,y1,(wR (y2+1))))else none else none)
 else(some (Sum.inr ()))
theorem V1:OfL YW VB:=ofL 122 0
def xb:rF zM:=fun D L (a0,a1)=>
 bif (!decide ((a0.length:Int)=(a1.length:Int)))then(some false)
 else((YW L (a0,a1,0)).bind fun z1=>
 Qr z1 (fun u2=>
 some u2)
 (fun z3=>
 some true))
theorem Qif:OfF zM xb:=ofF 122
def QaF:rF xk:=fun D L (a0,a1,a2)=>
 (ZM D (a0,a1)).bind fun r1=>
 bif (!r1)then(some 0)
 else((QC D (a2,0,3)).bind fun r2=>
 bif (!r2)then(some 0)
 else((qp D (a0,a1,[a2])).bind fun r3=>
 (J5 D r3).bind fun r4=>
 (xX D r4).bind fun r5=>
 bif decide ((1024:Int)≠0)then
 some (Int.tmod r5 1024)else none))
theorem QgE:OfF xk QaF:=ofF 123
def zm:rL YV:=fun D L (y0,y1,y2)=>
 bif (decide (y1<(y0.length:Int)))then(bif inb y1 y0.length then
 (Xy D (rd1 (0:Int) y0 y1)).bind fun r1=>
 bif fits (y2.length+r1.length) 1 then
 YV L (y0,(wR (y1+1)),(y2++r1))else none else none)
 else(some y2)
theorem jx:OfL YV zm:=ofL 124 0
def Qbp:rF zT:=fun D L a0=>
 (YV L (a0,0,[])).bind fun z2=>
 (xX D z2).bind fun r3=>
 bif decide ((1024:Int)≠0)then
 some (Int.tmod r3 1024)else none
theorem QhI:OfF zT Qbp:=ofF 124
def Qbf:rF zA:=fun D L (a0,a1,a2,a3,a4,a5)=>
 (qB D (a1,a2,a3,a4,a5)).bind fun r1=>
 some (a0,r1)
theorem Qh6:OfF zA Qbf:=ofF 125
def Qat:rF qw:=fun D L (a0,a1)=>
 some (a0,a1)
theorem QgY:OfF qw Qat:=ofF 126
def QbG:rF Kw:=fun D L a0=>
 (Qw D (a0,0,4)).bind fun r1=>
 some r1
theorem QhL:OfF Kw QbG:=ofF 127
def Qaq:rF Vq:=fun D L (a0,a1,a2,a3,a4)=>
 (Qw D (a0,1,1000)).bind fun r1=>
 bif r1 then((Qw D (a1,0,1)).bind fun r2=>
 bif r2 then((Qw D (a2,0,100000)).bind fun r3=>
 bif r3 then((Qw D (a3,0,1000)).bind fun r4=>
 bif r4 then(some (decide (((ByteArray.size a4):Int)<=8)))
 else(some false))
 else(some false))
 else(some false))
 else(some false)
theorem Qgl:OfF Vq Qaq:=ofF 128
def qq:rL Yq:=fun D L (y0,y1,y2,y3)=>
 bif (decide (y3<y2))then(bif inb y3 y1.length then
 let e1:=(rd1 Xx y1 y3);
 bif (decide (e1.1=y0))then(some (Sum.inl e1.2))
 else(Yq L (y0,y1,y2,(wR (y3+1))))else none)
 else(some (Sum.inr ()))
theorem yp:OfL Yq qq:=ofL 129 0
def vT:rF qf:=fun D L (a0,a1,a2)=>
 (Yq L (a2,a1,(a1.length:Int),0)).bind fun z2=>
 Qr z2 (fun u3=>
 some u3)
 (fun z4=>
 some 0)
theorem Qgv:OfF qf vT:=ofF 129
def X2:rL Xu:=fun D L (y0,y1,y2,y3)=>
 bif (decide (y3<y2))then(bif inb y3 y0.length then
 bif inb y3 y1.length then
 bif (!decide ((rd1 (0:Int) y0 y3)=(rd1 (0:Int) y1 y3)))then(some (Sum.inl false))
 else(Xu L (y0,y1,y2,(wR (y3+1))))else none else none)
 else(some (Sum.inr ()))
theorem Zw:OfL Xu X2:=ofL 130 0
def ZZ:rF ZV:=fun D L (a0,a1)=>
 bif (!decide ((a0.length:Int)=(a1.length:Int)))then(some false)
 else((Xu L (a0,a1,(a0.length:Int),0)).bind fun z1=>
 Qr z1 (fun u2=>
 some u2)
 (fun z3=>
 some true))
theorem QbW:OfF ZV ZZ:=ofF 130
def vP:rF qu:=fun D L (a0,a1,a2)=>
 (XM D (a0,a1)).bind fun r1=>
 bif (!r1)then(some 0)
 else((Qw D (a2,0,3)).bind fun r2=>
 bif (!r2)then(some 0)
 else((j6 D (a0,a1,[a2])).bind fun r3=>
 (K2 D r3).bind fun r4=>
 (xY D r4).bind fun r5=>
 bif decide ((1024:Int)≠0)then
 some (Int.tmod r5 1024)else none))
theorem Qg5:OfF qu vP:=ofF 131
def xV:rL YT:=fun D L (y0,y1,y2,y3)=>
 bif (decide (y2<y1))then(bif inb y2 y0.length then
 (Q0 D (rd1 (0:Int) y0 y2)).bind fun r1=>
 (ZA D [y3,r1]).bind fun r2=>
 YT L (y0,y1,(wR (y2+1)),r2)else none)
 else(some y3)
theorem jK:OfL YT xV:=ofL 132 0
def Qbc:rF zu:=fun D L a0=>
 (YT L (a0,(a0.length:Int),0,[])).bind fun z3=>
 (xY D z3).bind fun r4=>
 bif decide ((1024:Int)≠0)then
 some (Int.tmod r4 1024)else none
theorem QiH:OfF zu Qbc:=ofF 132
def Qbi:rF zQ:=fun D L (a0,a1,a2,a3,a4,a5,a6,a7,a8,a9,a10,a11,a12,a13,a14,a15,a16,a17,a18,a19)=>
 (Qw D (a19,0,(wR (a1 - 1)))).bind fun r1=>
 bif r1 then(some (!decide (a19=a0)))
 else(some false)
theorem QiN:OfF zQ Qbi:=ofF 133
def vR:rL Y0:=fun D L (y0,y1,y2,y3,y4)=>
 bif (decide (y4<y3))then(bif inb y4 y2.length then
 let e1:=(rd1 QbE y2 y4);
 bif (decide (e1.1=y0))then(bif (e1.2.2.1==y1)then(some (Sum.inl y4))
 else(Y0 L (y0,y1,y2,y3,(wR (y4+1)))))
 else(Y0 L (y0,y1,y2,y3,(wR (y4+1))))else none)
 else(some (Sum.inr ()))
theorem QbL:OfL Y0 vR:=ofL 134 0
def QdG:rF Qa9:=fun D L (a0,a1,a2,a3,a4,a5,a6,a7,a8,a9,a10,a11,a12,a13,a14,a15,a16,a17,a18,a19,a20)=>
 (Y0 L (a19,a20,a14,(a14.length:Int),0)).bind fun z2=>
 Qr z2 (fun u3=>
 some u3)
 (fun z4=>
 some (-1))
theorem QkV:OfF Qa9 QdG:=ofF 134
def Qbs:rF zF:=fun D L (a0,a1,a2,a3,a4,a5,a6,a7,a8,a9,a10,a11)=>
 bif (!decide (a0=a6))then(some false)
 else((xz D (a1,a2,a3,a4,a5,a7,a8,a9,a10,a11)).bind fun r1=>
 bif (!r1)then(some false)
 else(some true))
theorem Qix:OfF zF Qbs:=ofF 139
def Qay:rF xC:=fun D L (a0,a1,a2,a3)=>
 bif (!decide (a0=a2))then(some false)
 else(bif (!decide (a1=a3))then(some false)
 else(some true))
theorem QhC:OfF xC Qay:=ofF 140
def QbS:rL V5:=fun D L (y0,y1,y2)=>
 bif (decide (y2<(y0.length:Int)))then(bif inb y2 y0.length then
 (Yt L (y0,(bits .xor .i64 y1 (wR (rd1 (0:Int) y0 y2))),y2,0)).bind fun z1=>
 V5 L (z1.1,z1.2.1,(wR (z1.2.2+1)))else none)
 else(some y1)
theorem Qcj:OfL V5 QbS:=ofL 142 0
def QbP:rL Yt:=fun D L (y0,y1,y2,y3)=>
 bif (decide (y3<8))then(bif decide ((2:Int)≠0)then
 bif decide ((2:Int)≠0)then
 bif (decide ((Int.tmod y1 2)=1))then(Yt L (y0,(bits .xor .i64 (wR (Int.tdiv y1 2)) 3988292384),y2,(wR (y3+1))))
 else(Yt L (y0,(wR (Int.tdiv y1 2)),y2,(wR (y3+1))))else none else none)
 else(some (y0,y1,y2))
theorem Qcp:OfL Yt QbP:=ofL 142 2
def Qd3:rF xX:=fun D L a0=>
 (V5 L (a0,4294967295,0)).bind fun z2=>
 some (bits .xor .i64 z2 4294967295)
theorem QlB:OfF xX Qd3:=ofF 142
def qm:rL Ze:=fun D L (y0,y1,y2,y3)=>
 bif (decide (y0<(y1.length:Int)))then(bif inb y0 y1.length then
 let e2:=(rd1 Zi y1 y0);
 bif inb y0 y1.length then
 let e3:=(rd1 Zi y1 y0);
 (Za L (y0,0,y1,y2,y3,e2.2.1,e2.2.2.1,e2.2.2.2.1,e2.2.2.2.2.1,e2.2.2.2.2.2,[e3.1,e2.2.1,e2.2.2.1,e2.2.2.2.1,e2.2.2.2.2.1])).bind fun z5=>
 (qY D z5.2.2.2.2.2.2.2.2).bind fun r6=>
 bif fits (z5.2.2.2.1.length+r6.length) 1 then
 Ze L ((wR (z5.1+1)),z5.2.1,z5.2.2.1,(z5.2.2.2.1++r6))else none else none else none)
 else(some (y1,y2,y3))
theorem yU:OfL Ze qm:=ofL 145 0
def qL:rL Za:=fun D L (y0,y1,y2,y3,y4,y5,y6,y7,y8,y9,y10)=>
 bif (decide (y1<(y10.length:Int)))then(bif inb y1 y10.length then
 (Xy D (rd1 (0:Int) y10 y1)).bind fun r4=>
 bif fits (y4.length+r4.length) 1 then
 Za L (y0,(wR (y1+1)),y2,y3,(y4++r4),y5,y6,y7,y8,y9,y10)else none else none)
 else(some (y0,y2,y3,y4,y5,y6,y7,y8,y9))
theorem yz:OfL Za qL:=ofL 145 2
def xF:rL Zl:=fun D L (y0,y1,y2,y3)=>
 bif (decide (y0<(y2.length:Int)))then(bif inb y0 y2.length then
 let e9:=(rd1 Xx y2 y0);
 (Xy D e9.1).bind fun r10=>
 bif fits (y3.length+r10.length) 1 then
 bif inb y0 y2.length then
 let e11:=(rd1 Xx y2 y0);
 (Xy D e11.2).bind fun r12=>
 bif fits (List.length (y3++r10)+r12.length) 1 then
 Zl L ((wR (y0+1)),y1,y2,((y3++r10)++r12))else none else none else none else none)
 else(some y3)
theorem yV:OfL Zl xF:=ofL 145 4
def QaE:rF J5:=fun D L (a0,a1)=>
 (Xy D (a0.length:Int)).bind fun r1=>
 (Ze L (0,a0,a1,r1)).bind fun z7=>
 (Xy D (z7.2.1.length:Int)).bind fun r8=>
 bif fits (z7.2.2.length+r8.length) 1 then
 (Zl L (0,z7.1,z7.2.1,(z7.2.2++r8))).bind fun z13=>
 some z13 else none
theorem Qhv:OfF J5 QaE:=ofF 145
end
end Go.Proofs.YtameehmkoglkeaaGreatDoor.M
