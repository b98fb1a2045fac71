/- Plain forms of the functions that FnExactWorldText reaches, part 3. No conditions. -/
import Derived.Test.YtameehmkoglkeaaGreatDoorFnExactWorldTextTab
set_option linter.all false
namespace Go.Proofs.YtameehmkoglkeaaGreatDoor.M
open Go Go.Eng Go.Proofs
set_option linter.unusedVariables false
noncomputable section
def QbE:rF VQ:=fun D L (a0,a1,a2,a3,a4)=>
 bif (decide (a1=0))then(bif (decide (a1=1))then((QK D a0).bind fun r1=>
 bif fits (ByteArray.size r1+ByteArray.size (⟨#[103]⟩:ByteArray)) 1 then
 (QK D a2).bind fun r2=>
 bif fits (ByteArray.size (r1++(⟨#[103]⟩:ByteArray))+ByteArray.size r2) 1 then
 bif fits (ByteArray.size ((r1++(⟨#[103]⟩:ByteArray))++r2)+ByteArray.size (⟨#[46]⟩:ByteArray)) 1 then
 (QK D a3).bind fun r3=>
 bif fits (ByteArray.size (((r1++(⟨#[103]⟩:ByteArray))++r2)++(⟨#[46]⟩:ByteArray))+ByteArray.size r3) 1 then
 bif fits (ByteArray.size ((((r1++(⟨#[103]⟩:ByteArray))++r2)++(⟨#[46]⟩:ByteArray))++r3)+ByteArray.size (⟨#[58]⟩:ByteArray)) 1 then
 bif fits (ByteArray.size (((((r1++(⟨#[103]⟩:ByteArray))++r2)++(⟨#[46]⟩:ByteArray))++r3)++(⟨#[58]⟩:ByteArray))+ByteArray.size a4) 1 then
 some ((((((r1++(⟨#[103]⟩:ByteArray))++r2)++(⟨#[46]⟩:ByteArray))++r3)++(⟨#[58]⟩:ByteArray))++a4)else none else none else none else none else none else none)
 else((QK D a0).bind fun r4=>
 bif fits (ByteArray.size r4+ByteArray.size (⟨#[117]⟩:ByteArray)) 1 then
 (QK D a2).bind fun r5=>
 bif fits (ByteArray.size (r4++(⟨#[117]⟩:ByteArray))+ByteArray.size r5) 1 then
 bif fits (ByteArray.size ((r4++(⟨#[117]⟩:ByteArray))++r5)+ByteArray.size (⟨#[46]⟩:ByteArray)) 1 then
 (QK D a3).bind fun r6=>
 bif fits (ByteArray.size (((r4++(⟨#[117]⟩:ByteArray))++r5)++(⟨#[46]⟩:ByteArray))+ByteArray.size r6) 1 then
 bif fits (ByteArray.size ((((r4++(⟨#[117]⟩:ByteArray))++r5)++(⟨#[46]⟩:ByteArray))++r6)+ByteArray.size (⟨#[58]⟩:ByteArray)) 1 then
 bif fits (ByteArray.size (((((r4++(⟨#[117]⟩:ByteArray))++r5)++(⟨#[46]⟩:ByteArray))++r6)++(⟨#[58]⟩:ByteArray))+ByteArray.size a4) 1 then
 some ((((((r4++(⟨#[117]⟩:ByteArray))++r5)++(⟨#[46]⟩:ByteArray))++r6)++(⟨#[58]⟩:ByteArray))++a4)else none else none else none else none else none else none))
 else(bif (decide (a1=1))then((QK D a0).bind fun r7=>
 bif fits (ByteArray.size r7+ByteArray.size (⟨#[103]⟩:ByteArray)) 1 then
 (QK D a2).bind fun r8=>
 bif fits (ByteArray.size (r7++(⟨#[103]⟩:ByteArray))+ByteArray.size r8) 1 then
 bif fits (ByteArray.size ((r7++(⟨#[103]⟩:ByteArray))++r8)+ByteArray.size (⟨#[46]⟩:ByteArray)) 1 then
 (QK D a3).bind fun r9=>
 bif fits (ByteArray.size (((r7++(⟨#[103]⟩:ByteArray))++r8)++(⟨#[46]⟩:ByteArray))+ByteArray.size r9) 1 then
 bif fits (ByteArray.size ((((r7++(⟨#[103]⟩:ByteArray))++r8)++(⟨#[46]⟩:ByteArray))++r9)+ByteArray.size (⟨#[58]⟩:ByteArray)) 1 then
 bif fits (ByteArray.size (((((r7++(⟨#[103]⟩:ByteArray))++r8)++(⟨#[46]⟩:ByteArray))++r9)++(⟨#[58]⟩:ByteArray))+ByteArray.size a4) 1 then
 some ((((((r7++(⟨#[103]⟩:ByteArray))++r8)++(⟨#[46]⟩:ByteArray))++r9)++(⟨#[58]⟩:ByteArray))++a4)else none else none else none else none else none else none)
 else((QK D a0).bind fun r10=>
 bif fits (ByteArray.size r10+ByteArray.size (⟨#[63]⟩:ByteArray)) 1 then
 (QK D a2).bind fun r11=>
 bif fits (ByteArray.size (r10++(⟨#[63]⟩:ByteArray))+ByteArray.size r11) 1 then
 bif fits (ByteArray.size ((r10++(⟨#[63]⟩:ByteArray))++r11)+ByteArray.size (⟨#[46]⟩:ByteArray)) 1 then
 (QK D a3).bind fun r12=>
 bif fits (ByteArray.size (((r10++(⟨#[63]⟩:ByteArray))++r11)++(⟨#[46]⟩:ByteArray))+ByteArray.size r12) 1 then
 bif fits (ByteArray.size ((((r10++(⟨#[63]⟩:ByteArray))++r11)++(⟨#[46]⟩:ByteArray))++r12)+ByteArray.size (⟨#[58]⟩:ByteArray)) 1 then
 bif fits (ByteArray.size (((((r10++(⟨#[63]⟩:ByteArray))++r11)++(⟨#[46]⟩:ByteArray))++r12)++(⟨#[58]⟩:ByteArray))+ByteArray.size a4) 1 then
 some ((((((r10++(⟨#[63]⟩:ByteArray))++r11)++(⟨#[46]⟩:ByteArray))++r12)++(⟨#[58]⟩:ByteArray))++a4)else none else none else none else none else none else none))
theorem QkN:OfF VQ QbE:=ofF 72
def vo:rL K2:=fun D L (y0,y1,y2)=>
 bif (decide (y1<(y0.length:Int)))then(bif inb y1 y0.length then
 let e1:=(rd1 Ya y0 y1);
 (Qa2 D e1).bind fun r2=>
 bif inb y1 y2.length then
 let l3:=List.set y2 (Int.toNat y1) r2;
 K2 L (y0,(wR (y1+1)),l3)else none else none)
 else(some y2)
theorem QbP:OfL K2 vo:=ofL 73 0
def Qet:rF jK:=fun D L a0=>
 bif (decide ((0:Int)<=(a0.length:Int)/\((a0.length:Int):Int)=(a0.length:Int))&&fits (Int.toNat (a0.length:Int)) 56)then
 (K2 L (a0,0,(List.replicate (Int.toNat (a0.length:Int)) (0,0,0,0,0,ByteArray.empty)))).bind fun z4=>
 some z4 else none
theorem Ql7:OfF jK Qet:=ofF 73
def zH:rL Y0:=fun D L (y0,y1,y2)=>
 bif (decide (y1<(y0.length:Int)))then(bif inb y1 y0.length then
 let e1:=(rd1 Xk y0 y1);
 (vq D e1).bind fun r2=>
 bif inb y1 y2.length then
 let l3:=List.set y2 (Int.toNat y1) r2;
 Y0 L (y0,(wR (y1+1)),l3)else none else none)
 else(some y2)
theorem Qal:OfL Y0 zH:=ofL 74 0
def Qdf:rF zf:=fun D L a0=>
 bif (decide ((0:Int)<=(a0.length:Int)/\((a0.length:Int):Int)=(a0.length:Int))&&fits (Int.toNat (a0.length:Int)) 16)then
 (Y0 L (a0,0,(List.replicate (Int.toNat (a0.length:Int)) (0,0)))).bind fun z4=>
 some z4 else none
theorem QlW:OfF zf Qdf:=ofF 74
def zA:rL Y1:=fun D L (y0,y1,y2)=>
 bif (decide (y1<(y0.length:Int)))then(bif inb y1 y0.length then
 let e1:=(rd1 Qhj y0 y1);
 (VA D e1).bind fun r2=>
 bif inb y1 y2.length then
 let l3:=List.set y2 (Int.toNat y1) r2;
 Y1 L (y0,(wR (y1+1)),l3)else none else none)
 else(some y2)
theorem Qaf:OfL Y1 zA:=ofL 75 0
def Qc5:rF ze:=fun D L a0=>
 bif (decide ((0:Int)<=(a0.length:Int)/\((a0.length:Int):Int)=(a0.length:Int))&&fits (Int.toNat (a0.length:Int)) 48)then
 (Y1 L (a0,0,(List.replicate (Int.toNat (a0.length:Int)) ([],[])))).bind fun z4=>
 some z4 else none
theorem Qlt:OfF ze Qc5:=ofF 75
def Qgy:rF QaR:=fun D L (a0,a1,a2,a3)=>
 some (a0,a1,a2,a3)
theorem QpG:OfF QaR Qgy:=ofF 76
def QgR:rF Qa3:=fun D L (a0,a1,a2)=>
 some (a0,a1,a2)
theorem Qpk:OfF Qa3 QgR:=ofF 77
def QgY:rF Qt:=fun D L (a0,a1,a2)=>
 bif (decide (a1<=a0))then(some (decide (a0<=a2)))
 else(some false)
theorem QpD:OfF Qt QgY:=ofF 78
def vA:rL Ym:=fun D L (y0,y1,y2,y3,y4)=>
 bif (decide (y2<y1))then(bif inb y2 y0.length then
 let e1:=(rd1 Xk y0 y2);
 (ZY D e1.1).bind fun r2=>
 bif (!r2)then(some (Sum.inl false))
 else((Qt D (e1.2,1,1000)).bind fun r3=>
 bif (!r3)then(some (Sum.inl false))
 else(bif (decide (0<y2))then(bif inb (wR (y2 - 1)) y4.length then
 let e4:=(rd1 Xk y4 (wR (y2 - 1)));
 bif (decide (e1.1<=e4.1))then(some (Sum.inl false))
 else(Ym L (y0,y1,(wR (y2+1)),y3,y4))else none)
 else(Ym L (y0,y1,(wR (y2+1)),y3,y4))))else none)
 else(some (Sum.inr (y3,y4)))
theorem QbO:OfL Ym vA:=ofL 79 0
def jd:rL Z6:=fun D L (y0,y1,y2,y3,y4)=>
 bif (decide (y2<y1))then(bif inb y2 y0.length then
 let e8:=(rd1 Ya y0 y2);
 (ZY D e8.1).bind fun r9=>
 bif (!r9)then(some (Sum.inl false))
 else((qu D e8.2).bind fun r10=>
 bif (!r10)then(some (Sum.inl false))
 else((jD D (y3,y4,e8.1)).bind fun r11=>
 bif (decide (e8.2.1<=r11))then(some (Sum.inl false))
 else(bif (decide (0<y2))then(bif inb (wR (y2 - 1)) y3.length then
 let e12:=(rd1 Ya y3 (wR (y2 - 1)));
 bif (decide (e8.1<=e12.1))then(some (Sum.inl false))
 else(Z6 L (y0,y1,(wR (y2+1)),y3,y4))else none)
 else(Z6 L (y0,y1,(wR (y2+1)),y3,y4)))))else none)
 else(some (Sum.inr ()))
theorem Qcf:OfL Z6 jd:=ofL 79 2
def QfL:rF XK:=fun D L (a0,a1)=>
 (Ym L (a1,(a1.length:Int),0,a0,a1)).bind fun z5=>
 Qo z5 (fun u6=>
 some u6)
 (fun z7=>
 (Z6 L (z7.1,(z7.1.length:Int),0,z7)).bind fun z13=>
 Qo z13 (fun u14=>
 some u14)
 (fun z15=>
 some true))
theorem QmU:OfF XK QfL:=ofF 79
def Qc1:rF zj:=fun D L (a0,a1,a2,a3)=>
 (Y7 D (a0,a2)).bind fun r1=>
 bif r1 then(some (decide (a1=a3)))
 else(some false)
theorem Qly:OfF zj Qc1:=ofF 80
def Qaw:rL YS:=fun D L (y0,y1,y2,y3,y4)=>
 bif (decide (y0<4))then((yJ D (y1,y2,y0)).bind fun r2=>
 bif fits (y3.length+ [r2].length) 8 then
 YS L ((wR (y0+1)),y1,y2,(y3++[r2]),y4)else none)
 else(some (y3,y4))
theorem Qc9:OfL YS Qaw:=ofL 81 0
def QgH:rF Qa9:=fun D L (a0,a1)=>
 (XK D (a0,a1)).bind fun r1=>
 bif (!r1)then(some ([],0))
 else((YS L (0,a0,a1,[],0)).bind fun z3=>
 (Qbp D z3.1).bind fun r4=>
 some (z3.1,r4))
theorem QoM:OfF Qa9 QgH:=ofF 81
def Qgv:rF QaY:=fun D L (a0,a1,a2)=>
 (jr D (a0,a1,a2)).bind fun r1=>
 bif (!r1)then(some 0)
 else(some (wR (a1+(a2.length:Int))))
theorem QoB:OfF QaY Qgv:=ofF 82
def QcW:rL Jy:=fun D L (y0,y1,y2,y3,y4,y5)=>
 bif (decide (y2<y1))then(bif inb y2 y0.length then
 let e1:=(rd1 Qhj y0 y2);
 (XK D e1).bind fun r2=>
 bif (!r2)then(some (Sum.inl false))
 else(Jy L (y0,y1,(wR (y2+1)),y3,y4,y5))else none)
 else(some (Sum.inr (y3,y4,y5)))
theorem Qff:OfL Jy QcW:=ofL 83 0
def Qh1:rF jr:=fun D L (a0,a1,a2)=>
 (Jy L (a2,(a2.length:Int),0,a0,a1,a2)).bind fun z3=>
 Qo z3 (fun u4=>
 some u4)
 (fun z5=>
 (Qt D (z5.1,1,8)).bind fun r6=>
 bif r6 then(bif (decide ((z5.2.2.length:Int)<=z5.1))then((Qt D (z5.2.1,0,100000)).bind fun r7=>
 bif r7 then(some (decide ((wR (z5.2.1+(z5.2.2.length:Int)))<=100000)))
 else(some false))
 else(some false))
 else(some false))
theorem QqD:OfF jr Qh1:=ofF 83
def QcP:rL Jp:=fun D L (y0,y1,y2,y3,y4)=>
 bif (decide (y4<y3))then(bif inb y4 y2.length then
 (Qt D ((rd1 (0:Int) y2 y4),0,100000)).bind fun r1=>
 bif (!r1)then(some (Sum.inl false))
 else(Jp L (y0,y1,y2,y3,(wR (y4+1))))else none)
 else(some (Sum.inr (y0,y1)))
theorem Qd7:OfL Jp QcP:=ofL 84 0
def Qib:rF yA:=fun D L (a0,a1)=>
 (Jp L (a0,a1,a0,(a0.length:Int),0)).bind fun z2=>
 Qo z2 (fun u3=>
 some u3)
 (fun z4=>
 (Qt D (z4.2,1,5)).bind fun r5=>
 bif r5 then(some (decide ((z4.1.length:Int)=z4.2)))
 else(some false))
theorem QqN:OfF yA Qib:=ofF 84
def Je:rL XY:=fun D L (y0,y1,y2)=>
 bif (decide (y2<(y0.length:Int)))then(bif inb y2 y0.length then
 XY L (y0,(mxI y1 (rd1 (0:Int) y0 y2)),(wR (y2+1)))else none)
 else(some y1)
theorem xz:OfL XY Je:=ofL 85 0
def yi:rF Yx:=fun D L a0=>
 bif (decide ((a0.length:Int)<1))then(none)
 else(bif inb 0 a0.length then
 (XY L (a0,(rd1 (0:Int) a0 0),1)).bind fun z1=>
 some z1 else none)
theorem QiP:OfF Yx yi:=ofF 85
def vM:rL K6:=fun D L (y0,y1,y2,y3,y4)=>
 bif (decide (y4<y3))then(bif inb y4 y2.length then
 (Yp L (y0,y1,(rd1 ([]:List Int) y2 y4),y2,y3,y4,(rd1 ([]:List Int) y2 y4),((List.length (rd1 ([]:List Int) y2 y4)):Int),0)).bind fun z2=>
 Qo z2 (fun u3=>
 some (Sum.inl u3))
 (fun z4=>
 bif (!decide ((z4.2.2.1.length:Int)=5))then(some (Sum.inl false))
 else(K6 L (z4.1,z4.2.1,z4.2.2.2.1,z4.2.2.2.2.1,(wR (z4.2.2.2.2.2+1)))))else none)
 else(some (Sum.inr (y0,y1)))
theorem QbV:OfL K6 vM:=ofL 86 0
def jR:rL Yp:=fun D L (y0,y1,y2,y3,y4,y5,y6,y7,y8)=>
 bif (decide (y8<y7))then(bif inb y8 y6.length then
 (Qt D ((rd1 (0:Int) y6 y8),0,1000)).bind fun r1=>
 bif (!r1)then(some (Sum.inl false))
 else(Yp L (y0,y1,y2,y3,y4,y5,y6,y7,(wR (y8+1))))else none)
 else(some (Sum.inr (y0,y1,y2,y3,y4,y5)))
theorem QbL:OfL Yp jR:=ofL 86 2
def Qen:rF jz:=fun D L (a0,a1)=>
 (K6 L (a0,a1,a0,(a0.length:Int),0)).bind fun z5=>
 Qo z5 (fun u6=>
 some u6)
 (fun z7=>
 (Qt D (z7.2,1,5)).bind fun r8=>
 bif r8 then(some (decide ((z7.1.length:Int)=z7.2)))
 else(some false))
theorem Qnx:OfF jz Qen:=ofF 86
def Qaz:rL VR:=fun D L (y0,y1,y2,y3,y4,y5,y6,y7,y8,y9,y10,y11,y12,y13,y14,y15,y16,y17,y18,y19,y20,y21)=>
 bif (decide (y2<y1))then(bif inb y2 y0.length then
 let e1:=(rd1 QgS y0 y2);
 (QaX D (y3,y4,y5,y6,y7,y8,y9,y10,y11,y12,y13,y14,y15,y16,y17,y18,y19,y20,y21,e1.1)).bind fun r2=>
 bif (!r2)then(some (Sum.inl false))
 else((Qt D (e1.2.1,0,100000)).bind fun r3=>
 bif (!r3)then(some (Sum.inl false))
 else((Qt D (e1.2.2.2,0,y18)).bind fun r4=>
 bif (!r4)then(some (Sum.inl false))
 else((QgL D (y3,y4,y5,y6,y7,y8,y9,y10,y11,y12,y13,y14,y15,y16,y17,y18,y19,y20,y21,e1.1,e1.2.2.1)).bind fun r5=>
 bif (!decide (r5=y2))then(some (Sum.inl false))
 else(VR L (y0,y1,(wR (y2+1)),y3,y4,y5,y6,y7,y8,y9,y10,y11,y12,y13,y14,y15,y16,y17,y18,y19,y20,y21)))))else none)
 else(some (Sum.inr (y3,y4,y5,y6,y7,y8,y9,y10,y11,y12,y13,y14,y15,y16,y17,y18,y19,y20,y21)))
theorem Qde:OfL VR Qaz:=ofL 87 0
def QfU:rF Qbm:=fun D L (a0,a1,a2,a3,a4,a5,a6,a7,a8,a9,a10,a11,a12,a13,a14,a15,a16,a17,a18)=>
 (VR L (a14,(a14.length:Int),0,a0,a1,a2,a3,a4,a5,a6,a7,a8,a9,a10,a11,a12,a13,a14,a15,a16,a17,a18)).bind fun z6=>
 Qo z6 (fun u7=>
 some u7)
 (fun z8=>
 (Qt D (z8.2.2.2.2.2.2.2.2.2.2.2.2.2.1,1,4)).bind fun r9=>
 bif r9 then(some (decide ((z8.2.2.2.2.2.2.2.2.2.2.2.2.2.2.1.length:Int)<=z8.2.2.2.2.2.2.2.2.2.2.2.2.2.1)))
 else(some false))
theorem Qo9:OfF Qbm QfU:=ofF 87
def vE:rL Km:=fun D L (y0,y1,y2,y3,y4,y5,y6,y7,y8,y9,y10,y11,y12,y13,y14,y15,y16,y17,y18,y19,y20,y21)=>
 bif (decide (y2<y1))then(bif inb y2 y0.length then
 let e1:=(rd1 Qf6 y0 y2);
 (Qt D (e1.1,0,1000)).bind fun r2=>
 bif (!r2)then(some (Sum.inl false))
 else((Qt D (e1.2.1,0,100000)).bind fun r3=>
 bif (!r3)then(some (Sum.inl false))
 else((Qt D (e1.2.2,0,y20)).bind fun r4=>
 bif (!r4)then(some (Sum.inl false))
 else(Km L (y0,y1,(wR (y2+1)),y3,y4,y5,y6,y7,y8,y9,y10,y11,y12,y13,y14,y15,y16,y17,y18,y19,y20,y21))))else none)
 else(some (Sum.inr (y3,y4,y5,y6,y7,y8,y9,y10,y11,y12,y13,y14,y15,y16,y17,y18,y19,y20,y21)))
theorem Qcn:OfL Km vE:=ofL 88 0
def Qfv:rF yC:=fun D L (a0,a1,a2,a3,a4,a5,a6,a7,a8,a9,a10,a11,a12,a13,a14,a15,a16,a17,a18)=>
 (Km L (a18,(a18.length:Int),0,a0,a1,a2,a3,a4,a5,a6,a7,a8,a9,a10,a11,a12,a13,a14,a15,a16,a17,a18)).bind fun z5=>
 Qo z5 (fun u6=>
 some u6)
 (fun z7=>
 some (decide ((z7.2.2.2.2.2.2.2.2.2.2.2.2.2.2.2.2.2.2.length:Int)=5)))
theorem QnD:OfF yC Qfv:=ofF 88
def Qfd:rF strconv_Itoa:=fun _ _=>Qn8
theorem Qmy:OfF strconv_Itoa Qfd:=ofF 89
def JS:rL ZK:=fun D L (y0,y1,y2,y3)=>
 bif (decide (y2<y1))then(bif inb y2 y0.length then
 (Q1 D (rd1 (0:Int) y0 y2)).bind fun r1=>
 bif fits (y3.length+ [r1].length) 16 then
 ZK L (y0,y1,(wR (y2+1)),(y3++[r1]))else none else none)
 else(some y3)
theorem xX:OfL ZK JS:=ofL 90 0
def Qad:rF Ji:=fun D L a0=>
 (ZK L (a0,(a0.length:Int),0,[])).bind fun z2=>
 (strings_Join D (z2,(⟨#[44]⟩:ByteArray))).bind fun r3=>
 some r3
theorem Qjl:OfF Ji Qad:=ofF 90
def Qcu:rF qT:=fun D L (a0,a1,a2,a3,a4)=>
 bif (decide (a1=0))then((Q1 D a0).bind fun r1=>
 bif fits (ByteArray.size r1+ByteArray.size (⟨#[117]⟩:ByteArray)) 1 then
 (Q1 D a2).bind fun r2=>
 bif fits (ByteArray.size (r1++(⟨#[117]⟩:ByteArray))+ByteArray.size r2) 1 then
 bif fits (ByteArray.size ((r1++(⟨#[117]⟩:ByteArray))++r2)+ByteArray.size (⟨#[46]⟩:ByteArray)) 1 then
 (Q1 D a3).bind fun r3=>
 bif fits (ByteArray.size (((r1++(⟨#[117]⟩:ByteArray))++r2)++(⟨#[46]⟩:ByteArray))+ByteArray.size r3) 1 then
 bif fits (ByteArray.size ((((r1++(⟨#[117]⟩:ByteArray))++r2)++(⟨#[46]⟩:ByteArray))++r3)+ByteArray.size (⟨#[58]⟩:ByteArray)) 1 then
 bif fits (ByteArray.size (((((r1++(⟨#[117]⟩:ByteArray))++r2)++(⟨#[46]⟩:ByteArray))++r3)++(⟨#[58]⟩:ByteArray))+ByteArray.size a4) 1 then
 some ((((((r1++(⟨#[117]⟩:ByteArray))++r2)++(⟨#[46]⟩:ByteArray))++r3)++(⟨#[58]⟩:ByteArray))++a4)else none else none else none else none else none else none)
 else(bif (decide (a1=1))then((Q1 D a0).bind fun r4=>
 bif fits (ByteArray.size r4+ByteArray.size (⟨#[103]⟩:ByteArray)) 1 then
 (Q1 D a2).bind fun r5=>
 bif fits (ByteArray.size (r4++(⟨#[103]⟩:ByteArray))+ByteArray.size r5) 1 then
 bif fits (ByteArray.size ((r4++(⟨#[103]⟩:ByteArray))++r5)+ByteArray.size (⟨#[46]⟩:ByteArray)) 1 then
 (Q1 D a3).bind fun r6=>
 bif fits (ByteArray.size (((r4++(⟨#[103]⟩:ByteArray))++r5)++(⟨#[46]⟩:ByteArray))+ByteArray.size r6) 1 then
 bif fits (ByteArray.size ((((r4++(⟨#[103]⟩:ByteArray))++r5)++(⟨#[46]⟩:ByteArray))++r6)+ByteArray.size (⟨#[58]⟩:ByteArray)) 1 then
 bif fits (ByteArray.size (((((r4++(⟨#[103]⟩:ByteArray))++r5)++(⟨#[46]⟩:ByteArray))++r6)++(⟨#[58]⟩:ByteArray))+ByteArray.size a4) 1 then
 some ((((((r4++(⟨#[103]⟩:ByteArray))++r5)++(⟨#[46]⟩:ByteArray))++r6)++(⟨#[58]⟩:ByteArray))++a4)else none else none else none else none else none else none)
 else((Q1 D a0).bind fun r7=>
 bif fits (ByteArray.size r7+ByteArray.size (⟨#[63]⟩:ByteArray)) 1 then
 (Q1 D a2).bind fun r8=>
 bif fits (ByteArray.size (r7++(⟨#[63]⟩:ByteArray))+ByteArray.size r8) 1 then
 bif fits (ByteArray.size ((r7++(⟨#[63]⟩:ByteArray))++r8)+ByteArray.size (⟨#[46]⟩:ByteArray)) 1 then
 (Q1 D a3).bind fun r9=>
 bif fits (ByteArray.size (((r7++(⟨#[63]⟩:ByteArray))++r8)++(⟨#[46]⟩:ByteArray))+ByteArray.size r9) 1 then
 bif fits (ByteArray.size ((((r7++(⟨#[63]⟩:ByteArray))++r8)++(⟨#[46]⟩:ByteArray))++r9)+ByteArray.size (⟨#[58]⟩:ByteArray)) 1 then
 bif fits (ByteArray.size (((((r7++(⟨#[63]⟩:ByteArray))++r8)++(⟨#[46]⟩:ByteArray))++r9)++(⟨#[58]⟩:ByteArray))+ByteArray.size a4) 1 then
 some ((((((r7++(⟨#[63]⟩:ByteArray))++r8)++(⟨#[46]⟩:ByteArray))++r9)++(⟨#[58]⟩:ByteArray))++a4)else none else none else none else none else none else none))
theorem QkQ:OfF qT Qcu:=ofF 91
def QfD:rF strings_Join:=fun _ _=>QmL
theorem Qos:OfF strings_Join QfD:=ofF 92
def vJ:rL K5:=fun D L (y0,y1,y2)=>
 bif (decide (y2<(y0.length:Int)))then(bif inb y2 y0.length then
 let e1:=(rd1 Ya y0 y2);
 bif inb y2 y1.length then
 let e2:=(rd1 Ya y1 y2);
 (Qbk D (e1.1,e1.2.1,e1.2.2.1,e1.2.2.2.1,e1.2.2.2.2.1,e1.2.2.2.2.2,e2)).bind fun r3=>
 bif (!r3)then(some (Sum.inl false))
 else(K5 L (y0,y1,(wR (y2+1))))else none else none)
 else(some (Sum.inr ()))
theorem Qct:OfL K5 vJ:=ofL 93 0
def QeG:rF yM:=fun D L (a0,a1)=>
 bif (!decide ((a0.length:Int)=(a1.length:Int)))then(some false)
 else((K5 L (a0,a1,0)).bind fun z4=>
 Qo z4 (fun u5=>
 some u5)
 (fun z6=>
 some true))
theorem QmO:OfF yM QeG:=ofF 93
def zN:rL Y4:=fun D L (y0,y1,y2)=>
 bif (decide (y2<(y0.length:Int)))then(bif inb y2 y0.length then
 let e1:=(rd1 Xk y0 y2);
 bif inb y2 y1.length then
 let e2:=(rd1 Xk y1 y2);
 (jQ D (e1.1,e1.2,e2)).bind fun r3=>
 bif (!r3)then(some (Sum.inl false))
 else(Y4 L (y0,y1,(wR (y2+1))))else none else none)
 else(some (Sum.inr ()))
theorem Qak:OfL Y4 zN:=ofL 94 0
def QcY:rF zc:=fun D L (a0,a1)=>
 bif (!decide ((a0.length:Int)=(a1.length:Int)))then(some false)
 else((Y4 L (a0,a1,0)).bind fun z4=>
 Qo z4 (fun u5=>
 some u5)
 (fun z6=>
 some true))
theorem Ql0:OfF zc QcY:=ofF 94
def zD:rL YX:=fun D L (y0,y1,y2)=>
 bif (decide (y2<(y0.length:Int)))then(bif inb y2 y0.length then
 let e1:=(rd1 Qhj y0 y2);
 bif inb y2 y1.length then
 let e2:=(rd1 Qhj y1 y2);
 (VE D (e1.1,e1.2,e2)).bind fun r3=>
 bif (!r3)then(some (Sum.inl false))
 else(YX L (y0,y1,(wR (y2+1))))else none else none)
 else(some (Sum.inr ()))
theorem Qai:OfL YX zD:=ofL 95 0
def Qdm:rF zg:=fun D L (a0,a1)=>
 bif (!decide ((a0.length:Int)=(a1.length:Int)))then(some false)
 else((YX L (a0,a1,0)).bind fun z4=>
 Qo z4 (fun u5=>
 some u5)
 (fun z6=>
 some true))
theorem Qlx:OfF zg Qdm:=ofF 95
def QgW:rF Qa8:=fun D L (a0,a1,a2,a3,a4,a5,a6,a7)=>
 bif (!decide (a0=a4))then(some false)
 else(bif (!decide (a1=a5))then(some false)
 else(bif (!(a2==a6))then(some false)
 else(bif (!decide (a3=a7))then(some false)
 else(some true))))
theorem QpE:OfF Qa8 QgW:=ofF 96
def Qge:rF QaV:=fun D L (a0,a1,a2,a3,a4,a5)=>
 bif (!decide (a0=a3))then(some false)
 else(bif (!decide (a1=a4))then(some false)
 else(bif (!decide (a2=a5))then(some false)
 else(some true)))
theorem Qpd:OfF QaV Qge:=ofF 97
def QfQ:rF Qbd:=fun D L (a0,a1,a2,a3)=>
 (j0 D (a1,a3)).bind fun r1=>
 bif (decide (r1<0))then(some (-1))
 else(some r1)
theorem QpH:OfF Qbd QfQ:=ofF 98
def Qgn:rF Qa7:=fun D L (a0,a1,a2,a3)=>
 (VJ D (a1,a2,a3)).bind fun r1=>
 bif (decide (r1<0))then(some (-1))
 else(some r1)
theorem Qpc:OfF Qa7 Qgn:=ofF 99
def Qgf:rF xN:=fun D L a0=>
 (zG D a0).bind fun r1=>
 bif decide ((16777216:Int)≠0)then
 bif decide ((65536:Int)≠0)then
 bif decide ((256:Int)≠0)then
 bif decide ((256:Int)≠0)then
 bif decide ((256:Int)≠0)then
 bif decide ((256:Int)≠0)then
 some [(IntKind.wrap .u8 (wR (Int.tdiv r1 16777216))),(IntKind.wrap .u8 (Int.tmod (wR (Int.tdiv r1 65536)) 256)),(IntKind.wrap .u8 (Int.tmod (wR (Int.tdiv r1 256)) 256)),(IntKind.wrap .u8 (Int.tmod r1 256))]else none else none else none else none else none else none
theorem QoY:OfF xN Qgf:=ofF 100
def QfW:rF QP:=fun D L (a0,a1,a2)=>
 (xR D (a0,a1)).bind fun r1=>
 bif a2 then(some (0,a1,true))
 else(bif (!r1.2.2)then(some (0,a1,true))
 else(some (r1.1,r1.2.1,a2)))
theorem Qow:OfF QP QfW:=ofF 101
def J0:rL Yg:=fun D L (y0,y1,y2,y3,y4,y5,y6)=>
 bif (decide (y2<(wR (y1*y0))))then(bif (!y5)then(bif (decide (y1<=100))then((QP D (y3,y4,y5)).bind fun r2=>
 bif fits (y6.length+ [r2.1].length) 8 then
 Yg L (y0,y1,(wR (y2+1)),y3,r2.2.1,r2.2.2,(y6++[r2.1]))else none)
 else(some (y1,y3,y4,y5,y6)))
 else(some (y1,y3,y4,y5,y6)))
 else(some (y1,y3,y4,y5,y6))
theorem qS:OfL Yg J0:=ofL 102 0
def QeU:rF Xv:=fun D L (a0,a1,a2,a3)=>
 (QP D (a0,a1,a2)).bind fun r1=>
 (Yg L (a3,r1.1,0,a0,r1.2.1,r1.2.2,[])).bind fun z3=>
 bif z3.2.2.2.1 then(some (z3.2.2.2.2,z3.2.2.1,true))
 else(some (z3.2.2.2.2,z3.2.2.1,(decide (100<z3.1))))
theorem Qnk:OfF Xv QeU:=ofF 102
end
end Go.Proofs.YtameehmkoglkeaaGreatDoor.M
