/- Plain forms of the functions that FnExactWorldText reaches, part 1. No conditions. -/
import Derived.Test.YtameehmkoglkeaaGreatDoorFnExactWorldTextTab
set_option linter.all false
namespace Go.Proofs.YtameehmkoglkeaaGreatDoor.M
open Go Go.Eng Go.Proofs
set_option linter.unusedVariables false
noncomputable section
def QfC:rF VA:=fun D L (a0,a1)=>
 (jK D a0).bind fun r1=>
 (zf D a1).bind fun r2=>
 some (r1,r2)
theorem QnH:OfF VA QfC:=ofF 27
def Qgc:rF Qa6:=fun D L (a0,a1)=>
 (Vm D a0).bind fun r1=>
 some (r1,a1)
theorem Qo2:OfF Qa6 Qgc:=ofF 28
def QhN:rF Qdp:=fun D L (a0,a1,a2)=>
 (ze D a2).bind fun r1=>
 some (a0,a1,r1)
theorem QqF:OfF Qdp QhN:=ofF 29
def QaM:rL Vw:=fun D L (y0,y1,y2)=>
 bif (decide (y1<(y0.length:Int)))then(bif inb y1 y0.length then
 bif inb y1 y2.length then
 let l1:=List.set y2 (Int.toNat y1) (rd1 (0:Int) y0 y1);
 Vw L (y0,(wR (y1+1)),l1)else none else none)
 else(some y2)
theorem QcX:OfL Vw QaM:=ofL 30 0
def Qf5:rF Vm:=fun D L a0=>
 bif (decide ((0:Int)<=(a0.length:Int)/\((a0.length:Int):Int)=(a0.length:Int))&&fits (Int.toNat (a0.length:Int)) 8)then
 (Vw L (a0,0,(List.replicate (Int.toNat (a0.length:Int)) 0))).bind fun z2=>
 some z2 else none
theorem Qpy:OfF Vm Qf5:=ofF 30
def vk:rL Kt:=fun D L (y0,y1,y2)=>
 bif (decide (y1<(y0.length:Int)))then(bif inb y1 y0.length then
 (Vm D (rd1 ([]:List Int) y0 y1)).bind fun r1=>
 bif inb y1 y2.length then
 let l2:=List.set y2 (Int.toNat y1) r1;
 Kt L (y0,(wR (y1+1)),l2)else none else none)
 else(some y2)
theorem Qb5:OfL Kt vk:=ofL 31 0
def Qec:rF vr:=fun D L a0=>
 bif (decide ((0:Int)<=(a0.length:Int)/\((a0.length:Int):Int)=(a0.length:Int))&&fits (Int.toNat (a0.length:Int)) 24)then
 (Kt L (a0,0,(List.replicate (Int.toNat (a0.length:Int)) []))).bind fun z3=>
 some z3 else none
theorem Qm6:OfF vr Qec:=ofF 31
def jP:rL KX:=fun D L (y0,y1,y2)=>
 bif (decide (y1<(y0.length:Int)))then(bif inb y1 y0.length then
 let e1:=(rd1 QgS y0 y1);
 (QaR D e1).bind fun r2=>
 bif inb y1 y2.length then
 let l3:=List.set y2 (Int.toNat y1) r2;
 KX L (y0,(wR (y1+1)),l3)else none else none)
 else(some y2)
theorem QcA:OfL KX jP:=ofL 32 0
def QeV:rF jH:=fun D L a0=>
 bif (decide ((0:Int)<=(a0.length:Int)/\((a0.length:Int):Int)=(a0.length:Int))&&fits (Int.toNat (a0.length:Int)) 32)then
 (KX L (a0,0,(List.replicate (Int.toNat (a0.length:Int)) (0,0,false,0)))).bind fun z4=>
 some z4 else none
theorem QnY:OfF jH QeV:=ofF 32
def vR:rL KP:=fun D L (y0,y1,y2)=>
 bif (decide (y1<(y0.length:Int)))then(bif inb y1 y0.length then
 let e1:=(rd1 Qf6 y0 y1);
 (Qa3 D e1).bind fun r2=>
 bif inb y1 y2.length then
 let l3:=List.set y2 (Int.toNat y1) r2;
 KP L (y0,(wR (y1+1)),l3)else none else none)
 else(some y2)
theorem QbI:OfL KP vR:=ofL 33 0
def Qem:rF yB:=fun D L a0=>
 bif (decide ((0:Int)<=(a0.length:Int)/\((a0.length:Int):Int)=(a0.length:Int))&&fits (Int.toNat (a0.length:Int)) 24)then
 (KP L (a0,0,(List.replicate (Int.toNat (a0.length:Int)) (0,0,0)))).bind fun z4=>
 some z4 else none
theorem Qnn:OfF yB Qem:=ofF 33
def Qgd:rF JD:=fun D L (a0,a1,a2,a3,a4,a5,a6,a7,a8,a9,a10,a11,a12,a13,a14,a15,a16,a17,a18)=>
 (Qt D (a1,1,5)).bind fun r1=>
 bif (!r1)then(some false)
 else((Qt D (a0,0,(wR (a1 - 1)))).bind fun r2=>
 bif (!r2)then(some false)
 else((XK D (a2,a3)).bind fun r3=>
 bif (!r3)then(some false)
 else((Qa9 D (a2,a3)).bind fun r4=>
 (zj D (a4,a5,r4)).bind fun r5=>
 bif (!r5)then(some false)
 else((QaY D (a6,a7,a8)).bind fun r6=>
 (jr D (a6,a7,a8)).bind fun r7=>
 bif (!r7)then(some false)
 else((yA D (a9,a1)).bind fun r8=>
 bif (!r8)then(some false)
 else((yA D (a10,a1)).bind fun r9=>
 bif (!r9)then(some false)
 else(bif inb a0 a9.length then
 bif (!decide ((rd1 (0:Int) a9 a0)=r6))then(some false)
 else((Yx D a10).bind fun r10=>
 bif (decide (r6<r10))then(some false)
 else((jz D (a11,a1)).bind fun r11=>
 bif (!r11)then(some false)
 else((Qt D (a12,0,100000)).bind fun r12=>
 bif (!r12)then(some false)
 else((Qt D (a17,0,100000)).bind fun r13=>
 bif (!r13)then(some false)
 else((Qt D (a15,1,20)).bind fun r14=>
 bif r14 then((Qt D (a16,1,50)).bind fun r15=>
 bif r15 then((Qbm D (a0,a1,a2,a3,a4,a5,a6,a7,a8,a9,a10,a11,a12,a13,a14,a15,a16,a17,a18)).bind fun r16=>
 bif r16 then((yC D (a0,a1,a2,a3,a4,a5,a6,a7,a8,a9,a10,a11,a12,a13,a14,a15,a16,a17,a18)).bind fun r17=>
 some r17)
 else(some false))
 else(some false))
 else(some false))))))else none)))))))
theorem Qou:OfF JD Qgd:=ofF 34
def QfS:rF Q1:=fun D L a0=>
 (strconv_Itoa D a0).bind fun r1=>
 some r1
theorem Qpl:OfF Q1 QfS:=ofF 35
def Qej:rF qo:=fun D L a0=>
 (Ji D a0).bind fun r1=>
 some r1
theorem Qng:OfF qo Qej:=ofF 36
def xF:rL Yz:=fun D L (y0,y1,y2,y3,y4,y5)=>
 bif (decide (y2<y1))then(bif inb y2 y0.length then
 let e1:=(rd1 Ya y0 y2);
 (Q1 D e1.1).bind fun r2=>
 bif fits (ByteArray.size r2+ByteArray.size (⟨#[61]⟩:ByteArray)) 1 then
 (qT D e1.2).bind fun r3=>
 bif fits (ByteArray.size (r2++(⟨#[61]⟩:ByteArray))+ByteArray.size r3) 1 then
 bif fits (y5.length+List.length ([((r2++(⟨#[61]⟩:ByteArray))++r3)]:List ByteArray)) 16 then
 Yz L (y0,y1,(wR (y2+1)),y3,y4,(y5++([((r2++(⟨#[61]⟩:ByteArray))++r3)]:List ByteArray)))else none else none else none else none)
 else(some (y3,y4,y5))
theorem Qac:OfL Yz xF:=ofL 37 0
def xE:rL Yw:=fun D L (y0,y1,y2,y3)=>
 bif (decide (y2<y1))then(bif inb y2 y0.length then
 let e5:=(rd1 Xk y0 y2);
 (Q1 D e5.1).bind fun r6=>
 bif fits (ByteArray.size (⟨#[45]⟩:ByteArray)+ByteArray.size r6) 1 then
 bif fits (ByteArray.size ((⟨#[45]⟩:ByteArray)++r6)+ByteArray.size (⟨#[60]⟩:ByteArray)) 1 then
 (Q1 D e5.2).bind fun r7=>
 bif fits (ByteArray.size (((⟨#[45]⟩:ByteArray)++r6)++(⟨#[60]⟩:ByteArray))+ByteArray.size r7) 1 then
 bif fits (y3.length+List.length ([((((⟨#[45]⟩:ByteArray)++r6)++(⟨#[60]⟩:ByteArray))++r7)]:List ByteArray)) 16 then
 Yw L (y0,y1,(wR (y2+1)),(y3++([((((⟨#[45]⟩:ByteArray)++r6)++(⟨#[60]⟩:ByteArray))++r7)]:List ByteArray)))else none else none else none else none else none)
 else(some y3)
theorem Qae:OfL Yw xE:=ofL 37 2
def QbG:rF Vu:=fun D L (a0,a1)=>
 (Yz L (a0,(a0.length:Int),0,a0,a1,[])).bind fun z4=>
 (Yw L (z4.2.1,(z4.2.1.length:Int),0,z4.2.2)).bind fun z8=>
 (strings_Join D (z8,(⟨#[32]⟩:ByteArray))).bind fun r9=>
 some r9
theorem QkO:OfF Vu QbG:=ofF 37
def Qeg:rF VE:=fun D L (a0,a1,a2,a3)=>
 (yM D (a0,a2)).bind fun r1=>
 bif (!r1)then(some false)
 else((zc D (a1,a3)).bind fun r2=>
 bif (!r2)then(some false)
 else(some true))
theorem QnT:OfF VE Qeg:=ofF 38
def QgN:rF QaS:=fun D L (a0,a1,a2,a3)=>
 (K9 D (a0,a2)).bind fun r1=>
 bif (!r1)then(some false)
 else(bif (!decide (a1=a3))then(some false)
 else(some true))
theorem QoC:OfF QaS QgN:=ofF 39
def Qhv:rF Qdz:=fun D L (a0,a1,a2,a3,a4,a5)=>
 bif (!decide (a0=a3))then(some false)
 else(bif (!decide (a1=a4))then(some false)
 else((zg D (a2,a5)).bind fun r1=>
 bif (!r1)then(some false)
 else(some true)))
theorem QqY:OfF Qdz Qhv:=ofF 40
def QaE:rL VU:=fun D L (y0,y1,y2)=>
 bif (decide (y2<(y0.length:Int)))then(bif inb y2 y0.length then
 bif inb y2 y1.length then
 bif (!decide ((rd1 (0:Int) y0 y2)=(rd1 (0:Int) y1 y2)))then(some (Sum.inl false))
 else(VU L (y0,y1,(wR (y2+1))))else none else none)
 else(some (Sum.inr ()))
theorem Qdn:OfL VU QaE:=ofL 41 0
def Qgq:rF K9:=fun D L (a0,a1)=>
 bif (!decide ((a0.length:Int)=(a1.length:Int)))then(some false)
 else((VU L (a0,a1,0)).bind fun z1=>
 Qo z1 (fun u2=>
 some u2)
 (fun z3=>
 some true))
theorem QoP:OfF K9 Qgq:=ofF 41
def yN:rL Kp:=fun D L (y0,y1,y2)=>
 bif (decide (y2<(y0.length:Int)))then(bif inb y2 y0.length then
 bif inb y2 y1.length then
 (K9 D ((rd1 ([]:List Int) y0 y2),(rd1 ([]:List Int) y1 y2))).bind fun r1=>
 bif (!r1)then(some (Sum.inl false))
 else(Kp L (y0,y1,(wR (y2+1))))else none else none)
 else(some (Sum.inr ()))
theorem Qb4:OfL Kp yN:=ofL 42 0
def QfB:rF vC:=fun D L (a0,a1)=>
 bif (!decide ((a0.length:Int)=(a1.length:Int)))then(some false)
 else((Kp L (a0,a1,0)).bind fun z2=>
 Qo z2 (fun u3=>
 some u3)
 (fun z4=>
 some true))
theorem Qm0:OfF vC QfB:=ofF 42
def j6:rL K3:=fun D L (y0,y1,y2)=>
 bif (decide (y2<(y0.length:Int)))then(bif inb y2 y0.length then
 let e1:=(rd1 QgS y0 y2);
 bif inb y2 y1.length then
 let e2:=(rd1 QgS y1 y2);
 (Qa8 D (e1.1,e1.2.1,e1.2.2.1,e1.2.2.2,e2)).bind fun r3=>
 bif (!r3)then(some (Sum.inl false))
 else(K3 L (y0,y1,(wR (y2+1))))else none else none)
 else(some (Sum.inr ()))
theorem QcD:OfL K3 j6:=ofL 43 0
def QdZ:rF jb:=fun D L (a0,a1)=>
 bif (!decide ((a0.length:Int)=(a1.length:Int)))then(some false)
 else((K3 L (a0,a1,0)).bind fun z4=>
 Qo z4 (fun u5=>
 some u5)
 (fun z6=>
 some true))
theorem Qok:OfF jb QdZ:=ofF 43
def jc:rL Ku:=fun D L (y0,y1,y2)=>
 bif (decide (y2<(y0.length:Int)))then(bif inb y2 y0.length then
 let e1:=(rd1 Qf6 y0 y2);
 bif inb y2 y1.length then
 let e2:=(rd1 Qf6 y1 y2);
 (QaV D (e1.1,e1.2.1,e1.2.2,e2)).bind fun r3=>
 bif (!r3)then(some (Sum.inl false))
 else(Ku L (y0,y1,(wR (y2+1))))else none else none)
 else(some (Sum.inr ()))
theorem Qcs:OfL Ku jc:=ofL 44 0
def QfK:rF vt:=fun D L (a0,a1)=>
 bif (!decide ((a0.length:Int)=(a1.length:Int)))then(some false)
 else((Ku L (a0,a1,0)).bind fun z4=>
 Qo z4 (fun u5=>
 some u5)
 (fun z6=>
 some true))
theorem QnW:OfF vt QfK:=ofF 44
def J2:rL Kz:=fun D L (y0,y1,y2)=>
 bif (decide (y2<(y0.length:Int)))then(bif inb y2 y0.length then
 let e1:=(rd1 yq y0 y2);
 (Qbu D (e1.1,e1.2.1,e1.2.2.1,e1.2.2.2.1,e1.2.2.2.2.1,e1.2.2.2.2.2.1,e1.2.2.2.2.2.2.1,e1.2.2.2.2.2.2.2.1,e1.2.2.2.2.2.2.2.2.1,e1.2.2.2.2.2.2.2.2.2.1,e1.2.2.2.2.2.2.2.2.2.2.1,e1.2.2.2.2.2.2.2.2.2.2.2.1,e1.2.2.2.2.2.2.2.2.2.2.2.2.1,e1.2.2.2.2.2.2.2.2.2.2.2.2.2.1,e1.2.2.2.2.2.2.2.2.2.2.2.2.2.2.1,e1.2.2.2.2.2.2.2.2.2.2.2.2.2.2.2.1,e1.2.2.2.2.2.2.2.2.2.2.2.2.2.2.2.2.1,e1.2.2.2.2.2.2.2.2.2.2.2.2.2.2.2.2.2.1,e1.2.2.2.2.2.2.2.2.2.2.2.2.2.2.2.2.2.2,y1)).bind fun r2=>
 bif (decide (r2<0))then(some (Sum.inl (-1)))
 else(Kz L (y0,r2,(wR (y2+1))))else none)
 else(some (Sum.inr y1))
theorem qG:OfL Kz J2:=ofL 45 0
def Qd2:rF yP:=fun D L (a0,a1)=>
 bif (decide ((wR (a1 - (a0.length:Int)))<0))then(some (-1))
 else((Kz L (a0,(wR (a1 - (a0.length:Int))),0)).bind fun z3=>
 Qo z3 (fun u4=>
 some u4)
 (fun z5=>
 some z5))
theorem Ql4:OfF yP Qd2:=ofF 45
def JY:rL KQ:=fun D L (y0,y1,y2)=>
 bif (decide (y2<(y0.length:Int)))then(bif inb y2 y0.length then
 let e1:=(rd1 Qbe y0 y2);
 (Qbd D (e1.1,e1.2.1,e1.2.2,y1)).bind fun r2=>
 bif (decide (r2<0))then(some (Sum.inl (-1)))
 else(KQ L (y0,r2,(wR (y2+1))))else none)
 else(some (Sum.inr y1))
theorem qs:OfL KQ JY:=ofL 46 0
def Qeo:rF yo:=fun D L (a0,a1)=>
 bif (decide ((wR (a1 - (a0.length:Int)))<0))then(some (-1))
 else((KQ L (a0,(wR (a1 - (a0.length:Int))),0)).bind fun z3=>
 Qo z3 (fun u4=>
 some u4)
 (fun z5=>
 some z5))
theorem QmN:OfF yo Qeo:=ofF 46
def J7:rL KT:=fun D L (y0,y1,y2)=>
 bif (decide (y2<(y0.length:Int)))then(bif inb y2 y0.length then
 let e1:=(rd1 Qiw y0 y2);
 (Qa7 D (e1.1,e1.2.1,e1.2.2,y1)).bind fun r2=>
 bif (decide (r2<0))then(some (Sum.inl (-1)))
 else(KT L (y0,r2,(wR (y2+1))))else none)
 else(some (Sum.inr y1))
theorem qm:OfL KT J7:=ofL 47 0
def Qfi:rF vx:=fun D L (a0,a1)=>
 bif (decide ((wR (a1 - (a0.length:Int)))<0))then(some (-1))
 else((KT L (a0,(wR (a1 - (a0.length:Int))),0)).bind fun z3=>
 Qo z3 (fun u4=>
 some u4)
 (fun z5=>
 some z5))
theorem Qny:OfF vx Qfi:=ofF 47
def yV:rL KA:=fun D L (y0,y1,y2,y3,y4)=>
 bif (decide (y1<y0))then(bif inb y1 y2.length then
 let e2:=(rd1 yq y2 y1);
 (JE D e2).bind fun r3=>
 bif (!r3)then(some (Sum.inl false))
 else(bif inb y1 y2.length then
 let e4:=(rd1 yq y2 y1);
 bif (!decide (e4.2.1=y0))then(some (Sum.inl false))
 else(bif inb y1 y2.length then
 let e5:=(rd1 yq y2 y1);
 bif (!decide (e5.1=y1))then(some (Sum.inl false))
 else(KA L (y0,(wR (y1+1)),y2,y3,y4))else none)else none)else none)
 else(some (Sum.inr (y0,y2,y3,y4)))
theorem QcG:OfL KA yV:=ofL 48 0
def yX:rL Kn:=fun D L (y0,y1,y2,y3,y4)=>
 bif (decide (y1<(y3.length:Int)))then(bif inb y1 y3.length then
 let e9:=(rd1 Qbe y3 y1);
 (QD D (e9.1,0,(wR (y0 - 1)))).bind fun r10=>
 bif (!r10)then(some (Sum.inl false))
 else(Kn L (y0,(wR (y1+1)),y2,y3,y4))else none)
 else(some (Sum.inr (y0,y2,y3,y4)))
theorem Qby:OfL Kn yX:=ofL 48 2
def vS:rL KI:=fun D L (y0,y1,y2,y3,y4)=>
 bif (decide (y1<(y4.length:Int)))then(bif inb y1 y4.length then
 let e14:=(rd1 Qiw y4 y1);
 (QD D (e14.1,0,(wR (y0 - 1)))).bind fun r15=>
 bif (!r15)then(some (Sum.inl false))
 else(bif inb y1 y4.length then
 let e16:=(rd1 Qiw y4 y1);
 (Zd D e16.2).bind fun r17=>
 bif (!r17)then(some (Sum.inl false))
 else(KI L (y0,(wR (y1+1)),y2,y3,y4))else none)else none)
 else(some (Sum.inr ()))
theorem Qbw:OfL KI vS:=ofL 48 4
def Qei:rF jL:=fun D L (a0,a1,a2)=>
 (QD D ((a0.length:Int),1,5)).bind fun r1=>
 bif (!r1)then(some false)
 else(bif (decide (12<(a1.length:Int)))then(some false)
 else(bif (decide (40<(a2.length:Int)))then(some false)
 else((KA L ((a0.length:Int),0,a0,a1,a2)).bind fun z6=>
 Qo z6 (fun u7=>
 some u7)
 (fun z8=>
 (Kn L (z8.1,0,z8.2)).bind fun z11=>
 Qo z11 (fun u12=>
 some u12)
 (fun z13=>
 (KI L (z13.1,0,z13.2)).bind fun z18=>
 Qo z18 (fun u19=>
 some u19)
 (fun z20=>
 some true))))))
theorem Qnl:OfF jL Qei:=ofF 48
def x7:rL Ju:=fun D L (y0,y1,y2,y3,y4,y5,y6,y7,y8,y9,y10,y11,y12,y13,y14,y15,y16,y17,y18)=>
 bif (decide ((wR (y2+1))<(y15.length:Int)))then(bif inb y2 y15.length then
 bif inb (wR (y2+1)) y15.length then
 bif fits (y14.length+ [((rd1 (0:Int) y15 y2),(rd1 (0:Int) y15 (wR (y2+1))))].length) 16 then
 Ju L (y0,y1,(wR (y2+2)),y3,y4,y5,y6,y7,y8,y9,y10,y11,y12,y13,(y14++[((rd1 (0:Int) y15 y2),(rd1 (0:Int) y15 (wR (y2+1))))]),y15,y16,y17,y18)else none else none else none)
 else(some (y0,y1,y3,y4,y5,y6,y7,y8,y9,y10,y11,y12,y13,y14,y16,y17,y18))
theorem zB:OfL Ju x7:=ofL 49 0
def QhH:rF jI:=fun D L a0=>
 bif (decide ((a0.length:Int)<6))then(some (0,0,0,0,0,[],0,[],[],[],[],[],false))
 else(bif decide ((0:Int)<=0/\0<=((wR ((a0.length:Int) - 4)):Int)/\(wR ((a0.length:Int) - 4))<=(a0.length:Int))then
 (xN D (List.take (Int.toNat ((wR ((a0.length:Int) - 4)) - 0)) (List.drop (Int.toNat 0) a0))).bind fun r1=>
 bif decide ((0:Int)<=(wR ((a0.length:Int) - 4))/\(wR ((a0.length:Int) - 4))<=((a0.length:Int):Int)/\(a0.length:Int)<=(a0.length:Int))then
 bif (!Xm (QA r1) (QA (List.take (Int.toNat ((a0.length:Int) - (wR ((a0.length:Int) - 4)))) (List.drop (Int.toNat (wR ((a0.length:Int) - 4))) a0))))then(some (0,0,0,0,0,[],0,[],[],[],[],[],false))
 else(bif decide ((0:Int)<=0/\0<=((wR ((a0.length:Int) - 4)):Int)/\(wR ((a0.length:Int) - 4))<=(a0.length:Int))then
 (QP D (List.take (Int.toNat ((wR ((a0.length:Int) - 4)) - 0)) (List.drop (Int.toNat 0) a0),2,false)).bind fun r2=>
 (QP D (List.take (Int.toNat ((wR ((a0.length:Int) - 4)) - 0)) (List.drop (Int.toNat 0) a0),r2.2)).bind fun r3=>
 (QP D (List.take (Int.toNat ((wR ((a0.length:Int) - 4)) - 0)) (List.drop (Int.toNat 0) a0),r3.2)).bind fun r4=>
 (QP D (List.take (Int.toNat ((wR ((a0.length:Int) - 4)) - 0)) (List.drop (Int.toNat 0) a0),r4.2)).bind fun r5=>
 (QP D (List.take (Int.toNat ((wR ((a0.length:Int) - 4)) - 0)) (List.drop (Int.toNat 0) a0),r5.2)).bind fun r6=>
 (Xv D (List.take (Int.toNat ((wR ((a0.length:Int) - 4)) - 0)) (List.drop (Int.toNat 0) a0),r6.2.1,r6.2.2,1)).bind fun r7=>
 (QP D (List.take (Int.toNat ((wR ((a0.length:Int) - 4)) - 0)) (List.drop (Int.toNat 0) a0),r7.2)).bind fun r8=>
 (Xv D (List.take (Int.toNat ((wR ((a0.length:Int) - 4)) - 0)) (List.drop (Int.toNat 0) a0),r8.2.1,r8.2.2,1)).bind fun r9=>
 (Xv D (List.take (Int.toNat ((wR ((a0.length:Int) - 4)) - 0)) (List.drop (Int.toNat 0) a0),r9.2.1,r9.2.2,1)).bind fun r10=>
 (QP D (List.take (Int.toNat ((wR ((a0.length:Int) - 4)) - 0)) (List.drop (Int.toNat 0) a0),r10.2)).bind fun r11=>
 bif r11.2.2 then(some (0,0,0,0,0,[],0,[],[],[],[],[],false))
 else(bif (decide ((wR (((List.length (List.take (Int.toNat ((wR ((a0.length:Int) - 4)) - 0)) (List.drop (Int.toNat 0) a0))):Int) - r11.2.1))<r11.1))then(some (0,0,0,0,0,[],0,[],[],[],[],[],false))
 else(bif decide ((0:Int)<=r11.2.1/\r11.2.1<=((wR (r11.2.1+r11.1)):Int)/\(wR (r11.2.1+r11.1))<=((List.length (List.take (Int.toNat ((wR ((a0.length:Int) - 4)) - 0)) (List.drop (Int.toNat 0) a0))):Int))then
 (ja D (List.take (Int.toNat ((wR (r11.2.1+r11.1)) - r11.2.1)) (List.drop (Int.toNat r11.2.1) (List.take (Int.toNat ((wR ((a0.length:Int) - 4)) - 0)) (List.drop (Int.toNat 0) a0))))).bind fun r12=>
 (Xv D (List.take (Int.toNat ((wR ((a0.length:Int) - 4)) - 0)) (List.drop (Int.toNat 0) a0),(wR (r11.2.1+r11.1)),r11.2.2,2)).bind fun r13=>
 (Ju L (a0,r12.2.2,0,r2.1,r3.1,r4.1,r5.1,r6.1,r7.1,r8.1,r9.1,r10.1,r12.1,r12.2.1,[],r13.1,List.take (Int.toNat ((wR ((a0.length:Int) - 4)) - 0)) (List.drop (Int.toNat 0) a0),r13.2)).bind fun z14=>
 bif (!z14.2.1)then(some (0,0,0,0,0,[],0,[],[],[],[],[],false))
 else(bif z14.2.2.2.2.2.2.2.2.2.2.2.2.2.2.2.2 then(some (0,0,0,0,0,[],0,[],[],[],[],[],false))
 else((KL D (z14.2.2.1,z14.2.2.2.1,z14.2.2.2.2.1,z14.2.2.2.2.2.1,z14.2.2.2.2.2.2.1,z14.2.2.2.2.2.2.2.1,z14.2.2.2.2.2.2.2.2.1,z14.2.2.2.2.2.2.2.2.2.1,z14.2.2.2.2.2.2.2.2.2.2.1,z14.2.2.2.2.2.2.2.2.2.2.2.1,z14.2.2.2.2.2.2.2.2.2.2.2.2.1,z14.2.2.2.2.2.2.2.2.2.2.2.2.2.1)).bind fun r15=>
 bif (!r15)then(some (0,0,0,0,0,[],0,[],[],[],[],[],false))
 else((zp D (z14.2.2.1,z14.2.2.2.1,z14.2.2.2.2.1,z14.2.2.2.2.2.1,z14.2.2.2.2.2.2.1,z14.2.2.2.2.2.2.2.1,z14.2.2.2.2.2.2.2.2.1,z14.2.2.2.2.2.2.2.2.2.1,z14.2.2.2.2.2.2.2.2.2.2.1,z14.2.2.2.2.2.2.2.2.2.2.2.1,z14.2.2.2.2.2.2.2.2.2.2.2.2.1,z14.2.2.2.2.2.2.2.2.2.2.2.2.2.1)).bind fun r16=>
 bif (!Xm (QA r16) (QA z14.1))then(some (0,0,0,0,0,[],0,[],[],[],[],[],false))
 else(some (z14.2.2.1,z14.2.2.2.1,z14.2.2.2.2.1,z14.2.2.2.2.2.1,z14.2.2.2.2.2.2.1,z14.2.2.2.2.2.2.2.1,z14.2.2.2.2.2.2.2.2.1,z14.2.2.2.2.2.2.2.2.2.1,z14.2.2.2.2.2.2.2.2.2.2.1,z14.2.2.2.2.2.2.2.2.2.2.2.1,z14.2.2.2.2.2.2.2.2.2.2.2.2.1,z14.2.2.2.2.2.2.2.2.2.2.2.2.2.1,true)))))else none))else none)else none else none)
theorem QqP:OfF jI QhH:=ofF 49
def Qe0:rF YZ:=fun D L (a0,a1,a2,a3,a4,a5,a6,a7,a8,a9,a10,a11)=>
 (KL D (a0,a1,a2,a3,a4,a5,a6,a7,a8,a9,a10,a11)).bind fun r1=>
 bif (!r1)then(some (⟨#[63]⟩:ByteArray))
 else(bif inb a0 (List.length [(⟨#[112,117,115,104]⟩:ByteArray),(⟨#[97,99,107]⟩:ByteArray),(⟨#[115,121,110]⟩:ByteArray),(⟨#[114,101,112,108,121]⟩:ByteArray),(⟨#[108,97,115,116]⟩:ByteArray),(⟨#[98,117,115,121]⟩:ByteArray)])then
 bif fits (ByteArray.size (rd1 (ByteArray.empty:ByteArray) ([(⟨#[112,117,115,104]⟩:ByteArray),(⟨#[97,99,107]⟩:ByteArray),(⟨#[115,121,110]⟩:ByteArray),(⟨#[114,101,112,108,121]⟩:ByteArray),(⟨#[108,97,115,116]⟩:ByteArray),(⟨#[98,117,115,121]⟩:ByteArray)]:List ByteArray) a0)+ByteArray.size (⟨#[32]⟩:ByteArray)) 1 then
 (QK D a1).bind fun r2=>
 bif fits (ByteArray.size ((rd1 (ByteArray.empty:ByteArray) ([(⟨#[112,117,115,104]⟩:ByteArray),(⟨#[97,99,107]⟩:ByteArray),(⟨#[115,121,110]⟩:ByteArray),(⟨#[114,101,112,108,121]⟩:ByteArray),(⟨#[108,97,115,116]⟩:ByteArray),(⟨#[98,117,115,121]⟩:ByteArray)]:List ByteArray) a0)++(⟨#[32]⟩:ByteArray))+ByteArray.size r2) 1 then
 bif fits (ByteArray.size (((rd1 (ByteArray.empty:ByteArray) ([(⟨#[112,117,115,104]⟩:ByteArray),(⟨#[97,99,107]⟩:ByteArray),(⟨#[115,121,110]⟩:ByteArray),(⟨#[114,101,112,108,121]⟩:ByteArray),(⟨#[108,97,115,116]⟩:ByteArray),(⟨#[98,117,115,121]⟩:ByteArray)]:List ByteArray) a0)++(⟨#[32]⟩:ByteArray))++r2)+ByteArray.size (⟨#[62]⟩:ByteArray)) 1 then
 (QK D a2).bind fun r3=>
 bif fits (ByteArray.size ((((rd1 (ByteArray.empty:ByteArray) ([(⟨#[112,117,115,104]⟩:ByteArray),(⟨#[97,99,107]⟩:ByteArray),(⟨#[115,121,110]⟩:ByteArray),(⟨#[114,101,112,108,121]⟩:ByteArray),(⟨#[108,97,115,116]⟩:ByteArray),(⟨#[98,117,115,121]⟩:ByteArray)]:List ByteArray) a0)++(⟨#[32]⟩:ByteArray))++r2)++(⟨#[62]⟩:ByteArray))+ByteArray.size r3) 1 then
 bif fits (ByteArray.size (((((rd1 (ByteArray.empty:ByteArray) ([(⟨#[112,117,115,104]⟩:ByteArray),(⟨#[97,99,107]⟩:ByteArray),(⟨#[115,121,110]⟩:ByteArray),(⟨#[114,101,112,108,121]⟩:ByteArray),(⟨#[108,97,115,116]⟩:ByteArray),(⟨#[98,117,115,121]⟩:ByteArray)]:List ByteArray) a0)++(⟨#[32]⟩:ByteArray))++r2)++(⟨#[62]⟩:ByteArray))++r3)+ByteArray.size (⟨#[35]⟩:ByteArray)) 1 then
 (QK D a3).bind fun r4=>
 bif fits (ByteArray.size ((((((rd1 (ByteArray.empty:ByteArray) ([(⟨#[112,117,115,104]⟩:ByteArray),(⟨#[97,99,107]⟩:ByteArray),(⟨#[115,121,110]⟩:ByteArray),(⟨#[114,101,112,108,121]⟩:ByteArray),(⟨#[108,97,115,116]⟩:ByteArray),(⟨#[98,117,115,121]⟩:ByteArray)]:List ByteArray) a0)++(⟨#[32]⟩:ByteArray))++r2)++(⟨#[62]⟩:ByteArray))++r3)++(⟨#[35]⟩:ByteArray))+ByteArray.size r4) 1 then
 (VH D (a9,a10)).bind fun r5=>
 (VN D r5).bind fun r6=>
 bif fits (ByteArray.size (((((((rd1 (ByteArray.empty:ByteArray) ([(⟨#[112,117,115,104]⟩:ByteArray),(⟨#[97,99,107]⟩:ByteArray),(⟨#[115,121,110]⟩:ByteArray),(⟨#[114,101,112,108,121]⟩:ByteArray),(⟨#[108,97,115,116]⟩:ByteArray),(⟨#[98,117,115,121]⟩:ByteArray)]:List ByteArray) a0)++(⟨#[32]⟩:ByteArray))++r2)++(⟨#[62]⟩:ByteArray))++r3)++(⟨#[35]⟩:ByteArray))++r4)+ByteArray.size r6) 1 then
 some ((((((((rd1 (ByteArray.empty:ByteArray) ([(⟨#[112,117,115,104]⟩:ByteArray),(⟨#[97,99,107]⟩:ByteArray),(⟨#[115,121,110]⟩:ByteArray),(⟨#[114,101,112,108,121]⟩:ByteArray),(⟨#[108,97,115,116]⟩:ByteArray),(⟨#[98,117,115,121]⟩:ByteArray)]:List ByteArray) a0)++(⟨#[32]⟩:ByteArray))++r2)++(⟨#[62]⟩:ByteArray))++r3)++(⟨#[35]⟩:ByteArray))++r4)++r6)else none else none else none else none else none else none else none else none)
theorem QmM:OfF YZ Qe0:=ofF 50
end
end Go.Proofs.YtameehmkoglkeaaGreatDoor.M
