/- Plain forms of the functions that FnExactWorldText reaches, part 0. No conditions. -/
import Derived.Test.YtameehmkoglkeaaGreatDoorFnExactWorldTextTab
set_option linter.all false
namespace Go.Proofs.YtameehmkoglkeaaGreatDoor.M
open Go Go.Eng Go.Proofs
set_option linter.unusedVariables false
noncomputable section
def J6:rF VX:=fun D L (a0,a1,a2)=>
 (jG D (a0,a1,a2,1048576)).bind fun r1=>
 bif (decide (r1<0))then(some true)
 else((V3 D (a0,a1,a2)).bind fun r2=>
 (xd D r2).bind fun r3=>
 (V3 D (a0,a1,a2)).bind fun r4=>
 (qV D r4).bind fun r5=>
 bif (!Xm r5 r3)then(some false)
 else((V3 D (a0,a1,a2)).bind fun r6=>
 (va D (r4.1,r4.2.1,r4.2.2,r6)).bind fun r7=>
 bif (!r7)then(some false)
 else(some true)))
theorem Qfl:OfF VX J6:=ofF 4
def QgK:rF Qbu:=fun D L (a0,a1,a2,a3,a4,a5,a6,a7,a8,a9,a10,a11,a12,a13,a14,a15,a16,a17,a18,a19)=>
 (VJ D (a2,a3,a19)).bind fun r1=>
 bif (decide (r1<0))then(some (-1))
 else((Qbv D (a4,a5,r1)).bind fun r2=>
 bif (decide (r2<0))then(some (-1))
 else((QdF D (a6,a7,a8,r2)).bind fun r3=>
 bif (decide (r3<0))then(some (-1))
 else((Vb D (a9,r3)).bind fun r4=>
 bif (decide (r4<0))then(some (-1))
 else((Vb D (a10,r4)).bind fun r5=>
 bif (decide (r5<0))then(some (-1))
 else((vW D (a11,r5)).bind fun r6=>
 bif (decide (r6<0))then(some (-1))
 else((yw D (a14,r6)).bind fun r7=>
 bif (decide (r7<0))then(some (-1))
 else((v7 D (a18,r7)).bind fun r8=>
 bif (decide (r8<0))then(some (-1))
 else(some r8))))))))
theorem Qo6:OfF Qbu QgK:=ofF 5
def Qda:rF zo:=fun D L (a0,a1,a2,a3,a4,a5,a6,a7,a8,a9,a10,a11,a12,a13,a14,a15,a16,a17,a18)=>
 (JE D (a0,a1,a2,a3,a4,a5,a6,a7,a8,a9,a10,a11,a12,a13,a14,a15,a16,a17,a18)).bind fun r1=>
 bif (!r1)then(some (⟨#[]⟩:ByteArray))
 else((QK D a0).bind fun r2=>
 bif fits (ByteArray.size (⟨#[110]⟩:ByteArray)+ByteArray.size r2) 1 then
 bif fits (ByteArray.size ((⟨#[110]⟩:ByteArray)++r2)+ByteArray.size (⟨#[32,99]⟩:ByteArray)) 1 then
 (QK D a17).bind fun r3=>
 bif fits (ByteArray.size (((⟨#[110]⟩:ByteArray)++r2)++(⟨#[32,99]⟩:ByteArray))+ByteArray.size r3) 1 then
 bif fits (ByteArray.size ((((⟨#[110]⟩:ByteArray)++r2)++(⟨#[32,99]⟩:ByteArray))++r3)+ByteArray.size (⟨#[32]⟩:ByteArray)) 1 then
 (qO D a9).bind fun r4=>
 bif fits (ByteArray.size (((((⟨#[110]⟩:ByteArray)++r2)++(⟨#[32,99]⟩:ByteArray))++r3)++(⟨#[32]⟩:ByteArray))+ByteArray.size r4) 1 then
 bif fits (ByteArray.size ((((((⟨#[110]⟩:ByteArray)++r2)++(⟨#[32,99]⟩:ByteArray))++r3)++(⟨#[32]⟩:ByteArray))++r4)+ByteArray.size (⟨#[32]⟩:ByteArray)) 1 then
 (qO D a10).bind fun r5=>
 bif fits (ByteArray.size (((((((⟨#[110]⟩:ByteArray)++r2)++(⟨#[32,99]⟩:ByteArray))++r3)++(⟨#[32]⟩:ByteArray))++r4)++(⟨#[32]⟩:ByteArray))+ByteArray.size r5) 1 then
 (VH D (a2,a3)).bind fun r6=>
 (VN D r6).bind fun r7=>
 bif fits (ByteArray.size ((((((((⟨#[110]⟩:ByteArray)++r2)++(⟨#[32,99]⟩:ByteArray))++r3)++(⟨#[32]⟩:ByteArray))++r4)++(⟨#[32]⟩:ByteArray))++r5)+ByteArray.size r7) 1 then
 some (((((((((⟨#[110]⟩:ByteArray)++r2)++(⟨#[32,99]⟩:ByteArray))++r3)++(⟨#[32]⟩:ByteArray))++r4)++(⟨#[32]⟩:ByteArray))++r5)++r7)else none else none else none else none else none else none else none else none)
theorem Qlo:OfF zo Qda:=ofF 6
def QgZ:rF QaZ:=fun D L (a0,a1,a2,a3,a4,a5,a6,a7,a8,a9,a10,a11,a12,a13,a14,a15,a16,a17,a18)=>
 (VA D (a2,a3)).bind fun r1=>
 (Qa6 D (a4,a5)).bind fun r2=>
 (Qdp D (a6,a7,a8)).bind fun r3=>
 (Vm D a9).bind fun r4=>
 (Vm D a10).bind fun r5=>
 (vr D a11).bind fun r6=>
 (jH D a14).bind fun r7=>
 (yB D a18).bind fun r8=>
 some (a0,a1,r1.1,r1.2,r2.1,r2.2,r3.1,r3.2.1,r3.2.2,r4,r5,r6,a12,a13,r7,a15,a16,a17,r8)
theorem Qo7:OfF QaZ QgZ:=ofF 7
def QcZ:rF zb:=fun D L (a0,a1,a2,a3,a4,a5,a6,a7,a8,a9,a10,a11,a12,a13,a14,a15,a16,a17,a18)=>
 (JD D (a0,a1,a2,a3,a4,a5,a6,a7,a8,a9,a10,a11,a12,a13,a14,a15,a16,a17,a18)).bind fun r1=>
 bif (!r1)then(some (⟨#[]⟩:ByteArray))
 else((Q1 D a0).bind fun r2=>
 bif fits (ByteArray.size (⟨#[110]⟩:ByteArray)+ByteArray.size r2) 1 then
 bif fits (ByteArray.size ((⟨#[110]⟩:ByteArray)++r2)+ByteArray.size (⟨#[32,99]⟩:ByteArray)) 1 then
 (Q1 D a17).bind fun r3=>
 bif fits (ByteArray.size (((⟨#[110]⟩:ByteArray)++r2)++(⟨#[32,99]⟩:ByteArray))+ByteArray.size r3) 1 then
 bif fits (ByteArray.size ((((⟨#[110]⟩:ByteArray)++r2)++(⟨#[32,99]⟩:ByteArray))++r3)+ByteArray.size (⟨#[32]⟩:ByteArray)) 1 then
 (qo D a9).bind fun r4=>
 bif fits (ByteArray.size (((((⟨#[110]⟩:ByteArray)++r2)++(⟨#[32,99]⟩:ByteArray))++r3)++(⟨#[32]⟩:ByteArray))+ByteArray.size r4) 1 then
 bif fits (ByteArray.size ((((((⟨#[110]⟩:ByteArray)++r2)++(⟨#[32,99]⟩:ByteArray))++r3)++(⟨#[32]⟩:ByteArray))++r4)+ByteArray.size (⟨#[32]⟩:ByteArray)) 1 then
 (qo D a10).bind fun r5=>
 bif fits (ByteArray.size (((((((⟨#[110]⟩:ByteArray)++r2)++(⟨#[32,99]⟩:ByteArray))++r3)++(⟨#[32]⟩:ByteArray))++r4)++(⟨#[32]⟩:ByteArray))+ByteArray.size r5) 1 then
 (Vu D (a2,a3)).bind fun r6=>
 bif (!Xm r6 (⟨#[]⟩:ByteArray))then(bif fits (ByteArray.size (⟨#[32]⟩:ByteArray)+ByteArray.size r6) 1 then
 bif fits (ByteArray.size ((((((((⟨#[110]⟩:ByteArray)++r2)++(⟨#[32,99]⟩:ByteArray))++r3)++(⟨#[32]⟩:ByteArray))++r4)++(⟨#[32]⟩:ByteArray))++r5)+ByteArray.size ((⟨#[32]⟩:ByteArray)++r6)) 1 then
 some (((((((((⟨#[110]⟩:ByteArray)++r2)++(⟨#[32,99]⟩:ByteArray))++r3)++(⟨#[32]⟩:ByteArray))++r4)++(⟨#[32]⟩:ByteArray))++r5)++((⟨#[32]⟩:ByteArray)++r6))else none else none)
 else(some ((((((((⟨#[110]⟩:ByteArray)++r2)++(⟨#[32,99]⟩:ByteArray))++r3)++(⟨#[32]⟩:ByteArray))++r4)++(⟨#[32]⟩:ByteArray))++r5))else none else none else none else none else none else none else none)
theorem Ql1:OfF zb QcZ:=ofF 8
def QgC:rF Qa4:=fun D L (a0,a1,a2,a3,a4,a5,a6,a7,a8,a9,a10,a11,a12,a13,a14,a15,a16,a17,a18,a19,a20,a21,a22,a23,a24,a25,a26,a27,a28,a29,a30,a31,a32,a33,a34,a35,a36,a37)=>
 bif (!decide (a0=a19))then(some false)
 else(bif (!decide (a1=a20))then(some false)
 else((VE D (a2,a3,a21,a22)).bind fun r1=>
 bif (!r1)then(some false)
 else((QaS D (a4,a5,a23,a24)).bind fun r2=>
 bif (!r2)then(some false)
 else((Qdz D (a6,a7,a8,a25,a26,a27)).bind fun r3=>
 bif (!r3)then(some false)
 else((K9 D (a9,a28)).bind fun r4=>
 bif (!r4)then(some false)
 else((K9 D (a10,a29)).bind fun r5=>
 bif (!r5)then(some false)
 else((vC D (a11,a30)).bind fun r6=>
 bif (!r6)then(some false)
 else(bif (!decide (a12=a31))then(some false)
 else(bif (!decide (a13=a32))then(some false)
 else((jb D (a14,a33)).bind fun r7=>
 bif (!r7)then(some false)
 else(bif (!decide (a15=a34))then(some false)
 else(bif (!decide (a16=a35))then(some false)
 else(bif (!decide (a17=a36))then(some false)
 else((vt D (a18,a37)).bind fun r8=>
 bif (!r8)then(some false)
 else(some true)))))))))))))))
theorem QoJ:OfF Qa4 QgC:=ofF 9
def Qeu:rF jG:=fun D L (a0,a1,a2,a3)=>
 (yP D (a0,a3)).bind fun r1=>
 bif (decide (r1<0))then(some (-1))
 else((yo D (a1,r1)).bind fun r2=>
 bif (decide (r2<0))then(some (-1))
 else((vx D (a2,r2)).bind fun r3=>
 bif (decide (r3<0))then(some (-1))
 else(some r3)))
theorem Qon:OfF jG Qeu:=ofF 10
def xC:rL ZH:=fun D L (y0,y1,y2,y3,y4)=>
 bif (decide (y1<(y2.length:Int)))then(bif inb y1 y2.length then
 let e2:=(rd1 yq y2 y1);
 (zo D e2).bind fun r3=>
 bif fits (ByteArray.size y0+ByteArray.size r3) 1 then
 bif fits (ByteArray.size (y0++r3)+ByteArray.size (⟨#[10]⟩:ByteArray)) 1 then
 ZH L (((y0++r3)++(⟨#[10]⟩:ByteArray)),(wR (y1+1)),y2,y3,y4)else none else none else none)
 else(some (y0,y2,y3,y4))
theorem jv:OfL ZH xC:=ofL 11 0
def xI:rL ZG:=fun D L (y0,y1,y2,y3,y4)=>
 bif (decide (y1<(y3.length:Int)))then(bif inb y1 y3.length then
 let e5:=(rd1 Qbe y3 y1);
 bif e5.2.2 then(bif fits (ByteArray.size y0+ByteArray.size (⟨#[42]⟩:ByteArray)) 1 then
 bif inb y1 y3.length then
 let e6:=(rd1 Qbe y3 y1);
 (jI D e6.2.1).bind fun r7=>
 (YZ D (r7.1,r7.2.1,r7.2.2.1,r7.2.2.2.1,r7.2.2.2.2.1,r7.2.2.2.2.2.1,r7.2.2.2.2.2.2.1,r7.2.2.2.2.2.2.2.1,r7.2.2.2.2.2.2.2.2.1,r7.2.2.2.2.2.2.2.2.2.1,r7.2.2.2.2.2.2.2.2.2.2.1,r7.2.2.2.2.2.2.2.2.2.2.2.1)).bind fun r8=>
 bif fits (ByteArray.size (y0++(⟨#[42]⟩:ByteArray))+ByteArray.size r8) 1 then
 bif fits (ByteArray.size ((y0++(⟨#[42]⟩:ByteArray))++r8)+ByteArray.size (⟨#[10]⟩:ByteArray)) 1 then
 ZG L ((((y0++(⟨#[42]⟩:ByteArray))++r8)++(⟨#[10]⟩:ByteArray)),(wR (y1+1)),y2,y3,y4)else none else none else none else none)
 else(bif inb y1 y3.length then
 let e9:=(rd1 Qbe y3 y1);
 (jI D e9.2.1).bind fun r10=>
 (YZ D (r10.1,r10.2.1,r10.2.2.1,r10.2.2.2.1,r10.2.2.2.2.1,r10.2.2.2.2.2.1,r10.2.2.2.2.2.2.1,r10.2.2.2.2.2.2.2.1,r10.2.2.2.2.2.2.2.2.1,r10.2.2.2.2.2.2.2.2.2.1,r10.2.2.2.2.2.2.2.2.2.2.1,r10.2.2.2.2.2.2.2.2.2.2.2.1)).bind fun r11=>
 bif fits (ByteArray.size y0+ByteArray.size r11) 1 then
 bif fits (ByteArray.size (y0++r11)+ByteArray.size (⟨#[10]⟩:ByteArray)) 1 then
 ZG L (((y0++r11)++(⟨#[10]⟩:ByteArray)),(wR (y1+1)),y2,y3,y4)else none else none else none)else none)
 else(some y0)
theorem jk:OfL ZG xI:=ofL 11 2
def Qbz:rF xd:=fun D L (a0,a1,a2)=>
 (jL D (a0,a1,a2)).bind fun r1=>
 bif (!r1)then(some (⟨#[]⟩:ByteArray))
 else((ZH L ((⟨#[]⟩:ByteArray),0,a0,a1,a2)).bind fun z4=>
 (ZG L (z4.1,0,z4.2)).bind fun z12=>
 some z12)
theorem QkK:OfF xd Qbz:=ofF 11
def Qd8:rF V3:=fun D L (a0,a1,a2)=>
 (vg D a0).bind fun r1=>
 (vI D a1).bind fun r2=>
 (yz D a2).bind fun r3=>
 some (r1,r2,r3)
theorem Ql8:OfF V3 Qd8:=ofF 12
def xJ:rL ZF:=fun D L (y0,y1,y2,y3,y4,y5,y6)=>
 bif (decide (y3<y2))then(bif inb y3 y1.length then
 let e2:=(rd1 yq y1 y3);
 (zb D e2).bind fun r3=>
 bif fits (ByteArray.size r3+ByteArray.size (⟨#[10]⟩:ByteArray)) 1 then
 bif fits (ByteArray.size y0+ByteArray.size (r3++(⟨#[10]⟩:ByteArray))) 1 then
 ZF L ((y0++(r3++(⟨#[10]⟩:ByteArray))),y1,y2,(wR (y3+1)),y4,y5,y6)else none else none else none)
 else(some (y0,y4,y5,y6))
theorem jV:OfL ZF xJ:=ofL 13 0
def xH:rL XO:=fun D L (y0,y1,y2,y3)=>
 bif (decide (y3<y2))then(bif inb y3 y1.length then
 let e5:=(rd1 Qbe y1 y3);
 bif e5.2.2 then(bif fits (ByteArray.size y0+ByteArray.size (⟨#[42]⟩:ByteArray)) 1 then
 (jf D e5.2.1).bind fun r6=>
 bif r6.2.2.2.2.2.2.2.2.2.2.2.2 then((VP D (r6.1,r6.2.1,r6.2.2.1,r6.2.2.2.1,r6.2.2.2.2.1,r6.2.2.2.2.2.1,r6.2.2.2.2.2.2.1,r6.2.2.2.2.2.2.2.1,r6.2.2.2.2.2.2.2.2.1,r6.2.2.2.2.2.2.2.2.2.1,r6.2.2.2.2.2.2.2.2.2.2.1,r6.2.2.2.2.2.2.2.2.2.2.2.1)).bind fun r7=>
 bif fits (ByteArray.size r7+ByteArray.size (⟨#[10]⟩:ByteArray)) 1 then
 bif fits (ByteArray.size (y0++(⟨#[42]⟩:ByteArray))+ByteArray.size (r7++(⟨#[10]⟩:ByteArray))) 1 then
 XO L (((y0++(⟨#[42]⟩:ByteArray))++(r7++(⟨#[10]⟩:ByteArray))),y1,y2,(wR (y3+1)))else none else none)
 else(bif fits (ByteArray.size (y0++(⟨#[42]⟩:ByteArray))+ByteArray.size (⟨#[63,10]⟩:ByteArray)) 1 then
 XO L (((y0++(⟨#[42]⟩:ByteArray))++(⟨#[63,10]⟩:ByteArray)),y1,y2,(wR (y3+1)))else none)else none)
 else((jf D e5.2.1).bind fun r8=>
 bif r8.2.2.2.2.2.2.2.2.2.2.2.2 then((VP D (r8.1,r8.2.1,r8.2.2.1,r8.2.2.2.1,r8.2.2.2.2.1,r8.2.2.2.2.2.1,r8.2.2.2.2.2.2.1,r8.2.2.2.2.2.2.2.1,r8.2.2.2.2.2.2.2.2.1,r8.2.2.2.2.2.2.2.2.2.1,r8.2.2.2.2.2.2.2.2.2.2.1,r8.2.2.2.2.2.2.2.2.2.2.2.1)).bind fun r9=>
 bif fits (ByteArray.size r9+ByteArray.size (⟨#[10]⟩:ByteArray)) 1 then
 bif fits (ByteArray.size y0+ByteArray.size (r9++(⟨#[10]⟩:ByteArray))) 1 then
 XO L ((y0++(r9++(⟨#[10]⟩:ByteArray))),y1,y2,(wR (y3+1)))else none else none)
 else(bif fits (ByteArray.size y0+ByteArray.size (⟨#[63,10]⟩:ByteArray)) 1 then
 XO L ((y0++(⟨#[63,10]⟩:ByteArray)),y1,y2,(wR (y3+1)))else none))else none)
 else(some y0)
theorem jn:OfL XO xH:=ofL 13 2
def QbC:rF qV:=fun D L (a0,a1,a2)=>
 (vm D (a0,a1,a2)).bind fun r1=>
 bif (!r1)then(some (⟨#[]⟩:ByteArray))
 else((ZF L ((⟨#[]⟩:ByteArray),a0,(a0.length:Int),0,a0,a1,a2)).bind fun z4=>
 (XO L (z4.1,z4.2.2.1,(z4.2.2.1.length:Int),0)).bind fun z10=>
 some z10)
theorem QkI:OfF qV QbC:=ofF 13
def Qd0:rF va:=fun D L (a0,a1,a2,a3,a4,a5)=>
 (j7 D (a0,a3)).bind fun r1=>
 bif (!r1)then(some false)
 else((yS D (a1,a4)).bind fun r2=>
 bif (!r2)then(some false)
 else((vD D (a2,a5)).bind fun r3=>
 bif (!r3)then(some false)
 else(some true)))
theorem Qnq:OfF va Qd0:=ofF 14
def QeH:rF VJ:=fun D L (a0,a1,a2)=>
 (je D (a0,a2)).bind fun r1=>
 bif (decide (r1<0))then(some (-1))
 else((zn D (a1,r1)).bind fun r2=>
 bif (decide (r2<0))then(some (-1))
 else(some r2))
theorem QmY:OfF VJ QeH:=ofF 15
def QgQ:rF Qbv:=fun D L (a0,a1,a2)=>
 (Vb D (a0,a2)).bind fun r1=>
 bif (decide (r1<0))then(some (-1))
 else(some r1)
theorem Qps:OfF Qbv QgQ:=ofF 16
def QhT:rF QdF:=fun D L (a0,a1,a2,a3)=>
 (zl D (a2,a3)).bind fun r1=>
 bif (decide (r1<0))then(some (-1))
 else(some r1)
theorem QqV:OfF QdF QhT:=ofF 17
def QgO:rF Vb:=fun D L (a0,a1)=>
 bif (decide ((wR (a1 - (a0.length:Int)))<0))then(some (-1))
 else(some (wR (a1 - (a0.length:Int))))
theorem Qo8:OfF Vb QgO:=ofF 18
def JZ:rL K7:=fun D L (y0,y1,y2)=>
 bif (decide (y2<(y0.length:Int)))then(bif inb y2 y0.length then
 (Vb D ((rd1 ([]:List Int) y0 y2),y1)).bind fun r1=>
 bif (decide (r1<0))then(some (Sum.inl (-1)))
 else(K7 L (y0,r1,(wR (y2+1))))else none)
 else(some (Sum.inr y1))
theorem qI:OfL K7 JZ:=ofL 19 0
def Qd6:rF vW:=fun D L (a0,a1)=>
 bif (decide ((wR (a1 - (a0.length:Int)))<0))then(some (-1))
 else((K7 L (a0,(wR (a1 - (a0.length:Int))),0)).bind fun z2=>
 Qo z2 (fun u3=>
 some u3)
 (fun z4=>
 some z4))
theorem QmR:OfF vW Qd6:=ofF 19
def QeW:rF yw:=fun D L (a0,a1)=>
 bif (decide ((wR (a1 - (a0.length:Int)))<0))then(some (-1))
 else(some (wR (a1 - (a0.length:Int))))
theorem Qmx:OfF yw QeW:=ofF 20
def Qfu:rF v7:=fun D L (a0,a1)=>
 bif (decide ((wR (a1 - (a0.length:Int)))<0))then(some (-1))
 else(some (wR (a1 - (a0.length:Int))))
theorem Qor:OfF v7 Qfu:=ofF 21
def Qau:rL VD:=fun D L (y0,y1,y2,y3,y4,y5,y6,y7,y8,y9,y10,y11,y12,y13,y14,y15,y16,y17,y18,y19)=>
 bif (decide (y0<y2))then(bif inb y0 y11.length then
 (xS D (y7,y8,y9)).bind fun r11=>
 bif (decide (r11<(rd1 (0:Int) y11 y0)))then(some (Sum.inl false))
 else(VD L ((wR (y0+1)),y1,y2,y3,y4,y5,y6,y7,y8,y9,y10,y11,y12,y13,y14,y15,y16,y17,y18,y19))else none)
 else(some (Sum.inr (y1,y2,y3,y4,y5,y6,y7,y8,y9,y10,y11,y12,y13,y14,y15,y16,y17,y18,y19)))
theorem Qdk:OfL VD Qau:=ofL 22 0
def QaN:rL VO:=fun D L (y0,y1,y2,y3,y4,y5,y6,y7,y8,y9,y10,y11,y12,y13,y14,y15,y16,y17,y18,y19)=>
 bif (decide (y0<5))then(bif inb y0 y19.length then
 let e20:=(rd1 Qf6 y19 y0);
 (QD D (e20.1,0,1000)).bind fun r21=>
 bif (!r21)then(some (Sum.inl false))
 else((QD D (e20.2.1,0,100000)).bind fun r22=>
 bif (!r22)then(some (Sum.inl false))
 else((QD D (e20.2.2,0,y18)).bind fun r23=>
 bif (!r23)then(some (Sum.inl false))
 else(VO L ((wR (y0+1)),y1,y2,y3,y4,y5,y6,y7,y8,y9,y10,y11,y12,y13,y14,y15,y16,y17,y18,y19))))else none)
 else(some (Sum.inr (y1,y2,y3,y4,y5,y6,y7,y8,y9,y10,y11,y12,y13,y14,y15,y16,y17,y18,y19)))
theorem Qdj:OfL VO QaN:=ofL 22 2
def QfV:rF JE:=fun D L (a0,a1,a2,a3,a4,a5,a6,a7,a8,a9,a10,a11,a12,a13,a14,a15,a16,a17,a18)=>
 (QD D (a1,1,5)).bind fun r1=>
 bif (!r1)then(some false)
 else((QD D (a0,0,(wR (a1 - 1)))).bind fun r2=>
 bif (!r2)then(some false)
 else((Zd D (a2,a3)).bind fun r3=>
 bif (!r3)then(some false)
 else((Qbc D (a2,a3)).bind fun r4=>
 (jJ D (a4,a5,r4)).bind fun r5=>
 bif (!r5)then(some false)
 else((j9 D (a6,a7,a8)).bind fun r6=>
 bif (!r6)then(some false)
 else((jy D (a9,a1)).bind fun r7=>
 bif (!r7)then(some false)
 else((jy D (a10,a1)).bind fun r8=>
 bif (!r8)then(some false)
 else(bif inb a0 a9.length then
 (xS D (a6,a7,a8)).bind fun r9=>
 bif (!decide ((rd1 (0:Int) a9 a0)=r9))then(some false)
 else((js D (a11,a1)).bind fun r10=>
 bif (!r10)then(some false)
 else((VD L (0,a0,a1,a2,a3,a4,a5,a6,a7,a8,a9,a10,a11,a12,a13,a14,a15,a16,a17,a18)).bind fun z12=>
 Qo z12 (fun u13=>
 some u13)
 (fun z14=>
 (QD D (z14.2.2.2.2.2.2.2.2.2.2.2.2.1,0,100000)).bind fun r15=>
 bif (!r15)then(some false)
 else((QD D (z14.2.2.2.2.2.2.2.2.2.2.2.2.2.2.2.2.2.1,0,100000)).bind fun r16=>
 bif (!r16)then(some false)
 else((QD D (z14.2.2.2.2.2.2.2.2.2.2.2.2.2.1,1,4)).bind fun r17=>
 bif (!r17)then(some false)
 else((QD D (z14.2.2.2.2.2.2.2.2.2.2.2.2.2.2.2.1,1,20)).bind fun r18=>
 bif (!r18)then(some false)
 else((QD D (z14.2.2.2.2.2.2.2.2.2.2.2.2.2.2.2.2.1,1,50)).bind fun r19=>
 bif (!r19)then(some false)
 else(bif (!decide ((z14.2.2.2.2.2.2.2.2.2.2.2.2.2.2.2.2.2.2.length:Int)=5))then(some false)
 else((VO L (0,z14)).bind fun z24=>
 Qo z24 (fun u25=>
 some u25)
 (fun z26=>
 (vX D z26).bind fun r27=>
 some r27))))))))))else none)))))))
theorem Qov:OfF JE QfV:=ofF 22
def qW:rL ZN:=fun D L (y0,y1,y2)=>
 bif (!decide (y0=0))then(bif decide ((10:Int)≠0)then
 bif (decide ((Int.tmod y0 10)<0))then(bif fits (ByteArray.size (QA [(IntKind.wrap .u8 (wR (48+(wR (0 - (Int.tmod y0 10))))))])+ByteArray.size y2) 1 then
 bif decide ((10:Int)≠0)then
 ZN L ((wR (Int.tdiv y0 10)),y1,((QA [(IntKind.wrap .u8 (wR (48+(wR (0 - (Int.tmod y0 10))))))])++y2))else none else none)
 else(bif fits (ByteArray.size (QA [(IntKind.wrap .u8 (wR (48+(Int.tmod y0 10))))])+ByteArray.size y2) 1 then
 bif decide ((10:Int)≠0)then
 ZN L ((wR (Int.tdiv y0 10)),y1,((QA [(IntKind.wrap .u8 (wR (48+(Int.tmod y0 10))))])++y2))else none else none)else none)
 else(some (y1,y2))
theorem Qc0:OfL ZN qW:=ofL 23 0
def QfZ:rF QK:=fun D L a0=>
 bif (decide (a0=0))then(some (⟨#[48]⟩:ByteArray))
 else((ZN L (a0,(decide (a0<0)),(⟨#[]⟩:ByteArray))).bind fun z1=>
 bif z1.1 then(bif fits (ByteArray.size (⟨#[45]⟩:ByteArray)+ByteArray.size z1.2) 1 then
 some ((⟨#[45]⟩:ByteArray)++z1.2)else none)
 else(some z1.2))
theorem QoT:OfF QK QfZ:=ofF 23
def yT:rL Zz:=fun D L (y0,y1,y2)=>
 bif (decide (y2<(y0.length:Int)))then(bif (decide (0<y2))then(bif fits (ByteArray.size y1+ByteArray.size (⟨#[44]⟩:ByteArray)) 1 then
 bif inb y2 y0.length then
 (QK D (rd1 (0:Int) y0 y2)).bind fun r1=>
 bif fits (ByteArray.size (y1++(⟨#[44]⟩:ByteArray))+ByteArray.size r1) 1 then
 Zz L (y0,((y1++(⟨#[44]⟩:ByteArray))++r1),(wR (y2+1)))else none else none else none)
 else(bif inb y2 y0.length then
 (QK D (rd1 (0:Int) y0 y2)).bind fun r2=>
 bif fits (ByteArray.size y1+ByteArray.size r2) 1 then
 Zz L (y0,(y1++r2),(wR (y2+1)))else none else none))
 else(some y1)
theorem QcE:OfL Zz yT:=ofL 24 0
def QfO:rF qO:=fun D L a0=>
 (Zz L (a0,(⟨#[]⟩:ByteArray),0)).bind fun z3=>
 some z3
theorem QnS:OfF qO QfO:=ofF 24
def Qcq:rF VN:=fun D L a0=>
 bif (Xm a0 (⟨#[]⟩:ByteArray))then(some (⟨#[]⟩:ByteArray))
 else(bif fits (ByteArray.size (⟨#[32]⟩:ByteArray)+ByteArray.size a0) 1 then
 some ((⟨#[32]⟩:ByteArray)++a0)else none)
theorem QkJ:OfF VN Qcq:=ofF 25
def xK:rL X3:=fun D L (y0,y1,y2,y3)=>
 bif (decide (y1<(y2.length:Int)))then(bif (!Xm y0 (⟨#[]⟩:ByteArray))then(bif fits (ByteArray.size y0+ByteArray.size (⟨#[32]⟩:ByteArray)) 1 then
 bif inb y1 y2.length then
 let e1:=(rd1 Ya y2 y1);
 (QK D e1.1).bind fun r2=>
 bif fits (ByteArray.size (y0++(⟨#[32]⟩:ByteArray))+ByteArray.size r2) 1 then
 bif fits (ByteArray.size ((y0++(⟨#[32]⟩:ByteArray))++r2)+ByteArray.size (⟨#[61]⟩:ByteArray)) 1 then
 bif inb y1 y2.length then
 let e3:=(rd1 Ya y2 y1);
 (VQ D e3.2).bind fun r4=>
 bif fits (ByteArray.size (((y0++(⟨#[32]⟩:ByteArray))++r2)++(⟨#[61]⟩:ByteArray))+ByteArray.size r4) 1 then
 X3 L (((((y0++(⟨#[32]⟩:ByteArray))++r2)++(⟨#[61]⟩:ByteArray))++r4),(wR (y1+1)),y2,y3)else none else none else none else none else none else none)
 else(bif inb y1 y2.length then
 let e5:=(rd1 Ya y2 y1);
 (QK D e5.1).bind fun r6=>
 bif fits (ByteArray.size y0+ByteArray.size r6) 1 then
 bif fits (ByteArray.size (y0++r6)+ByteArray.size (⟨#[61]⟩:ByteArray)) 1 then
 bif inb y1 y2.length then
 let e7:=(rd1 Ya y2 y1);
 (VQ D e7.2).bind fun r8=>
 bif fits (ByteArray.size ((y0++r6)++(⟨#[61]⟩:ByteArray))+ByteArray.size r8) 1 then
 X3 L ((((y0++r6)++(⟨#[61]⟩:ByteArray))++r8),(wR (y1+1)),y2,y3)else none else none else none else none else none))
 else(some (y0,y2,y3))
theorem jU:OfL X3 xK:=ofL 26 0
def xA:rL ZI:=fun D L (y0,y1,y2,y3)=>
 bif (decide (y1<(y3.length:Int)))then(bif (!Xm y0 (⟨#[]⟩:ByteArray))then(bif fits (ByteArray.size y0+ByteArray.size (⟨#[32]⟩:ByteArray)) 1 then
 bif fits (ByteArray.size (y0++(⟨#[32]⟩:ByteArray))+ByteArray.size (⟨#[45]⟩:ByteArray)) 1 then
 bif inb y1 y3.length then
 let e10:=(rd1 Xk y3 y1);
 (QK D e10.1).bind fun r11=>
 bif fits (ByteArray.size ((y0++(⟨#[32]⟩:ByteArray))++(⟨#[45]⟩:ByteArray))+ByteArray.size r11) 1 then
 bif fits (ByteArray.size (((y0++(⟨#[32]⟩:ByteArray))++(⟨#[45]⟩:ByteArray))++r11)+ByteArray.size (⟨#[60]⟩:ByteArray)) 1 then
 bif inb y1 y3.length then
 let e12:=(rd1 Xk y3 y1);
 (QK D e12.2).bind fun r13=>
 bif fits (ByteArray.size ((((y0++(⟨#[32]⟩:ByteArray))++(⟨#[45]⟩:ByteArray))++r11)++(⟨#[60]⟩:ByteArray))+ByteArray.size r13) 1 then
 ZI L ((((((y0++(⟨#[32]⟩:ByteArray))++(⟨#[45]⟩:ByteArray))++r11)++(⟨#[60]⟩:ByteArray))++r13),(wR (y1+1)),y2,y3)else none else none else none else none else none else none else none)
 else(bif fits (ByteArray.size y0+ByteArray.size (⟨#[45]⟩:ByteArray)) 1 then
 bif inb y1 y3.length then
 let e14:=(rd1 Xk y3 y1);
 (QK D e14.1).bind fun r15=>
 bif fits (ByteArray.size (y0++(⟨#[45]⟩:ByteArray))+ByteArray.size r15) 1 then
 bif fits (ByteArray.size ((y0++(⟨#[45]⟩:ByteArray))++r15)+ByteArray.size (⟨#[60]⟩:ByteArray)) 1 then
 bif inb y1 y3.length then
 let e16:=(rd1 Xk y3 y1);
 (QK D e16.2).bind fun r17=>
 bif fits (ByteArray.size (((y0++(⟨#[45]⟩:ByteArray))++r15)++(⟨#[60]⟩:ByteArray))+ByteArray.size r17) 1 then
 ZI L (((((y0++(⟨#[45]⟩:ByteArray))++r15)++(⟨#[60]⟩:ByteArray))++r17),(wR (y1+1)),y2,y3)else none else none else none else none else none else none))
 else(some y0)
theorem vL:OfL ZI xA:=ofL 26 2
def QbM:rF VH:=fun D L (a0,a1)=>
 (X3 L ((⟨#[]⟩:ByteArray),0,a0,a1)).bind fun z9=>
 (ZI L (z9.1,0,z9.2)).bind fun z18=>
 some z18
theorem QkL:OfF VH QbM:=ofF 26
end
end Go.Proofs.YtameehmkoglkeaaGreatDoor.M
