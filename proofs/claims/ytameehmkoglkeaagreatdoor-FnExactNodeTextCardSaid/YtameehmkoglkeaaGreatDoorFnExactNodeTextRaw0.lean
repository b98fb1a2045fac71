/- Plain forms of the functions that FnExactNodeText reaches, part 0. No conditions. -/
import Derived.Test.YtameehmkoglkeaaGreatDoorFnExactNodeTextTab
set_option linter.all false
namespace Go.Proofs.YtameehmkoglkeaaGreatDoor.M
open Go Go.Eng Go.Proofs
set_option linter.unusedVariables false
noncomputable section
def Vo:rF Kb:=fun D L (a0,a1,a2,a3,a4,a5,a6,a7,a8,a9,a10,a11,a12,a13,a14,a15,a16,a17,a18)=>
 (zI D (a0,a1,a2,a3,a4,a5,a6,a7,a8,a9,a10,a11,a12,a13,a14,a15,a16,a17,a18,1048576)).bind fun r1=>
 bif (decide (r1<0))then(some true)
 else((KH D (a0,a1,a2,a3,a4,a5,a6,a7,a8,a9,a10,a11,a12,a13,a14,a15,a16,a17,a18)).bind fun r2=>
 (Jt D r2).bind fun r3=>
 (KH D (a0,a1,a2,a3,a4,a5,a6,a7,a8,a9,a10,a11,a12,a13,a14,a15,a16,a17,a18)).bind fun r4=>
 (Ju D r4).bind fun r5=>
 bif (!ZG r5 r3)then(some false)
 else((KH D (a0,a1,a2,a3,a4,a5,a6,a7,a8,a9,a10,a11,a12,a13,a14,a15,a16,a17,a18)).bind fun r6=>
 (zw D (r4.1,r4.2.1,r4.2.2.1,r4.2.2.2.1,r4.2.2.2.2.1,r4.2.2.2.2.2.1,r4.2.2.2.2.2.2.1,r4.2.2.2.2.2.2.2.1,r4.2.2.2.2.2.2.2.2.1,r4.2.2.2.2.2.2.2.2.2.1,r4.2.2.2.2.2.2.2.2.2.2.1,r4.2.2.2.2.2.2.2.2.2.2.2.1,r4.2.2.2.2.2.2.2.2.2.2.2.2.1,r4.2.2.2.2.2.2.2.2.2.2.2.2.2.1,r4.2.2.2.2.2.2.2.2.2.2.2.2.2.2.1,r4.2.2.2.2.2.2.2.2.2.2.2.2.2.2.2.1,r4.2.2.2.2.2.2.2.2.2.2.2.2.2.2.2.2.1,r4.2.2.2.2.2.2.2.2.2.2.2.2.2.2.2.2.2.1,r4.2.2.2.2.2.2.2.2.2.2.2.2.2.2.2.2.2.2,r6)).bind fun r7=>
 bif (!r7)then(some false)
 else(some true)))
theorem QaQ:OfF Kb Vo:=ofF 3
def Qa7:rF zI:=fun D L (a0,a1,a2,a3,a4,a5,a6,a7,a8,a9,a10,a11,a12,a13,a14,a15,a16,a17,a18,a19)=>
 (K8 D (a2,a3,a19)).bind fun r1=>
 bif (decide (r1<0))then(some (-1))
 else((zK D (a4,a5,r1)).bind fun r2=>
 bif (decide (r2<0))then(some (-1))
 else((j0 D (a6,a7,a8,r2)).bind fun r3=>
 bif (decide (r3<0))then(some (-1))
 else((Yw D (a9,r3)).bind fun r4=>
 bif (decide (r4<0))then(some (-1))
 else((Yw D (a10,r4)).bind fun r5=>
 bif (decide (r5<0))then(some (-1))
 else((xe D (a11,r5)).bind fun r6=>
 bif (decide (r6<0))then(some (-1))
 else((J8 D (a14,r6)).bind fun r7=>
 bif (decide (r7<0))then(some (-1))
 else((qv D (a18,r7)).bind fun r8=>
 bif (decide (r8<0))then(some (-1))
 else(some r8))))))))
theorem QiM:OfF zI Qa7:=ofF 5
def jC:rF Jt:=fun D L (a0,a1,a2,a3,a4,a5,a6,a7,a8,a9,a10,a11,a12,a13,a14,a15,a16,a17,a18)=>
 (V7 D (a0,a1,a2,a3,a4,a5,a6,a7,a8,a9,a10,a11,a12,a13,a14,a15,a16,a17,a18)).bind fun r1=>
 bif (!r1)then(some (⟨#[]⟩:ByteArray))
 else((QE D a0).bind fun r2=>
 bif fits (ByteArray.size (⟨#[110]⟩:ByteArray)+ByteArray.size r2) 1 then
 bif fits (ByteArray.size ((⟨#[110]⟩:ByteArray)++r2)+ByteArray.size (⟨#[32,99]⟩:ByteArray)) 1 then
 (QE D a17).bind fun r3=>
 bif fits (ByteArray.size (((⟨#[110]⟩:ByteArray)++r2)++(⟨#[32,99]⟩:ByteArray))+ByteArray.size r3) 1 then
 bif fits (ByteArray.size ((((⟨#[110]⟩:ByteArray)++r2)++(⟨#[32,99]⟩:ByteArray))++r3)+ByteArray.size (⟨#[32]⟩:ByteArray)) 1 then
 (Ve D a9).bind fun r4=>
 bif fits (ByteArray.size (((((⟨#[110]⟩:ByteArray)++r2)++(⟨#[32,99]⟩:ByteArray))++r3)++(⟨#[32]⟩:ByteArray))+ByteArray.size r4) 1 then
 bif fits (ByteArray.size ((((((⟨#[110]⟩:ByteArray)++r2)++(⟨#[32,99]⟩:ByteArray))++r3)++(⟨#[32]⟩:ByteArray))++r4)+ByteArray.size (⟨#[32]⟩:ByteArray)) 1 then
 (Ve D a10).bind fun r5=>
 bif fits (ByteArray.size (((((((⟨#[110]⟩:ByteArray)++r2)++(⟨#[32,99]⟩:ByteArray))++r3)++(⟨#[32]⟩:ByteArray))++r4)++(⟨#[32]⟩:ByteArray))+ByteArray.size r5) 1 then
 (Vu D (a2,a3)).bind fun r6=>
 (VS D r6).bind fun r7=>
 bif fits (ByteArray.size ((((((((⟨#[110]⟩:ByteArray)++r2)++(⟨#[32,99]⟩:ByteArray))++r3)++(⟨#[32]⟩:ByteArray))++r4)++(⟨#[32]⟩:ByteArray))++r5)+ByteArray.size r7) 1 then
 some (((((((((⟨#[110]⟩:ByteArray)++r2)++(⟨#[32,99]⟩:ByteArray))++r3)++(⟨#[32]⟩:ByteArray))++r4)++(⟨#[32]⟩:ByteArray))++r5)++r7)else none else none else none else none else none else none else none else none)
theorem QfJ:OfF Jt jC:=ofF 6
def Qbx:rF KH:=fun D L (a0,a1,a2,a3,a4,a5,a6,a7,a8,a9,a10,a11,a12,a13,a14,a15,a16,a17,a18)=>
 (Vp D (a2,a3)).bind fun r1=>
 (zq D (a4,a5)).bind fun r2=>
 (jV D (a6,a7,a8)).bind fun r3=>
 (Yy D a9).bind fun r4=>
 (Yy D a10).bind fun r5=>
 (xi D a11).bind fun r6=>
 (xD D a14).bind fun r7=>
 (xy D a18).bind fun r8=>
 some (a0,a1,r1.1,r1.2,r2.1,r2.2,r3.1,r3.2.1,r3.2.2,r4,r5,r6,a12,a13,r7,a15,a16,a17,r8)
theorem Qh0:OfF KH Qbx:=ofF 7
def jN:rF Ju:=fun D L (a0,a1,a2,a3,a4,a5,a6,a7,a8,a9,a10,a11,a12,a13,a14,a15,a16,a17,a18)=>
 (V6 D (a0,a1,a2,a3,a4,a5,a6,a7,a8,a9,a10,a11,a12,a13,a14,a15,a16,a17,a18)).bind fun r1=>
 bif (!r1)then(some (⟨#[]⟩:ByteArray))
 else((QP D a0).bind fun r2=>
 bif fits (ByteArray.size (⟨#[110]⟩:ByteArray)+ByteArray.size r2) 1 then
 bif fits (ByteArray.size ((⟨#[110]⟩:ByteArray)++r2)+ByteArray.size (⟨#[32,99]⟩:ByteArray)) 1 then
 (QP D a17).bind fun r3=>
 bif fits (ByteArray.size (((⟨#[110]⟩:ByteArray)++r2)++(⟨#[32,99]⟩:ByteArray))+ByteArray.size r3) 1 then
 bif fits (ByteArray.size ((((⟨#[110]⟩:ByteArray)++r2)++(⟨#[32,99]⟩:ByteArray))++r3)+ByteArray.size (⟨#[32]⟩:ByteArray)) 1 then
 (Vt D a9).bind fun r4=>
 bif fits (ByteArray.size (((((⟨#[110]⟩:ByteArray)++r2)++(⟨#[32,99]⟩:ByteArray))++r3)++(⟨#[32]⟩:ByteArray))+ByteArray.size r4) 1 then
 bif fits (ByteArray.size ((((((⟨#[110]⟩:ByteArray)++r2)++(⟨#[32,99]⟩:ByteArray))++r3)++(⟨#[32]⟩:ByteArray))++r4)+ByteArray.size (⟨#[32]⟩:ByteArray)) 1 then
 (Vt D a10).bind fun r5=>
 bif fits (ByteArray.size (((((((⟨#[110]⟩:ByteArray)++r2)++(⟨#[32,99]⟩:ByteArray))++r3)++(⟨#[32]⟩:ByteArray))++r4)++(⟨#[32]⟩:ByteArray))+ByteArray.size r5) 1 then
 (VO D (a2,a3)).bind fun r6=>
 bif (!ZG r6 (⟨#[]⟩:ByteArray))then(bif fits (ByteArray.size (⟨#[32]⟩:ByteArray)+ByteArray.size r6) 1 then
 bif fits (ByteArray.size ((((((((⟨#[110]⟩:ByteArray)++r2)++(⟨#[32,99]⟩:ByteArray))++r3)++(⟨#[32]⟩:ByteArray))++r4)++(⟨#[32]⟩:ByteArray))++r5)+ByteArray.size ((⟨#[32]⟩:ByteArray)++r6)) 1 then
 some (((((((((⟨#[110]⟩:ByteArray)++r2)++(⟨#[32,99]⟩:ByteArray))++r3)++(⟨#[32]⟩:ByteArray))++r4)++(⟨#[32]⟩:ByteArray))++r5)++((⟨#[32]⟩:ByteArray)++r6))else none else none)
 else(some ((((((((⟨#[110]⟩:ByteArray)++r2)++(⟨#[32,99]⟩:ByteArray))++r3)++(⟨#[32]⟩:ByteArray))++r4)++(⟨#[32]⟩:ByteArray))++r5))else none else none else none else none else none else none else none)
theorem QfS:OfF Ju jN:=ofF 8
def Qa8:rF zw:=fun D L (a0,a1,a2,a3,a4,a5,a6,a7,a8,a9,a10,a11,a12,a13,a14,a15,a16,a17,a18,a19,a20,a21,a22,a23,a24,a25,a26,a27,a28,a29,a30,a31,a32,a33,a34,a35,a36,a37)=>
 bif (!decide (a0=a19))then(some false)
 else(bif (!decide (a1=a20))then(some false)
 else((Vm D (a2,a3,a21,a22)).bind fun r1=>
 bif (!r1)then(some false)
 else((zH D (a4,a5,a23,a24)).bind fun r2=>
 bif (!r2)then(some false)
 else((jW D (a6,a7,a8,a25,a26,a27)).bind fun r3=>
 bif (!r3)then(some false)
 else((YD D (a9,a28)).bind fun r4=>
 bif (!r4)then(some false)
 else((YD D (a10,a29)).bind fun r5=>
 bif (!r5)then(some false)
 else((qI D (a11,a30)).bind fun r6=>
 bif (!r6)then(some false)
 else(bif (!decide (a12=a31))then(some false)
 else(bif (!decide (a13=a32))then(some false)
 else((qx D (a14,a33)).bind fun r7=>
 bif (!r7)then(some false)
 else(bif (!decide (a15=a34))then(some false)
 else(bif (!decide (a16=a35))then(some false)
 else(bif (!decide (a17=a36))then(some false)
 else((qo D (a18,a37)).bind fun r8=>
 bif (!r8)then(some false)
 else(some true)))))))))))))))
theorem Qiy:OfF zw Qa8:=ofF 9
def Qaz:rF K8:=fun D L (a0,a1,a2)=>
 (J7 D (a0,a2)).bind fun r1=>
 bif (decide (r1<0))then(some (-1))
 else((Jo D (a1,r1)).bind fun r2=>
 bif (decide (r2<0))then(some (-1))
 else(some r2))
theorem Qg9:OfF K8 Qaz:=ofF 15
def QbH:rF zK:=fun D L (a0,a1,a2)=>
 (Yw D (a0,a2)).bind fun r1=>
 bif (decide (r1<0))then(some (-1))
 else(some r1)
theorem Qh2:OfF zK QbH:=ofF 16
def Qcg:rF j0:=fun D L (a0,a1,a2,a3)=>
 (Jl D (a2,a3)).bind fun r1=>
 bif (decide (r1<0))then(some (-1))
 else(some r1)
theorem QjH:OfF j0 Qcg:=ofF 17
def Qa5:rF Yw:=fun D L (a0,a1)=>
 bif (decide ((wR (a1 - (a0.length:Int)))<0))then(some (-1))
 else(some (wR (a1 - (a0.length:Int))))
theorem Qiv:OfF Yw Qa5:=ofF 18
def KW:rL Yj:=fun D L (y0,y1,y2)=>
 bif (decide (y2<(y0.length:Int)))then(bif inb y2 y0.length then
 (Yw D ((rd1 ([]:List Int) y0 y2),y1)).bind fun r1=>
 bif (decide (r1<0))then(some (Sum.inl (-1)))
 else(Yj L (y0,r1,(wR (y2+1))))else none)
 else(some (Sum.inr y1))
theorem Vs:OfL Yj KW:=ofL 19 0
def Qai:rF xe:=fun D L (a0,a1)=>
 bif (decide ((wR (a1 - (a0.length:Int)))<0))then(some (-1))
 else((Yj L (a0,(wR (a1 - (a0.length:Int))),0)).bind fun z2=>
 Qr z2 (fun u3=>
 some u3)
 (fun z4=>
 some z4))
theorem QgM:OfF xe Qai:=ofF 19
def QaB:rF J8:=fun D L (a0,a1)=>
 bif (decide ((wR (a1 - (a0.length:Int)))<0))then(some (-1))
 else(some (wR (a1 - (a0.length:Int))))
theorem Qg6:OfF J8 QaB:=ofF 20
def vK:rF qv:=fun D L (a0,a1)=>
 bif (decide ((wR (a1 - (a0.length:Int)))<0))then(some (-1))
 else(some (wR (a1 - (a0.length:Int))))
theorem Qhi:OfF qv vK:=ofF 21
def zl:rL YN:=fun D L (y0,y1,y2,y3,y4,y5,y6,y7,y8,y9,y10,y11,y12,y13,y14,y15,y16,y17,y18,y19)=>
 bif (decide (y0<y2))then(bif inb y0 y11.length then
 (Jg D (y7,y8,y9)).bind fun r11=>
 bif (decide (r11<(rd1 (0:Int) y11 y0)))then(some (Sum.inl false))
 else(YN L ((wR (y0+1)),y1,y2,y3,y4,y5,y6,y7,y8,y9,y10,y11,y12,y13,y14,y15,y16,y17,y18,y19))else none)
 else(some (Sum.inr (y1,y2,y3,y4,y5,y6,y7,y8,y9,y10,y11,y12,y13,y14,y15,y16,y17,y18,y19)))
theorem jA:OfL YN zl:=ofL 22 0
def zc:rL Y2:=fun D L (y0,y1,y2,y3,y4,y5,y6,y7,y8,y9,y10,y11,y12,y13,y14,y15,y16,y17,y18,y19)=>
 bif (decide (y0<5))then(bif inb y0 y19.length then
 let e20:=(rd1 QbF y19 y0);
 (QC D (e20.1,0,1000)).bind fun r21=>
 bif (!r21)then(some (Sum.inl false))
 else((QC D (e20.2.1,0,100000)).bind fun r22=>
 bif (!r22)then(some (Sum.inl false))
 else((QC D (e20.2.2,0,y18)).bind fun r23=>
 bif (!r23)then(some (Sum.inl false))
 else(Y2 L ((wR (y0+1)),y1,y2,y3,y4,y5,y6,y7,y8,y9,y10,y11,y12,y13,y14,y15,y16,y17,y18,y19))))else none)
 else(some (Sum.inr (y1,y2,y3,y4,y5,y6,y7,y8,y9,y10,y11,y12,y13,y14,y15,y16,y17,y18,y19)))
theorem jL:OfL Y2 zc:=ofL 22 2
def QaU:rF V7:=fun D L (a0,a1,a2,a3,a4,a5,a6,a7,a8,a9,a10,a11,a12,a13,a14,a15,a16,a17,a18)=>
 (QC D (a1,1,5)).bind fun r1=>
 bif (!r1)then(some false)
 else((QC D (a0,0,(wR (a1 - 1)))).bind fun r2=>
 bif (!r2)then(some false)
 else((ZM D (a2,a3)).bind fun r3=>
 bif (!r3)then(some false)
 else((zG D (a2,a3)).bind fun r4=>
 (qX D (a4,a5,r4)).bind fun r5=>
 bif (!r5)then(some false)
 else((qE D (a6,a7,a8)).bind fun r6=>
 bif (!r6)then(some false)
 else((qH D (a9,a1)).bind fun r7=>
 bif (!r7)then(some false)
 else((qH D (a10,a1)).bind fun r8=>
 bif (!r8)then(some false)
 else(bif inb a0 a9.length then
 (Jg D (a6,a7,a8)).bind fun r9=>
 bif (!decide ((rd1 (0:Int) a9 a0)=r9))then(some false)
 else((J2 D (a11,a1)).bind fun r10=>
 bif (!r10)then(some false)
 else((YN L (0,a0,a1,a2,a3,a4,a5,a6,a7,a8,a9,a10,a11,a12,a13,a14,a15,a16,a17,a18)).bind fun z12=>
 Qr z12 (fun u13=>
 some u13)
 (fun z14=>
 (QC D (z14.2.2.2.2.2.2.2.2.2.2.2.2.1,0,100000)).bind fun r15=>
 bif (!r15)then(some false)
 else((QC D (z14.2.2.2.2.2.2.2.2.2.2.2.2.2.2.2.2.2.1,0,100000)).bind fun r16=>
 bif (!r16)then(some false)
 else((QC D (z14.2.2.2.2.2.2.2.2.2.2.2.2.2.1,1,4)).bind fun r17=>
 bif (!r17)then(some false)
 else((QC D (z14.2.2.2.2.2.2.2.2.2.2.2.2.2.2.2.1,1,20)).bind fun r18=>
 bif (!r18)then(some false)
 else((QC D (z14.2.2.2.2.2.2.2.2.2.2.2.2.2.2.2.2.1,1,50)).bind fun r19=>
 bif (!r19)then(some false)
 else(bif (!decide ((z14.2.2.2.2.2.2.2.2.2.2.2.2.2.2.2.2.2.2.length:Int)=5))then(some false)
 else((Y2 L (0,z14)).bind fun z24=>
 Qr z24 (fun u25=>
 some u25)
 (fun z26=>
 (qC D z26).bind fun r27=>
 some r27))))))))))else none)))))))
theorem QiA:OfF V7 QaU:=ofF 22
def VA:rL X0:=fun D L (y0,y1,y2)=>
 bif (!decide (y0=0))then(bif decide ((10:Int)≠0)then
 bif (decide ((Int.tmod y0 10)<0))then(bif fits (ByteArray.size (KA [(IntKind.wrap .u8 (wR (48+(wR (0 - (Int.tmod y0 10))))))])+ByteArray.size y2) 1 then
 bif decide ((10:Int)≠0)then
 X0 L ((wR (Int.tdiv y0 10)),y1,((KA [(IntKind.wrap .u8 (wR (48+(wR (0 - (Int.tmod y0 10))))))])++y2))else none else none)
 else(bif fits (ByteArray.size (KA [(IntKind.wrap .u8 (wR (48+(Int.tmod y0 10))))])+ByteArray.size y2) 1 then
 bif decide ((10:Int)≠0)then
 X0 L ((wR (Int.tdiv y0 10)),y1,((KA [(IntKind.wrap .u8 (wR (48+(Int.tmod y0 10))))])++y2))else none else none)else none)
 else(some (y1,y2))
theorem ju:OfL X0 VA:=ofL 23 0
def Qbv:rF QE:=fun D L a0=>
 bif (decide (a0=0))then(some (⟨#[48]⟩:ByteArray))
 else((X0 L (a0,(decide (a0<0)),(⟨#[]⟩:ByteArray))).bind fun z1=>
 bif z1.1 then(bif fits (ByteArray.size (⟨#[45]⟩:ByteArray)+ByteArray.size z1.2) 1 then
 some ((⟨#[45]⟩:ByteArray)++z1.2)else none)
 else(some z1.2))
theorem Qio:OfF QE Qbv:=ofF 23
def qW:rL XI:=fun D L (y0,y1,y2)=>
 bif (decide (y2<(y0.length:Int)))then(bif (decide (0<y2))then(bif fits (ByteArray.size y1+ByteArray.size (⟨#[44]⟩:ByteArray)) 1 then
 bif inb y2 y0.length then
 (QE D (rd1 (0:Int) y0 y2)).bind fun r1=>
 bif fits (ByteArray.size (y1++(⟨#[44]⟩:ByteArray))+ByteArray.size r1) 1 then
 XI L (y0,((y1++(⟨#[44]⟩:ByteArray))++r1),(wR (y2+1)))else none else none else none)
 else(bif inb y2 y0.length then
 (QE D (rd1 (0:Int) y0 y2)).bind fun r2=>
 bif fits (ByteArray.size y1+ByteArray.size r2) 1 then
 XI L (y0,(y1++r2),(wR (y2+1)))else none else none))
 else(some y1)
theorem yD:OfL XI qW:=ofL 24 0
def vz:rF Ve:=fun D L a0=>
 (XI L (a0,(⟨#[]⟩:ByteArray),0)).bind fun z3=>
 some z3
theorem Qgr:OfF Ve vz:=ofF 24
def yy:rF VS:=fun D L a0=>
 bif (ZG a0 (⟨#[]⟩:ByteArray))then(some (⟨#[]⟩:ByteArray))
 else(bif fits (ByteArray.size (⟨#[32]⟩:ByteArray)+ByteArray.size a0) 1 then
 some ((⟨#[32]⟩:ByteArray)++a0)else none)
theorem Qe2:OfF VS yy:=ofF 25
def V3:rL Xq:=fun D L (y0,y1,y2,y3)=>
 bif (decide (y1<(y2.length:Int)))then(bif (!ZG y0 (⟨#[]⟩:ByteArray))then(bif fits (ByteArray.size y0+ByteArray.size (⟨#[32]⟩:ByteArray)) 1 then
 bif inb y1 y2.length then
 let e1:=(rd1 Zi y2 y1);
 (QE D e1.1).bind fun r2=>
 bif fits (ByteArray.size (y0++(⟨#[32]⟩:ByteArray))+ByteArray.size r2) 1 then
 bif fits (ByteArray.size ((y0++(⟨#[32]⟩:ByteArray))++r2)+ByteArray.size (⟨#[61]⟩:ByteArray)) 1 then
 bif inb y1 y2.length then
 let e3:=(rd1 Zi y2 y1);
 (YQ D e3.2).bind fun r4=>
 bif fits (ByteArray.size (((y0++(⟨#[32]⟩:ByteArray))++r2)++(⟨#[61]⟩:ByteArray))+ByteArray.size r4) 1 then
 Xq L (((((y0++(⟨#[32]⟩:ByteArray))++r2)++(⟨#[61]⟩:ByteArray))++r4),(wR (y1+1)),y2,y3)else none else none else none else none else none else none)
 else(bif inb y1 y2.length then
 let e5:=(rd1 Zi y2 y1);
 (QE D e5.1).bind fun r6=>
 bif fits (ByteArray.size y0+ByteArray.size r6) 1 then
 bif fits (ByteArray.size (y0++r6)+ByteArray.size (⟨#[61]⟩:ByteArray)) 1 then
 bif inb y1 y2.length then
 let e7:=(rd1 Zi y2 y1);
 (YQ D e7.2).bind fun r8=>
 bif fits (ByteArray.size ((y0++r6)++(⟨#[61]⟩:ByteArray))+ByteArray.size r8) 1 then
 Xq L ((((y0++r6)++(⟨#[61]⟩:ByteArray))++r8),(wR (y1+1)),y2,y3)else none else none else none else none else none))
 else(some (y0,y2,y3))
theorem qb:OfL Xq V3:=ofL 26 0
def VY:rL XU:=fun D L (y0,y1,y2,y3)=>
 bif (decide (y1<(y3.length:Int)))then(bif (!ZG y0 (⟨#[]⟩:ByteArray))then(bif fits (ByteArray.size y0+ByteArray.size (⟨#[32]⟩:ByteArray)) 1 then
 bif fits (ByteArray.size (y0++(⟨#[32]⟩:ByteArray))+ByteArray.size (⟨#[45]⟩:ByteArray)) 1 then
 bif inb y1 y3.length then
 let e10:=(rd1 Xx y3 y1);
 (QE D e10.1).bind fun r11=>
 bif fits (ByteArray.size ((y0++(⟨#[32]⟩:ByteArray))++(⟨#[45]⟩:ByteArray))+ByteArray.size r11) 1 then
 bif fits (ByteArray.size (((y0++(⟨#[32]⟩:ByteArray))++(⟨#[45]⟩:ByteArray))++r11)+ByteArray.size (⟨#[60]⟩:ByteArray)) 1 then
 bif inb y1 y3.length then
 let e12:=(rd1 Xx y3 y1);
 (QE D e12.2).bind fun r13=>
 bif fits (ByteArray.size ((((y0++(⟨#[32]⟩:ByteArray))++(⟨#[45]⟩:ByteArray))++r11)++(⟨#[60]⟩:ByteArray))+ByteArray.size r13) 1 then
 XU L ((((((y0++(⟨#[32]⟩:ByteArray))++(⟨#[45]⟩:ByteArray))++r11)++(⟨#[60]⟩:ByteArray))++r13),(wR (y1+1)),y2,y3)else none else none else none else none else none else none else none)
 else(bif fits (ByteArray.size y0+ByteArray.size (⟨#[45]⟩:ByteArray)) 1 then
 bif inb y1 y3.length then
 let e14:=(rd1 Xx y3 y1);
 (QE D e14.1).bind fun r15=>
 bif fits (ByteArray.size (y0++(⟨#[45]⟩:ByteArray))+ByteArray.size r15) 1 then
 bif fits (ByteArray.size ((y0++(⟨#[45]⟩:ByteArray))++r15)+ByteArray.size (⟨#[60]⟩:ByteArray)) 1 then
 bif inb y1 y3.length then
 let e16:=(rd1 Xx y3 y1);
 (QE D e16.2).bind fun r17=>
 bif fits (ByteArray.size (((y0++(⟨#[45]⟩:ByteArray))++r15)++(⟨#[60]⟩:ByteArray))+ByteArray.size r17) 1 then
 XU L (((((y0++(⟨#[45]⟩:ByteArray))++r15)++(⟨#[60]⟩:ByteArray))++r17),(wR (y1+1)),y2,y3)else none else none else none else none else none else none))
 else(some y0)
theorem qG:OfL XU VY:=ofL 26 2
def yg:rF Vu:=fun D L (a0,a1)=>
 (Xq L ((⟨#[]⟩:ByteArray),0,a0,a1)).bind fun z9=>
 (XU L (z9.1,0,z9.2)).bind fun z18=>
 some z18
theorem Qe0:OfF Vu yg:=ofF 26
def vU:rF Vp:=fun D L (a0,a1)=>
 (qP D a0).bind fun r1=>
 (Jm D a1).bind fun r2=>
 some (r1,r2)
theorem QgD:OfF Vp vU:=ofF 27
def Qa6:rF zq:=fun D L (a0,a1)=>
 (Yy D a0).bind fun r1=>
 some (r1,a1)
theorem Qh1:OfF zq Qa6:=ofF 28
def Qcn:rF jV:=fun D L (a0,a1,a2)=>
 (Jp D a2).bind fun r1=>
 some (a0,a1,r1)
theorem QjA:OfF jV Qcn:=ofF 29
def za:rL Y1:=fun D L (y0,y1,y2)=>
 bif (decide (y1<(y0.length:Int)))then(bif inb y1 y0.length then
 bif inb y1 y2.length then
 let l1:=List.set y2 (Int.toNat y1) (rd1 (0:Int) y0 y1);
 Y1 L (y0,(wR (y1+1)),l1)else none else none)
 else(some y2)
theorem jE:OfL Y1 za:=ofL 30 0
def Qbk:rF Yy:=fun D L a0=>
 bif (decide ((0:Int)<=(a0.length:Int)/\((a0.length:Int):Int)=(a0.length:Int))&&fits (Int.toNat (a0.length:Int)) 8)then
 (Y1 L (a0,0,(List.replicate (Int.toNat (a0.length:Int)) 0))).bind fun z2=>
 some z2 else none
theorem Qh8:OfF Yy Qbk:=ofF 30
def xu:rL Ya:=fun D L (y0,y1,y2)=>
 bif (decide (y1<(y0.length:Int)))then(bif inb y1 y0.length then
 (Yy D (rd1 ([]:List Int) y0 y1)).bind fun r1=>
 bif inb y1 y2.length then
 let l2:=List.set y2 (Int.toNat y1) r1;
 Ya L (y0,(wR (y1+1)),l2)else none else none)
 else(some y2)
theorem yB:OfL Ya xu:=ofL 31 0
def vQ:rF xi:=fun D L a0=>
 bif (decide ((0:Int)<=(a0.length:Int)/\((a0.length:Int):Int)=(a0.length:Int))&&fits (Int.toNat (a0.length:Int)) 24)then
 (Ya L (a0,0,(List.replicate (Int.toNat (a0.length:Int)) []))).bind fun z3=>
 some z3 else none
theorem QgX:OfF xi vQ:=ofF 31
def xj:rL Z3:=fun D L (y0,y1,y2)=>
 bif (decide (y1<(y0.length:Int)))then(bif inb y1 y0.length then
 let e1:=(rd1 QbE y0 y1);
 (zy D e1).bind fun r2=>
 bif inb y1 y2.length then
 let l3:=List.set y2 (Int.toNat y1) r2;
 Z3 L (y0,(wR (y1+1)),l3)else none else none)
 else(some y2)
theorem ye:OfL Z3 xj:=ofL 32 0
def vu:rF xD:=fun D L a0=>
 bif (decide ((0:Int)<=(a0.length:Int)/\((a0.length:Int):Int)=(a0.length:Int))&&fits (Int.toNat (a0.length:Int)) 32)then
 (Z3 L (a0,0,(List.replicate (Int.toNat (a0.length:Int)) (0,0,false,0)))).bind fun z4=>
 some z4 else none
theorem QgT:OfF xD vu:=ofF 32
def qV:rL Z8:=fun D L (y0,y1,y2)=>
 bif (decide (y1<(y0.length:Int)))then(bif inb y1 y0.length then
 let e1:=(rd1 QbF y0 y1);
 (zU D e1).bind fun r2=>
 bif inb y1 y2.length then
 let l3:=List.set y2 (Int.toNat y1) r2;
 Z8 L (y0,(wR (y1+1)),l3)else none else none)
 else(some y2)
theorem yY:OfL Z8 qV:=ofL 33 0
def QaI:rF xy:=fun D L a0=>
 bif (decide ((0:Int)<=(a0.length:Int)/\((a0.length:Int):Int)=(a0.length:Int))&&fits (Int.toNat (a0.length:Int)) 24)then
 (Z8 L (a0,0,(List.replicate (Int.toNat (a0.length:Int)) (0,0,0)))).bind fun z4=>
 some z4 else none
theorem Qge:OfF xy QaI:=ofF 33
def Qbu:rF V6:=fun D L (a0,a1,a2,a3,a4,a5,a6,a7,a8,a9,a10,a11,a12,a13,a14,a15,a16,a17,a18)=>
 (Qw D (a1,1,5)).bind fun r1=>
 bif (!r1)then(some false)
 else((Qw D (a0,0,(wR (a1 - 1)))).bind fun r2=>
 bif (!r2)then(some false)
 else((XM D (a2,a3)).bind fun r3=>
 bif (!r3)then(some false)
 else((zY D (a2,a3)).bind fun r4=>
 (Jq D (a4,a5,r4)).bind fun r5=>
 bif (!r5)then(some false)
 else((zV D (a6,a7,a8)).bind fun r6=>
 (qc D (a6,a7,a8)).bind fun r7=>
 bif (!r7)then(some false)
 else((xJ D (a9,a1)).bind fun r8=>
 bif (!r8)then(some false)
 else((xJ D (a10,a1)).bind fun r9=>
 bif (!r9)then(some false)
 else(bif inb a0 a9.length then
 bif (!decide ((rd1 (0:Int) a9 a0)=r6))then(some false)
 else((Zs D a10).bind fun r10=>
 bif (decide (r6<r10))then(some false)
 else((J1 D (a11,a1)).bind fun r11=>
 bif (!r11)then(some false)
 else((Qw D (a12,0,100000)).bind fun r12=>
 bif (!r12)then(some false)
 else((Qw D (a17,0,100000)).bind fun r13=>
 bif (!r13)then(some false)
 else((Qw D (a15,1,20)).bind fun r14=>
 bif r14 then((Qw D (a16,1,50)).bind fun r15=>
 bif r15 then((zJ D (a0,a1,a2,a3,a4,a5,a6,a7,a8,a9,a10,a11,a12,a13,a14,a15,a16,a17,a18)).bind fun r16=>
 bif r16 then((qe D (a0,a1,a2,a3,a4,a5,a6,a7,a8,a9,a10,a11,a12,a13,a14,a15,a16,a17,a18)).bind fun r17=>
 some r17)
 else(some false))
 else(some false))
 else(some false))))))else none)))))))
theorem QhO:OfF V6 Qbu:=ofF 34
def QaV:rF QP:=fun D L a0=>
 (strconv_Itoa D a0).bind fun r1=>
 some r1
theorem QhT:OfF QP QaV:=ofF 35
def vY:rF Vt:=fun D L a0=>
 (Ki D a0).bind fun r1=>
 some r1
theorem Qgb:OfF Vt vY:=ofF 36
def VV:rL Zq:=fun D L (y0,y1,y2,y3,y4,y5)=>
 bif (decide (y2<y1))then(bif inb y2 y0.length then
 let e1:=(rd1 Zi y0 y2);
 (QP D e1.1).bind fun r2=>
 bif fits (ByteArray.size r2+ByteArray.size (⟨#[61]⟩:ByteArray)) 1 then
 (VI D e1.2).bind fun r3=>
 bif fits (ByteArray.size (r2++(⟨#[61]⟩:ByteArray))+ByteArray.size r3) 1 then
 bif fits (y5.length+List.length ([((r2++(⟨#[61]⟩:ByteArray))++r3)]:List ByteArray)) 16 then
 Zq L (y0,y1,(wR (y2+1)),y3,y4,(y5++([((r2++(⟨#[61]⟩:ByteArray))++r3)]:List ByteArray)))else none else none else none else none)
 else(some (y3,y4,y5))
theorem J6:OfL Zq VV:=ofL 37 0
def VX:rL Zr:=fun D L (y0,y1,y2,y3)=>
 bif (decide (y2<y1))then(bif inb y2 y0.length then
 let e5:=(rd1 Xx y0 y2);
 (QP D e5.1).bind fun r6=>
 bif fits (ByteArray.size (⟨#[45]⟩:ByteArray)+ByteArray.size r6) 1 then
 bif fits (ByteArray.size ((⟨#[45]⟩:ByteArray)++r6)+ByteArray.size (⟨#[60]⟩:ByteArray)) 1 then
 (QP D e5.2).bind fun r7=>
 bif fits (ByteArray.size (((⟨#[45]⟩:ByteArray)++r6)++(⟨#[60]⟩:ByteArray))+ByteArray.size r7) 1 then
 bif fits (y3.length+List.length ([((((⟨#[45]⟩:ByteArray)++r6)++(⟨#[60]⟩:ByteArray))++r7)]:List ByteArray)) 16 then
 Zr L (y0,y1,(wR (y2+1)),(y3++([((((⟨#[45]⟩:ByteArray)++r6)++(⟨#[60]⟩:ByteArray))++r7)]:List ByteArray)))else none else none else none else none else none)
 else(some y3)
theorem xr:OfL Zr VX:=ofL 37 2
def yL:rF VO:=fun D L (a0,a1)=>
 (Zq L (a0,(a0.length:Int),0,a0,a1,[])).bind fun z4=>
 (Zr L (z4.2.1,(z4.2.1.length:Int),0,z4.2.2)).bind fun z8=>
 (strings_Join D (z8,(⟨#[32]⟩:ByteArray))).bind fun r9=>
 some r9
theorem QeZ:OfF VO yL:=ofF 37
end
end Go.Proofs.YtameehmkoglkeaaGreatDoor.M
