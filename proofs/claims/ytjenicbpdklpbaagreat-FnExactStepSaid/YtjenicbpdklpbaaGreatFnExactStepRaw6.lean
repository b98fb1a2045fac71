/- Plain forms of the functions that FnExactStep reaches, part 6. No conditions. -/
import Derived.Test.YtjenicbpdklpbaaGreatFnExactStepTab
set_option linter.all false
namespace Go.Proofs.YtjenicbpdklpbaaGreat.M
open Go Go.Eng Go.Proofs
set_option linter.unusedVariables false
noncomputable section
def Qm5:rF QhK:=fun D L (a0,a1,a2,a3,a4)=>
 bif (decide (a2=0))then((Qyz D (a0,a1,a3)).bind fun r1=>
 some r1)
 else(bif (decide (a2=1))then((QbY D (a0,a1,a3)).bind fun r2=>
 some r2)
 else(bif (decide (a2=2))then((QA9 D (a0,a1,a3,a4)).bind fun r3=>
 some r3)
 else((QyA D (a0,a1,a3)).bind fun r4=>
 some r4)))
theorem Qxu:OfF QhK Qm5:=ofF 211
def QlV:rF Qes:=fun D L (a0,a1,a2,a3,a4)=>
 (Kt D (a0,a1,a2)).bind fun r1=>
 (Yt D (a0,a1,a2)).bind fun r2=>
 bif (!r2)then(some (r1.1,r1.2.1,r1.2.2,false))
 else((Xp D (a3,a4)).bind fun r3=>
 bif (!r3)then(some (r1.1,r1.2.1,r1.2.2,false))
 else((X4 D (a3,a4)).bind fun r4=>
 bif fits (r1.2.2.length+ [r4].length) 48 then
 bif (decide (a0<((List.length (r1.2.2++[r4])):Int)))then(bif decide ((0:Int)<=1/\1<=(((List.length (r1.2.2++[r4])):Int):Int)/\((List.length (r1.2.2++[r4])):Int)<=((List.length (r1.2.2++[r4])):Int))then
 (Yt D (r1.1,(wR (r1.2.1+1)),List.take (Int.toNat (((List.length (r1.2.2++[r4])):Int) - 1)) (List.drop (Int.toNat 1) (r1.2.2++[r4])))).bind fun r5=>
 bif (!r5)then((Kt D (a0,a1,a2)).bind fun r6=>
 some (r6.1,r6.2.1,r6.2.2,false))
 else(some (r1.1,(wR (r1.2.1+1)),List.take (Int.toNat (((List.length (r1.2.2++[r4])):Int) - 1)) (List.drop (Int.toNat 1) (r1.2.2++[r4])),true))else none)
 else((Yt D (r1.1,r1.2.1,(r1.2.2++[r4]))).bind fun r7=>
 bif (!r7)then((Kt D (a0,a1,a2)).bind fun r8=>
 some (r8.1,r8.2.1,r8.2.2,false))
 else(some (r1.1,r1.2.1,(r1.2.2++[r4]),true)))else none))
theorem QvS:OfF Qes QlV:=ofF 212
def Qkb:rL Ku:=fun D L (y0,y1,y2,y3,y4,y5,y6,y7,y8,y9,y10,y11,y12,y13,y14,y15,y16,y17,y18,y19,y20,y21,y22,y23,y24,y25,y26,y27,y28,y29,y30,y31,y32,y33,y34,y35,y36,y37,y38,y39)=>
 bif (decide (y1<y0))then(bif inb y1 y23.length then
 let e9:=(rd1 XU y23 y1);
 bif inb e9.1 y39.length then
 let e10:=(rd1 Zo y39 e9.1);
 bif (decide (e10.1<e9.2.1))then(let l11:=List.set y39 (Int.toNat e9.1) (e9.2.1,e9.2.2.2.1,y19);
 Ku L (y0,(wR (y1+1)),y2,y3,y4,y5,y6,y7,y8,y9,y10,y11,y12,y13,y14,y15,y16,y17,y18,y19,y20,y21,y22,y23,y24,y25,y26,y27,y28,y29,y30,y31,y32,y33,y34,y35,y36,y37,y38,l11))
 else(let e12:=(rd1 Zo y39 e9.1);
 bif (decide (e9.2.1=e12.1))then(let e13:=(rd1 Zo y39 e9.1);
 bif (decide (e13.2.1<e9.2.2.2.1))then(let l14:=List.set y39 (Int.toNat e9.1) (e9.2.1,e9.2.2.2.1,y19);
 Ku L (y0,(wR (y1+1)),y2,y3,y4,y5,y6,y7,y8,y9,y10,y11,y12,y13,y14,y15,y16,y17,y18,y19,y20,y21,y22,y23,y24,y25,y26,y27,y28,y29,y30,y31,y32,y33,y34,y35,y36,y37,y38,l14))
 else(Ku L (y0,(wR (y1+1)),y2,y3,y4,y5,y6,y7,y8,y9,y10,y11,y12,y13,y14,y15,y16,y17,y18,y19,y20,y21,y22,y23,y24,y25,y26,y27,y28,y29,y30,y31,y32,y33,y34,y35,y36,y37,y38,y39)))
 else(Ku L (y0,(wR (y1+1)),y2,y3,y4,y5,y6,y7,y8,y9,y10,y11,y12,y13,y14,y15,y16,y17,y18,y19,y20,y21,y22,y23,y24,y25,y26,y27,y28,y29,y30,y31,y32,y33,y34,y35,y36,y37,y38,y39)))else none else none)
 else(some (y21,y22,y23,y24,y25,y26,y27,y28,y29,y30,y31,y32,y33,y34,y35,y36,y37,y38,y39))
theorem Ql2:OfL Ku Qkb:=ofL 213 0
def Qoy:rF Qae:=fun D L (a0,a1,a2,a3,a4,a5,a6,a7,a8,a9,a10,a11,a12,a13,a14,a15,a16,a17,a18,a19,a20)=>
 (ZH D (a0,a1,a2,a3,a4,a5,a6,a7,a8,a9,a10,a11,a12,a13,a14,a15,a16,a17,a18)).bind fun r1=>
 (ZE D (a0,a1,a2,a3,a4,a5,a6,a7,a8,a9,a10,a11,a12,a13,a14,a15,a16,a17,a18)).bind fun r2=>
 bif (!r2)then(some (r1.1,r1.2.1,r1.2.2.1,r1.2.2.2.1,r1.2.2.2.2.1,r1.2.2.2.2.2.1,r1.2.2.2.2.2.2.1,r1.2.2.2.2.2.2.2.1,r1.2.2.2.2.2.2.2.2.1,r1.2.2.2.2.2.2.2.2.2.1,r1.2.2.2.2.2.2.2.2.2.2.1,r1.2.2.2.2.2.2.2.2.2.2.2.1,r1.2.2.2.2.2.2.2.2.2.2.2.2.1,r1.2.2.2.2.2.2.2.2.2.2.2.2.2.1,r1.2.2.2.2.2.2.2.2.2.2.2.2.2.2.1,r1.2.2.2.2.2.2.2.2.2.2.2.2.2.2.2.1,r1.2.2.2.2.2.2.2.2.2.2.2.2.2.2.2.2.1,r1.2.2.2.2.2.2.2.2.2.2.2.2.2.2.2.2.2.1,r1.2.2.2.2.2.2.2.2.2.2.2.2.2.2.2.2.2.2,false))
 else((Xp D (a19,a20)).bind fun r3=>
 bif (!r3)then(some (r1.1,r1.2.1,r1.2.2.1,r1.2.2.2.1,r1.2.2.2.2.1,r1.2.2.2.2.2.1,r1.2.2.2.2.2.2.1,r1.2.2.2.2.2.2.2.1,r1.2.2.2.2.2.2.2.2.1,r1.2.2.2.2.2.2.2.2.2.1,r1.2.2.2.2.2.2.2.2.2.2.1,r1.2.2.2.2.2.2.2.2.2.2.2.1,r1.2.2.2.2.2.2.2.2.2.2.2.2.1,r1.2.2.2.2.2.2.2.2.2.2.2.2.2.1,r1.2.2.2.2.2.2.2.2.2.2.2.2.2.2.1,r1.2.2.2.2.2.2.2.2.2.2.2.2.2.2.2.1,r1.2.2.2.2.2.2.2.2.2.2.2.2.2.2.2.2.1,r1.2.2.2.2.2.2.2.2.2.2.2.2.2.2.2.2.2.1,r1.2.2.2.2.2.2.2.2.2.2.2.2.2.2.2.2.2.2,false))
 else((Zq D (a2,a3,a19,a20)).bind fun r4=>
 (xC D r4).bind fun r5=>
 (K9 D (a11,a0,r5)).bind fun r6=>
 (Qc3 D (r4.1,r4.2,r6)).bind fun r7=>
 (zw D r7).bind fun r8=>
 (Ku L ((r7.1.length:Int),0,a0,a1,a2,a3,a4,a5,a6,a7,a8,a9,a10,a11,a12,a13,a14,a15,a16,a17,a18,r1.1,r1.2.1,r7.1,r7.2,r8.1,r8.2,r1.2.2.2.2.2.2.1,r1.2.2.2.2.2.2.2.1,r1.2.2.2.2.2.2.2.2.1,r1.2.2.2.2.2.2.2.2.2.1,r1.2.2.2.2.2.2.2.2.2.2.1,r6,r1.2.2.2.2.2.2.2.2.2.2.2.2)).bind fun z15=>
 some (z15.1,z15.2.1,z15.2.2.1,z15.2.2.2.1,z15.2.2.2.2.1,z15.2.2.2.2.2.1,z15.2.2.2.2.2.2.1,z15.2.2.2.2.2.2.2.1,z15.2.2.2.2.2.2.2.2.1,z15.2.2.2.2.2.2.2.2.2.1,z15.2.2.2.2.2.2.2.2.2.2.1,z15.2.2.2.2.2.2.2.2.2.2.2.1,z15.2.2.2.2.2.2.2.2.2.2.2.2.1,z15.2.2.2.2.2.2.2.2.2.2.2.2.2.1,z15.2.2.2.2.2.2.2.2.2.2.2.2.2.2.1,z15.2.2.2.2.2.2.2.2.2.2.2.2.2.2.2.1,z15.2.2.2.2.2.2.2.2.2.2.2.2.2.2.2.2.1,z15.2.2.2.2.2.2.2.2.2.2.2.2.2.2.2.2.2.1,z15.2.2.2.2.2.2.2.2.2.2.2.2.2.2.2.2.2.2,true)))
theorem QzF:OfF Qae Qoy:=ofF 213
def Qpw:rF Qj7:=fun D L (a0,a1,a2,a3,a4,a5,a6,a7,a8,a9,a10,a11,a12,a13,a14,a15,a16,a17,a18,a19)=>
 (ZH D (a0,a1,a2,a3,a4,a5,a6,a7,a8,a9,a10,a11,a12,a13,a14,a15,a16,a17,a18)).bind fun r1=>
 (ZE D (a0,a1,a2,a3,a4,a5,a6,a7,a8,a9,a10,a11,a12,a13,a14,a15,a16,a17,a18)).bind fun r2=>
 bif (!r2)then(some (r1.1,r1.2.1,r1.2.2.1,r1.2.2.2.1,r1.2.2.2.2.1,r1.2.2.2.2.2.1,r1.2.2.2.2.2.2.1,r1.2.2.2.2.2.2.2.1,r1.2.2.2.2.2.2.2.2.1,r1.2.2.2.2.2.2.2.2.2.1,r1.2.2.2.2.2.2.2.2.2.2.1,r1.2.2.2.2.2.2.2.2.2.2.2.1,r1.2.2.2.2.2.2.2.2.2.2.2.2.1,r1.2.2.2.2.2.2.2.2.2.2.2.2.2.1,r1.2.2.2.2.2.2.2.2.2.2.2.2.2.2.1,r1.2.2.2.2.2.2.2.2.2.2.2.2.2.2.2.1,r1.2.2.2.2.2.2.2.2.2.2.2.2.2.2.2.2.1,r1.2.2.2.2.2.2.2.2.2.2.2.2.2.2.2.2.2.1,r1.2.2.2.2.2.2.2.2.2.2.2.2.2.2.2.2.2.2,0,0,0,0,0,[],0,[],[],[],[],[],false))
 else((zp D (a0,a1,a2,a3,a4,a5,a6,a7,a8,a9,a10,a11,a12,a13,a14,a15,a16,a17,a18,a19)).bind fun r3=>
 bif (!r3)then(some (r1.1,r1.2.1,r1.2.2.1,r1.2.2.2.1,r1.2.2.2.2.1,r1.2.2.2.2.2.1,r1.2.2.2.2.2.2.1,r1.2.2.2.2.2.2.2.1,r1.2.2.2.2.2.2.2.2.1,r1.2.2.2.2.2.2.2.2.2.1,r1.2.2.2.2.2.2.2.2.2.2.1,r1.2.2.2.2.2.2.2.2.2.2.2.1,r1.2.2.2.2.2.2.2.2.2.2.2.2.1,r1.2.2.2.2.2.2.2.2.2.2.2.2.2.1,r1.2.2.2.2.2.2.2.2.2.2.2.2.2.2.1,r1.2.2.2.2.2.2.2.2.2.2.2.2.2.2.2.1,r1.2.2.2.2.2.2.2.2.2.2.2.2.2.2.2.2.1,r1.2.2.2.2.2.2.2.2.2.2.2.2.2.2.2.2.2.1,r1.2.2.2.2.2.2.2.2.2.2.2.2.2.2.2.2.2.2,0,0,0,0,0,[],0,[],[],[],[],[],false))
 else((xG D (a0,a1,a2,a3,a4,a5,a6,a7,a8,a9,a10,a11,a12,a13,a14,a15,a16,a17,a18,a19,false)).bind fun r4=>
 bif (decide (0<=r4))then(some (r1.1,r1.2.1,r1.2.2.1,r1.2.2.2.1,r1.2.2.2.2.1,r1.2.2.2.2.2.1,r1.2.2.2.2.2.2.1,r1.2.2.2.2.2.2.2.1,r1.2.2.2.2.2.2.2.2.1,r1.2.2.2.2.2.2.2.2.2.1,r1.2.2.2.2.2.2.2.2.2.2.1,r1.2.2.2.2.2.2.2.2.2.2.2.1,r1.2.2.2.2.2.2.2.2.2.2.2.2.1,r1.2.2.2.2.2.2.2.2.2.2.2.2.2.1,r1.2.2.2.2.2.2.2.2.2.2.2.2.2.2.1,r1.2.2.2.2.2.2.2.2.2.2.2.2.2.2.2.1,r1.2.2.2.2.2.2.2.2.2.2.2.2.2.2.2.2.1,r1.2.2.2.2.2.2.2.2.2.2.2.2.2.2.2.2.2.1,r1.2.2.2.2.2.2.2.2.2.2.2.2.2.2.2.2.2.2,0,0,0,0,0,[],0,[],[],[],[],[],false))
 else(bif (decide (a13<=(a14.length:Int)))then(some (r1.1,r1.2.1,r1.2.2.1,r1.2.2.2.1,r1.2.2.2.2.1,r1.2.2.2.2.2.1,r1.2.2.2.2.2.2.1,r1.2.2.2.2.2.2.2.1,r1.2.2.2.2.2.2.2.2.1,r1.2.2.2.2.2.2.2.2.2.1,r1.2.2.2.2.2.2.2.2.2.2.1,r1.2.2.2.2.2.2.2.2.2.2.2.1,r1.2.2.2.2.2.2.2.2.2.2.2.2.1,r1.2.2.2.2.2.2.2.2.2.2.2.2.2.1,r1.2.2.2.2.2.2.2.2.2.2.2.2.2.2.1,r1.2.2.2.2.2.2.2.2.2.2.2.2.2.2.2.1,r1.2.2.2.2.2.2.2.2.2.2.2.2.2.2.2.2.1,r1.2.2.2.2.2.2.2.2.2.2.2.2.2.2.2.2.2.1,r1.2.2.2.2.2.2.2.2.2.2.2.2.2.2.2.2.2.2,0,0,0,0,0,[],0,[],[],[],[],[],false))
 else(bif (decide (a12=100000))then(some (r1.1,r1.2.1,r1.2.2.1,r1.2.2.2.1,r1.2.2.2.2.1,r1.2.2.2.2.2.1,r1.2.2.2.2.2.2.1,r1.2.2.2.2.2.2.2.1,r1.2.2.2.2.2.2.2.2.1,r1.2.2.2.2.2.2.2.2.2.1,r1.2.2.2.2.2.2.2.2.2.2.1,r1.2.2.2.2.2.2.2.2.2.2.2.1,r1.2.2.2.2.2.2.2.2.2.2.2.2.1,r1.2.2.2.2.2.2.2.2.2.2.2.2.2.1,r1.2.2.2.2.2.2.2.2.2.2.2.2.2.2.1,r1.2.2.2.2.2.2.2.2.2.2.2.2.2.2.2.1,r1.2.2.2.2.2.2.2.2.2.2.2.2.2.2.2.2.1,r1.2.2.2.2.2.2.2.2.2.2.2.2.2.2.2.2.2.1,r1.2.2.2.2.2.2.2.2.2.2.2.2.2.2.2.2.2.2,0,0,0,0,0,[],0,[],[],[],[],[],false))
 else(bif fits (r1.2.2.2.2.2.2.2.2.2.2.2.2.2.2.1.length+ [(a19,(wR (r1.2.2.2.2.2.2.2.2.2.2.2.2.1+1)),false,0)].length) 32 then
 (ZC D (r1.1,r1.2.1,r1.2.2.1,r1.2.2.2.1,r1.2.2.2.2.1,r1.2.2.2.2.2.1,r1.2.2.2.2.2.2.1,r1.2.2.2.2.2.2.2.1,r1.2.2.2.2.2.2.2.2.1,r1.2.2.2.2.2.2.2.2.2.1,r1.2.2.2.2.2.2.2.2.2.2.1,r1.2.2.2.2.2.2.2.2.2.2.2.1,(wR (r1.2.2.2.2.2.2.2.2.2.2.2.2.1+1)),r1.2.2.2.2.2.2.2.2.2.2.2.2.2.1,(r1.2.2.2.2.2.2.2.2.2.2.2.2.2.2.1++[(a19,(wR (r1.2.2.2.2.2.2.2.2.2.2.2.2.1+1)),false,0)]),r1.2.2.2.2.2.2.2.2.2.2.2.2.2.2.2.1,r1.2.2.2.2.2.2.2.2.2.2.2.2.2.2.2.2.1,r1.2.2.2.2.2.2.2.2.2.2.2.2.2.2.2.2.2.1,r1.2.2.2.2.2.2.2.2.2.2.2.2.2.2.2.2.2.2,2,a19,(wR (r1.2.2.2.2.2.2.2.2.2.2.2.2.1+1)))).bind fun r5=>
 (Z4 D (a4,a5)).bind fun r6=>
 some (r1.1,r1.2.1,r1.2.2.1,r1.2.2.2.1,r1.2.2.2.2.1,r1.2.2.2.2.2.1,r1.2.2.2.2.2.2.1,r1.2.2.2.2.2.2.2.1,r1.2.2.2.2.2.2.2.2.1,r1.2.2.2.2.2.2.2.2.2.1,r1.2.2.2.2.2.2.2.2.2.2.1,r1.2.2.2.2.2.2.2.2.2.2.2.1,(wR (r1.2.2.2.2.2.2.2.2.2.2.2.2.1+1)),r1.2.2.2.2.2.2.2.2.2.2.2.2.2.1,(r1.2.2.2.2.2.2.2.2.2.2.2.2.2.2.1++[(a19,(wR (r1.2.2.2.2.2.2.2.2.2.2.2.2.1+1)),false,0)]),r1.2.2.2.2.2.2.2.2.2.2.2.2.2.2.2.1,r1.2.2.2.2.2.2.2.2.2.2.2.2.2.2.2.2.1,r1.2.2.2.2.2.2.2.2.2.2.2.2.2.2.2.2.2.1,r1.2.2.2.2.2.2.2.2.2.2.2.2.2.2.2.2.2.2,r5.1,r5.2.1,r5.2.2.1,r5.2.2.2.1,r5.2.2.2.2.1,r6.1,r6.2,r5.2.2.2.2.2.2.2.1,r5.2.2.2.2.2.2.2.2.1,r5.2.2.2.2.2.2.2.2.2.1,r5.2.2.2.2.2.2.2.2.2.2.1,r5.2.2.2.2.2.2.2.2.2.2.2,true)else none)))))
theorem QAX:OfF Qj7 Qpw:=ofF 214
def QoR:rF JS:=fun D L (a0,a1,a2,a3,a4,a5,a6,a7,a8,a9,a10,a11,a12,a13,a14)=>
 bif inb a5 a0.length then
 let e1:=(rd1 Qv a0 a5);
 (Qa9 D (e1.1,e1.2.1,(rd1 Qv a0 a5).2.2.1,(rd1 Qv a0 a5).2.2.2.1,(rd1 Qv a0 a5).2.2.2.2.1,e1.2.2.2.2.2.1,e1.2.2.2.2.2.2.1,e1.2.2.2.2.2.2.2.1,(rd1 Qv a0 a5).2.2.2.2.2.2.2.2.1,(rd1 Qv a0 a5).2.2.2.2.2.2.2.2.2.1,(rd1 Qv a0 a5).2.2.2.2.2.2.2.2.2.2.1,(rd1 Qv a0 a5).2.2.2.2.2.2.2.2.2.2.2.1,e1.2.2.2.2.2.2.2.2.2.2.2.2.1,e1.2.2.2.2.2.2.2.2.2.2.2.2.2.1,(rd1 Qv a0 a5).2.2.2.2.2.2.2.2.2.2.2.2.2.2.1,e1.2.2.2.2.2.2.2.2.2.2.2.2.2.2.2.1,e1.2.2.2.2.2.2.2.2.2.2.2.2.2.2.2.2.1,e1.2.2.2.2.2.2.2.2.2.2.2.2.2.2.2.2.2.1,(rd1 Qv a0 a5).2.2.2.2.2.2.2.2.2.2.2.2.2.2.2.2.2.2,a3,a4,a5,a6,a7,a8,a9,a10,a11,a12,a13,a14)).bind fun r2=>
 bif inb a5 a0.length then
 let l3:=List.set a0 (Int.toNat a5) (r2.1,r2.2.1,r2.2.2.1,r2.2.2.2.1,r2.2.2.2.2.1,r2.2.2.2.2.2.1,r2.2.2.2.2.2.2.1,r2.2.2.2.2.2.2.2.1,r2.2.2.2.2.2.2.2.2.1,r2.2.2.2.2.2.2.2.2.2.1,r2.2.2.2.2.2.2.2.2.2.2.1,r2.2.2.2.2.2.2.2.2.2.2.2.1,r2.2.2.2.2.2.2.2.2.2.2.2.2.1,r2.2.2.2.2.2.2.2.2.2.2.2.2.2.1,r2.2.2.2.2.2.2.2.2.2.2.2.2.2.2.1,r2.2.2.2.2.2.2.2.2.2.2.2.2.2.2.2.1,r2.2.2.2.2.2.2.2.2.2.2.2.2.2.2.2.2.1,r2.2.2.2.2.2.2.2.2.2.2.2.2.2.2.2.2.2.1,r2.2.2.2.2.2.2.2.2.2.2.2.2.2.2.2.2.2.2.1);
 bif (decide ((r2.2.2.2.2.2.2.2.2.2.2.2.2.2.2.2.2.2.2.2.1.length:Int)=0))then(some (0,0,0,0,0,[],0,[],[],[],[],[],(decide (r2.2.2.2.2.2.2.2.2.2.2.2.2.2.2.2.2.2.2.2.2=0)),false,l3))
 else(bif inb 0 r2.2.2.2.2.2.2.2.2.2.2.2.2.2.2.2.2.2.2.2.1.length then
 let e4:=(rd1 QL r2.2.2.2.2.2.2.2.2.2.2.2.2.2.2.2.2.2.2.2.1 0);
 bif decide ((0:Int)=0)&&Nat.blt 5 7 then
 bif decide ((0:Int)=0)&&Nat.blt 7 8 then
 bif decide ((0:Int)=0)&&Nat.blt 8 9 then
 bif decide ((0:Int)=0)&&Nat.blt 9 10 then
 bif decide ((0:Int)=0)&&Nat.blt 10 11 then
 some (e4.1,e4.2.1,e4.2.2.1,e4.2.2.2.1,e4.2.2.2.2.1,(rd1 QL r2.2.2.2.2.2.2.2.2.2.2.2.2.2.2.2.2.2.2.2.1 0).2.2.2.2.2.1,e4.2.2.2.2.2.2.1,(rd1 QL r2.2.2.2.2.2.2.2.2.2.2.2.2.2.2.2.2.2.2.2.1 0).2.2.2.2.2.2.2.1,(rd1 QL r2.2.2.2.2.2.2.2.2.2.2.2.2.2.2.2.2.2.2.2.1 0).2.2.2.2.2.2.2.2.1,(rd1 QL r2.2.2.2.2.2.2.2.2.2.2.2.2.2.2.2.2.2.2.2.1 0).2.2.2.2.2.2.2.2.2.1,(rd1 QL r2.2.2.2.2.2.2.2.2.2.2.2.2.2.2.2.2.2.2.2.1 0).2.2.2.2.2.2.2.2.2.2.1,(rd1 QL r2.2.2.2.2.2.2.2.2.2.2.2.2.2.2.2.2.2.2.2.1 0).2.2.2.2.2.2.2.2.2.2.2,(decide (r2.2.2.2.2.2.2.2.2.2.2.2.2.2.2.2.2.2.2.2.2=0)),true,l3)else none else none else none else none else none else none)else none else none
theorem QyC:OfF JS QoR:=ofF 215
def QiQ:rF QbF:=fun D L (a0,a1)=>
 bif (decide ((wR (a1 - (a0.length:Int)))<0))then(some (-1))
 else(some (wR (a1 - (a0.length:Int))))
theorem QtG:OfF QbF QiQ:=ofF 216
def Qc8:rL JG:=fun D L (y0,y1,y2)=>
 bif (decide (y1<(y0.length:Int)))then(bif inb y1 y0.length then
 bif inb y1 y2.length then
 let l1:=List.set y2 (Int.toNat y1) (rd1 (0:Int) y0 y1);
 JG L (y0,(wR (y1+1)),l1)else none else none)
 else(some y2)
theorem Qfi:OfL JG Qc8:=ofL 217 0
def Qi2:rF Qb9:=fun D L a0=>
 bif (decide ((0:Int)<=(a0.length:Int)/\((a0.length:Int):Int)=(a0.length:Int))&&fits (Int.toNat (a0.length:Int)) 1)then
 (JG L (a0,0,(List.replicate (Int.toNat (a0.length:Int)) 0))).bind fun z2=>
 some z2 else none
theorem Qs8:OfF Qb9 Qi2:=ofF 217
def QkI:rF Yq:=fun D L a0=>
 (QA D (a0,0,4)).bind fun r1=>
 some r1
theorem Qv7:OfF Yq QkI:=ofF 218
def Qin:rF yi:=fun D L (a0,a1,a2,a3,a4)=>
 (QA D (a0,1,1000)).bind fun r1=>
 bif r1 then((QA D (a1,0,1)).bind fun r2=>
 bif r2 then((QA D (a2,0,100000)).bind fun r3=>
 bif r3 then((QA D (a3,0,1000)).bind fun r4=>
 bif r4 then(some (decide (((ByteArray.size a4):Int)<=8)))
 else(some false))
 else(some false))
 else(some false))
 else(some false)
theorem Quu:OfF yi Qin:=ofF 219
def Qbl:rL J6:=fun D L (y0,y1,y2,y3)=>
 bif (decide (y3<y2))then(bif inb y3 y1.length then
 let e1:=(rd1 XN y1 y3);
 bif (decide (e1.1=y0))then(some (Sum.inl e1.2))
 else(J6 L (y0,y1,y2,(wR (y3+1))))else none)
 else(some (Sum.inr ()))
theorem Qff:OfL J6 Qbl:=ofL 220 0
def Qjx:rF V3:=fun D L (a0,a1,a2)=>
 (J6 L (a2,a1,(a1.length:Int),0)).bind fun z2=>
 Qn z2 (fun u3=>
 some u3)
 (fun z4=>
 some 0)
theorem Qun:OfF V3 Qjx:=ofF 220
def Qb2:rL JI:=fun D L (y0,y1,y2)=>
 bif (decide (y2<(y0.length:Int)))then(bif inb y2 y0.length then
 bif inb y2 y1.length then
 bif (!decide ((rd1 (0:Int) y0 y2)=(rd1 (0:Int) y1 y2)))then(some (Sum.inl false))
 else(JI L (y0,y1,(wR (y2+1))))else none else none)
 else(some (Sum.inr ()))
theorem Qfk:OfL JI Qb2:=ofL 221 0
def QiC:rF Qca:=fun D L (a0,a1)=>
 bif (!decide ((a0.length:Int)=(a1.length:Int)))then(some false)
 else((JI L (a0,a1,0)).bind fun z1=>
 Qn z1 (fun u2=>
 some u2)
 (fun z3=>
 some true))
theorem Qst:OfF Qca QiC:=ofF 221
def Qk9:rF Yo:=fun D L a0=>
 (QE D (a0,0,4)).bind fun r1=>
 some r1
theorem Qvu:OfF Yo Qk9:=ofF 222
def QjL:rF xq:=fun D L (a0,a1,a2,a3,a4)=>
 (QE D (a0,1,1000)).bind fun r1=>
 bif r1 then((QE D (a1,0,1)).bind fun r2=>
 bif r2 then((QE D (a2,0,100000)).bind fun r3=>
 bif r3 then((QE D (a3,0,1000)).bind fun r4=>
 bif r4 then(some (decide (((ByteArray.size a4):Int)<=8)))
 else(some false))
 else(some false))
 else(some false))
 else(some false)
theorem QuS:OfF xq QjL:=ofF 223
def Qci:rL JV:=fun D L (y0,y1,y2,y3)=>
 bif (decide (y1<(y3.length:Int)))then(bif inb y1 y3.length then
 let e1:=(rd1 XN y3 y1);
 bif (decide (e1.1=y0))then(bif inb y1 y3.length then
 let e2:=(rd1 XN y3 y1);
 some (Sum.inl e2.2)else none)
 else(JV L (y0,(wR (y1+1)),y2,y3))else none)
 else(some (Sum.inr ()))
theorem Qe9:OfL JV Qci:=ofL 224 0
def Qkm:rF Kz:=fun D L (a0,a1,a2)=>
 (JV L (a2,0,a0,a1)).bind fun z3=>
 Qn z3 (fun u4=>
 some u4)
 (fun z5=>
 some 0)
theorem QsX:OfF Kz Qkm:=ofF 224
def Ql6:rF QeL:=fun D L (a0,a1,a2,a3,a4,a5,a6)=>
 (Qdb D (a1,a2,a3,a4,a5,a6)).bind fun r1=>
 bif (decide (r1<0))then(some (-1))
 else(some r1)
theorem Qv4:OfF QeL Ql6:=ofF 225
def jc:rL qQ:=fun D L (y0,y1,y2)=>
 bif (decide (y2<(y0.length:Int)))then(bif inb y2 y0.length then
 bif inb y2 y1.length then
 bif (!decide ((rd1 (0:Int) y0 y2)=(rd1 (0:Int) y1 y2)))then(some (Sum.inl false))
 else(qQ L (y0,y1,(wR (y2+1))))else none else none)
 else(some (Sum.inr ()))
theorem j0:OfL qQ jc:=ofL 226 0
def Qdc:rF Qel:=fun D L (a0,a1)=>
 bif (!decide ((a0.length:Int)=(a1.length:Int)))then(some false)
 else((qQ L (a0,a1,0)).bind fun z1=>
 Qn z1 (fun u2=>
 some u2)
 (fun z3=>
 some true))
theorem Qu6:OfF Qel Qdc:=ofF 226
def Qka:rF Qcq:=fun D L (a0,a1,a2)=>
 (XA D (a0,a1)).bind fun r1=>
 bif (!r1)then(some 0)
 else((QE D (a2,0,3)).bind fun r2=>
 bif (!r2)then(some 0)
 else((xp D (a0,a1,[a2])).bind fun r3=>
 (Qbz D r3).bind fun r4=>
 (QdC D r4).bind fun r5=>
 bif decide ((1024:Int)≠0)then
 some (Int.tmod r5 1024)else none))
theorem QuX:OfF Qcq Qka:=ofF 227
def Qd8:rL qV:=fun D L (y0,y1,y2)=>
 bif (decide (y1<(y0.length:Int)))then(bif inb y1 y0.length then
 (ZX D (rd1 (0:Int) y0 y1)).bind fun r1=>
 bif fits (y2.length+r1.length) 1 then
 qV L (y0,(wR (y1+1)),(y2++r1))else none else none)
 else(some y2)
theorem QgR:OfL qV Qd8:=ofL 228 0
def QlD:rF QeE:=fun D L a0=>
 (qV L (a0,0,[])).bind fun z2=>
 (QdC D z2).bind fun r3=>
 bif decide ((1024:Int)≠0)then
 some (Int.tmod r3 1024)else none
theorem QvJ:OfF QeE QlD:=ofF 228
def Qlf:rF QeQ:=fun D L (a0,a1,a2,a3,a4,a5)=>
 (Qcv D (a1,a2,a3,a4,a5)).bind fun r1=>
 some (a0,r1)
theorem QvA:OfF QeQ Qlf:=ofF 229
def QjI:rF QcP:=fun D L (a0,a1)=>
 some (a0,a1)
theorem Qs2:OfF QcP QjI:=ofF 230
def Kn:rL ZZ:=fun D L (y0,y1,y2,y3)=>
 bif (decide (y3<y2))then(bif inb y3 y0.length then
 bif inb y3 y1.length then
 bif (!decide ((rd1 (0:Int) y0 y3)=(rd1 (0:Int) y1 y3)))then(some (Sum.inl false))
 else(ZZ L (y0,y1,y2,(wR (y3+1))))else none else none)
 else(some (Sum.inr ()))
theorem Vj:OfL ZZ Kn:=ofL 231 0
def Ja:rF V7:=fun D L (a0,a1)=>
 bif (!decide ((a0.length:Int)=(a1.length:Int)))then(some false)
 else((ZZ L (a0,a1,(a0.length:Int),0)).bind fun z1=>
 Qn z1 (fun u2=>
 some u2)
 (fun z3=>
 some true))
theorem Qmx:OfF V7 Ja:=ofF 231
def Qiy:rF QaO:=fun D L (a0,a1,a2)=>
 (Xp D (a0,a1)).bind fun r1=>
 bif (!r1)then(some 0)
 else((QA D (a2,0,3)).bind fun r2=>
 bif (!r2)then(some 0)
 else((yP D (a0,a1,[a2])).bind fun r3=>
 (zT D r3).bind fun r4=>
 (QdD D r4).bind fun r5=>
 bif decide ((1024:Int)≠0)then
 some (Int.tmod r5 1024)else none))
theorem QsN:OfF QaO Qiy:=ofF 232
def QdT:rL xa:=fun D L (y0,y1,y2,y3)=>
 bif (decide (y2<y1))then(bif inb y2 y0.length then
 (XW D (rd1 (0:Int) y0 y2)).bind fun r1=>
 (Kp D [y3,r1]).bind fun r2=>
 xa L (y0,y1,(wR (y2+1)),r2)else none)
 else(some y3)
theorem Qho:OfL xa QdT:=ofL 233 0
def Qld:rF Qed:=fun D L a0=>
 (xa L (a0,(a0.length:Int),0,[])).bind fun z3=>
 (QdD D z3).bind fun r4=>
 bif decide ((1024:Int)≠0)then
 some (Int.tmod r4 1024)else none
theorem Qwn:OfF Qed Qld:=ofF 233
def QlH:rF zp:=fun D L (a0,a1,a2,a3,a4,a5,a6,a7,a8,a9,a10,a11,a12,a13,a14,a15,a16,a17,a18,a19)=>
 (QA D (a19,0,(wR (a1 - 1)))).bind fun r1=>
 bif r1 then(some (!decide (a19=a0)))
 else(some false)
theorem QvZ:OfF zp QlH:=ofF 234
def QjS:rL qP:=fun D L (y0,y1,y2,y3,y4)=>
 bif (decide (y4<y3))then(bif inb y4 y2.length then
 let e1:=(rd1 X7 y2 y4);
 bif (decide (e1.1=y0))then(bif (e1.2.2.1==y1)then(some (Sum.inl y4))
 else(qP L (y0,y1,y2,y3,(wR (y4+1)))))
 else(qP L (y0,y1,y2,y3,(wR (y4+1))))else none)
 else(some (Sum.inr ()))
theorem Ql3:OfL qP QjS:=ofL 235 0
def QoI:rF xG:=fun D L (a0,a1,a2,a3,a4,a5,a6,a7,a8,a9,a10,a11,a12,a13,a14,a15,a16,a17,a18,a19,a20)=>
 (qP L (a19,a20,a14,(a14.length:Int),0)).bind fun z2=>
 Qn z2 (fun u3=>
 some u3)
 (fun z4=>
 some (-1))
theorem QAi:OfF xG QoI:=ofF 235
def Qjd:rF QcW:=fun D L (a0,a1,a2,a3)=>
 bif (!decide (a0=a2))then(some false)
 else(bif (!decide (a1=a3))then(some false)
 else(some true))
theorem QuB:OfF QcW Qjd:=ofF 236
def vN:rL Ka:=fun D L (y0,y1,y2,y3,y4,y5,y6,y7,y8,y9,y10,y11)=>
 bif (decide (y0<(y11.length:Int)))then(bif inb y0 y11.length then
 bif (!decide ((rd1 (0:Int) y11 y0)=0))then(bif inb y0 y11.length then
 some (Sum.inl (rd1 (0:Int) y11 y0))else none)
 else(Ka L ((wR (y0+1)),y1,y2,y3,y4,y5,y6,y7,y8,y9,y10,y11))else none)
 else(some (Sum.inr (y1,y2,y3,y4,y5,y6,y7,y8,y9,y10)))
theorem Qdr:OfL Ka vN:=ofL 237 0
def QgP:rF K2:=fun D L (a0,a1,a2,a3,a4,a5,a6,a7,a8,a9)=>
 (xV D (a0,a5)).bind fun r1=>
 (xV D (a1,a6)).bind fun r2=>
 (xV D (a2,a7)).bind fun r3=>
 (xV D (a3,a8)).bind fun r4=>
 (Ka L (0,a0,a1,a2,a3,a4,a5,a6,a7,a8,a9,[r1,r2,r3,r4])).bind fun z5=>
 Qn z5 (fun u6=>
 some u6)
 (fun z7=>
 bif (Op.bytesLess (ByteArray.toList z7.2.2.2.2.1) (ByteArray.toList z7.2.2.2.2.2.2.2.2.2))then(some (-1))
 else((QaK D (!(Op.bytesLess (ByteArray.toList z7.2.2.2.2.1) (ByteArray.toList z7.2.2.2.2.2.2.2.2.2)||qI z7.2.2.2.2.1 z7.2.2.2.2.2.2.2.2.2))).bind fun r8=>
 some r8))
theorem QrB:OfF K2 QgP:=ofF 237
def Qhm:rF vv:=fun D L (a0,a1,a2,a3,a4,a5,a6,a7,a8,a9)=>
 (qp D (a0,a5)).bind fun r1=>
 (qp D (a1,a6)).bind fun r2=>
 (qp D (a2,a7)).bind fun r3=>
 (qp D (a3,a8)).bind fun r4=>
 (zK D (a4,a9)).bind fun r5=>
 (Qti D [r1,r2,r3,r4,r5]).bind fun r6=>
 some r6
theorem Qsb:OfF vv Qhm:=ofF 238
end
end Go.Proofs.YtjenicbpdklpbaaGreat.M
