/- Plain forms of the functions that FnExactIslands reaches, part 6. No conditions. -/
import Derived.Test.YtiejfnbmficbmaaGreatFnExactIslandsTab
set_option linter.all false
namespace Go.Proofs.YtiejfnbmficbmaaGreat.M
open Go Go.Eng Go.Proofs
set_option linter.unusedVariables false
noncomputable section
def Qdp:rL JW:=fun D L (y0,y1,y2)=>
 bif (decide (y2<(y0.length:Int)))then(bif inb y2 y0.length then
 bif inb y2 y1.length then
 bif (!decide ((rd1 (0:Int) y0 y2)=(rd1 (0:Int) y1 y2)))then(some (Sum.inl false))
 else(JW L (y0,y1,(wR (y2+1))))else none else none)
 else(some (Sum.inr ()))
theorem Qfr:OfL JW Qdp:=ofL 194 0
def Qj4:rF QbJ:=fun D L (a0,a1)=>
 bif (!decide ((a0.length:Int)=(a1.length:Int)))then(some false)
 else((JW L (a0,a1,0)).bind fun z1=>
 Qp z1 (fun u2=>
 some u2)
 (fun z3=>
 some true))
theorem QtD:OfF QbJ Qj4:=ofF 194
def Qli:rF Ki:=fun D L (a0,a1)=>
 bif fits (List.length ([]:List Int)+a0.length) 8 then
 some ((([]:List Int)++a0),a1)else none
theorem QwA:OfF Ki Qli:=ofF 195
def Qd0:rL qV:=fun D L (y0,y1,y2,y3,y4,y5,y6)=>
 bif (decide (y0<(y3.length:Int)))then(bif inb y0 y3.length then
 let e1:=(rd1 YU y3 y0);
 (Kd D e1).bind fun r2=>
 bif fits (y6.length+ [r2].length) 48 then
 qV L ((wR (y0+1)),y1,y2,y3,y4,y5,(y6++[r2]))else none else none)
 else(some (y4,y5,y6))
theorem QhD:OfL qV Qd0:=ofL 196 0
def Ql9:rF Qew:=fun D L (a0,a1,a2)=>
 (qV L (0,a0,a1,a2,a0,a1,[])).bind fun z3=>
 some z3
theorem Qvv:OfF Qew Ql9:=ofF 196
def QdS:rL xD:=fun D L (y0,y1,y2)=>
 bif (decide (y1<(y0.length:Int)))then(bif inb y1 y0.length then
 bif fits (List.length ([]:List Int)+List.length (rd1 ([]:List Int) y0 y1)) 8 then
 bif fits (y2.length+List.length ([(([]:List Int)++(rd1 ([]:List Int) y0 y1))]:List (List Int))) 24 then
 xD L (y0,(wR (y1+1)),(y2++([(([]:List Int)++(rd1 ([]:List Int) y0 y1))]:List (List Int))))else none else none else none)
 else(some y2)
theorem Qhr:OfL xD QdS:=ofL 197 0
def QkR:rF vp:=fun D L a0=>
 (xD L (a0,0,[])).bind fun z1=>
 some z1
theorem Qwg:OfF vp QkR:=ofF 197
def QcN:rL JE:=fun D L (y0,y1,y2,y3)=>
 bif (decide (y1<(y2.length:Int)))then(bif inb y1 y2.length then
 let e1:=(rd1 XZ y2 y1);
 bif (decide (e1.1=y0))then(bif inb y1 y2.length then
 let e2:=(rd1 XZ y2 y1);
 some (Sum.inl (true,e2.2))else none)
 else(JE L (y0,(wR (y1+1)),y2,y3))else none)
 else(some (Sum.inr ()))
theorem QgG:OfL JE QcN:=ofL 198 0
def Qj5:rF Kt:=fun D L (a0,a1,a2)=>
 (JE L (a2,0,a0,a1)).bind fun z3=>
 Qp z3 (fun u4=>
 some (u4.2.1,u4.2.2.1,u4.2.2.2.1,u4.2.2.2.2.1,u4.2.2.2.2.2,u4.1))
 (fun z5=>
 some (0,0,0,0,ByteArray.empty,false))
theorem Qu6:OfF Kt Qj5:=ofF 198
def Qc5:rL ZF:=fun D L (y0,y1,y2,y3,y4,y5,y6,y7,y8,y9,y10,y11,y12,y13,y14,y15,y16,y17,y18,y19,y20,y21,y22,y23,y24,y25,y26,y27,y28,y29,y30,y31,y32,y33,y34,y35,y36,y37,y38)=>
 bif (decide (y0<(y22.length:Int)))then(bif inb y0 y22.length then
 let e7:=(rd1 XZ y22 y0);
 bif inb e7.1 y38.length then
 let e8:=(rd1 Zc y38 e7.1);
 bif (decide (e8.1<e7.2.1))then(bif inb e7.1 y38.length then
 let l9:=List.set y38 (Int.toNat e7.1) (e7.2.1,e7.2.2.2.1,y18);
 ZF L ((wR (y0+1)),y1,y2,y3,y4,y5,y6,y7,y8,y9,y10,y11,y12,y13,y14,y15,y16,y17,y18,y19,y20,y21,y22,y23,y24,y25,y26,y27,y28,y29,y30,y31,y32,y33,y34,y35,y36,y37,l9)else none)
 else(bif (decide (e7.2.1=e8.1))then(bif (decide (e8.2.1<e7.2.2.2.1))then(bif inb e7.1 y38.length then
 let l10:=List.set y38 (Int.toNat e7.1) (e7.2.1,e7.2.2.2.1,y18);
 ZF L ((wR (y0+1)),y1,y2,y3,y4,y5,y6,y7,y8,y9,y10,y11,y12,y13,y14,y15,y16,y17,y18,y19,y20,y21,y22,y23,y24,y25,y26,y27,y28,y29,y30,y31,y32,y33,y34,y35,y36,y37,l10)else none)
 else(ZF L ((wR (y0+1)),y1,y2,y3,y4,y5,y6,y7,y8,y9,y10,y11,y12,y13,y14,y15,y16,y17,y18,y19,y20,y21,y22,y23,y24,y25,y26,y27,y28,y29,y30,y31,y32,y33,y34,y35,y36,y37,y38)))
 else(ZF L ((wR (y0+1)),y1,y2,y3,y4,y5,y6,y7,y8,y9,y10,y11,y12,y13,y14,y15,y16,y17,y18,y19,y20,y21,y22,y23,y24,y25,y26,y27,y28,y29,y30,y31,y32,y33,y34,y35,y36,y37,y38)))else none else none)
 else(some (y20,y21,y22,y23,y24,y25,y26,y27,y28,y29,y30,y31,y32,y33,y34,y35,y36,y37,y38))
theorem Qfo:OfL ZF Qc5:=ofL 202 0
def Qkc:rF yy:=fun D L (a0,a1,a2,a3,a4,a5,a6,a7,a8,a9,a10,a11,a12,a13,a14,a15,a16,a17,a18,a19,a20)=>
 (Xt D (a0,a1,a2,a3,a4,a5,a6,a7,a8,a9,a10,a11,a12,a13,a14,a15,a16,a17,a18)).bind fun r1=>
 (Yf D (a2,a3,a19,a20)).bind fun r2=>
 (xC D r2).bind fun r3=>
 (K1 D (a11,a0,r3)).bind fun r4=>
 (Qa9 D (r2.1,r2.2,r4)).bind fun r5=>
 (zo D r5).bind fun r6=>
 (ZF L (0,a0,a1,a2,a3,a4,a5,a6,a7,a8,a9,a10,a11,a12,a13,a14,a15,a16,a17,a18,r1.1,r1.2.1,r5.1,r5.2,r6.1,r6.2,r1.2.2.2.2.2.2.1,r1.2.2.2.2.2.2.2.1,r1.2.2.2.2.2.2.2.2.1,r1.2.2.2.2.2.2.2.2.2.1,r1.2.2.2.2.2.2.2.2.2.2.1,r4,r1.2.2.2.2.2.2.2.2.2.2.2.2)).bind fun z11=>
 some z11
theorem QtR:OfF yy Qkc:=ofF 202
def Qhc:rF ZY:=fun D L (a0,a1)=>
 (Zx D a0).bind fun r1=>
 some (r1,a1)
theorem Qsj:OfF ZY Qhc:=ofF 203
def Qdi:rL JG:=fun D L (y0,y1,y2,y3,y4,y5)=>
 bif (decide (y2<y1))then(bif inb y2 y0.length then
 let e1:=(rd1 YU y0 y2);
 (Zy D e1).bind fun r2=>
 bif fits (y5.length+ [r2].length) 48 then
 JG L (y0,y1,(wR (y2+1)),y3,y4,(y5++[r2]))else none else none)
 else(some (y3,y4,y5))
theorem Qe9:OfL JG Qdi:=ofL 204 0
def QjK:rF QbU:=fun D L (a0,a1,a2)=>
 (JG L (a2,(a2.length:Int),0,a0,a1,[])).bind fun z3=>
 some z3
theorem Qu3:OfF QbU QjK:=ofF 204
def QhI:rF Zx:=fun D L a0=>
 bif fits (List.length ([]:List Int)+a0.length) 8 then
 some (([]:List Int)++a0)else none
theorem Qsq:OfF Zx QhI:=ofF 205
def vc:rL K9:=fun D L (y0,y1,y2,y3)=>
 bif (decide (y2<y1))then(bif inb y2 y0.length then
 (Zx D (rd1 ([]:List Int) y0 y2)).bind fun r1=>
 bif fits (y3.length+List.length ([r1]:List (List Int))) 24 then
 K9 L (y0,y1,(wR (y2+1)),(y3++([r1]:List (List Int))))else none else none)
 else(some y3)
theorem QcI:OfL K9 vc:=ofL 206 0
def Qfn:rF qU:=fun D L a0=>
 (K9 L (a0,(a0.length:Int),0,[])).bind fun z2=>
 some z2
theorem QqW:OfF qU Qfn:=ofF 206
def Qc6:rL JT:=fun D L (y0,y1,y2,y3)=>
 bif (decide (y3<y2))then(bif inb y3 y1.length then
 let e1:=(rd1 XZ y1 y3);
 bif (decide (e1.1=y0))then(some (Sum.inl (true,e1.2)))
 else(JT L (y0,y1,y2,(wR (y3+1))))else none)
 else(some (Sum.inr ()))
theorem QfE:OfL JT Qc6:=ofL 207 0
def Qjm:rF xe:=fun D L (a0,a1,a2)=>
 (JT L (a2,a0,(a0.length:Int),0)).bind fun z2=>
 Qp z2 (fun u3=>
 some (u3.2.1,u3.2.2.1,u3.2.2.2.1,u3.2.2.2.2.1,u3.2.2.2.2.2,u3.1))
 (fun z4=>
 some (0,0,0,0,ByteArray.empty,false))
theorem QuR:OfF xe Qjm:=ofF 207
def QkA:rL Kv:=fun D L (y0,y1,y2,y3,y4,y5,y6,y7,y8,y9,y10,y11,y12,y13,y14,y15,y16,y17,y18,y19,y20,y21,y22,y23,y24,y25,y26,y27,y28,y29,y30,y31,y32,y33,y34,y35,y36,y37,y38,y39)=>
 bif (decide (y1<y0))then(bif inb y1 y23.length then
 let e9:=(rd1 XZ y23 y1);
 bif inb e9.1 y39.length then
 let e10:=(rd1 Zc y39 e9.1);
 bif (decide (e10.1<e9.2.1))then(let l11:=List.set y39 (Int.toNat e9.1) (e9.2.1,e9.2.2.2.1,y19);
 Kv L (y0,(wR (y1+1)),y2,y3,y4,y5,y6,y7,y8,y9,y10,y11,y12,y13,y14,y15,y16,y17,y18,y19,y20,y21,y22,y23,y24,y25,y26,y27,y28,y29,y30,y31,y32,y33,y34,y35,y36,y37,y38,l11))
 else(let e12:=(rd1 Zc y39 e9.1);
 bif (decide (e9.2.1=e12.1))then(let e13:=(rd1 Zc y39 e9.1);
 bif (decide (e13.2.1<e9.2.2.2.1))then(let l14:=List.set y39 (Int.toNat e9.1) (e9.2.1,e9.2.2.2.1,y19);
 Kv L (y0,(wR (y1+1)),y2,y3,y4,y5,y6,y7,y8,y9,y10,y11,y12,y13,y14,y15,y16,y17,y18,y19,y20,y21,y22,y23,y24,y25,y26,y27,y28,y29,y30,y31,y32,y33,y34,y35,y36,y37,y38,l14))
 else(Kv L (y0,(wR (y1+1)),y2,y3,y4,y5,y6,y7,y8,y9,y10,y11,y12,y13,y14,y15,y16,y17,y18,y19,y20,y21,y22,y23,y24,y25,y26,y27,y28,y29,y30,y31,y32,y33,y34,y35,y36,y37,y38,y39)))
 else(Kv L (y0,(wR (y1+1)),y2,y3,y4,y5,y6,y7,y8,y9,y10,y11,y12,y13,y14,y15,y16,y17,y18,y19,y20,y21,y22,y23,y24,y25,y26,y27,y28,y29,y30,y31,y32,y33,y34,y35,y36,y37,y38,y39)))else none else none)
 else(some (y21,y22,y23,y24,y25,y26,y27,y28,y29,y30,y31,y32,y33,y34,y35,y36,y37,y38,y39))
theorem QkT:OfL Kv QkA:=ofL 211 0
def Qo5:rF QgK:=fun D L (a0,a1,a2,a3,a4,a5,a6,a7,a8,a9,a10,a11,a12,a13,a14,a15,a16,a17,a18,a19,a20)=>
 (ZW D (a0,a1,a2,a3,a4,a5,a6,a7,a8,a9,a10,a11,a12,a13,a14,a15,a16,a17,a18)).bind fun r1=>
 (ZO D (a0,a1,a2,a3,a4,a5,a6,a7,a8,a9,a10,a11,a12,a13,a14,a15,a16,a17,a18)).bind fun r2=>
 bif (!r2)then(some (r1.1,r1.2.1,r1.2.2.1,r1.2.2.2.1,r1.2.2.2.2.1,r1.2.2.2.2.2.1,r1.2.2.2.2.2.2.1,r1.2.2.2.2.2.2.2.1,r1.2.2.2.2.2.2.2.2.1,r1.2.2.2.2.2.2.2.2.2.1,r1.2.2.2.2.2.2.2.2.2.2.1,r1.2.2.2.2.2.2.2.2.2.2.2.1,r1.2.2.2.2.2.2.2.2.2.2.2.2.1,r1.2.2.2.2.2.2.2.2.2.2.2.2.2.1,r1.2.2.2.2.2.2.2.2.2.2.2.2.2.2.1,r1.2.2.2.2.2.2.2.2.2.2.2.2.2.2.2.1,r1.2.2.2.2.2.2.2.2.2.2.2.2.2.2.2.2.1,r1.2.2.2.2.2.2.2.2.2.2.2.2.2.2.2.2.2.1,r1.2.2.2.2.2.2.2.2.2.2.2.2.2.2.2.2.2.2,false))
 else((XG D (a19,a20)).bind fun r3=>
 bif (!r3)then(some (r1.1,r1.2.1,r1.2.2.1,r1.2.2.2.1,r1.2.2.2.2.1,r1.2.2.2.2.2.1,r1.2.2.2.2.2.2.1,r1.2.2.2.2.2.2.2.1,r1.2.2.2.2.2.2.2.2.1,r1.2.2.2.2.2.2.2.2.2.1,r1.2.2.2.2.2.2.2.2.2.2.1,r1.2.2.2.2.2.2.2.2.2.2.2.1,r1.2.2.2.2.2.2.2.2.2.2.2.2.1,r1.2.2.2.2.2.2.2.2.2.2.2.2.2.1,r1.2.2.2.2.2.2.2.2.2.2.2.2.2.2.1,r1.2.2.2.2.2.2.2.2.2.2.2.2.2.2.2.1,r1.2.2.2.2.2.2.2.2.2.2.2.2.2.2.2.2.1,r1.2.2.2.2.2.2.2.2.2.2.2.2.2.2.2.2.2.1,r1.2.2.2.2.2.2.2.2.2.2.2.2.2.2.2.2.2.2,false))
 else((Zi D (a2,a3,a19,a20)).bind fun r4=>
 (qP D r4).bind fun r5=>
 (KZ D (a11,a0,r5)).bind fun r6=>
 (Qc0 D (r4.1,r4.2,r6)).bind fun r7=>
 (zm D r7).bind fun r8=>
 (Kv L ((r7.1.length:Int),0,a0,a1,a2,a3,a4,a5,a6,a7,a8,a9,a10,a11,a12,a13,a14,a15,a16,a17,a18,r1.1,r1.2.1,r7.1,r7.2,r8.1,r8.2,r1.2.2.2.2.2.2.1,r1.2.2.2.2.2.2.2.1,r1.2.2.2.2.2.2.2.2.1,r1.2.2.2.2.2.2.2.2.2.1,r1.2.2.2.2.2.2.2.2.2.2.1,r6,r1.2.2.2.2.2.2.2.2.2.2.2.2)).bind fun z15=>
 some (z15.1,z15.2.1,z15.2.2.1,z15.2.2.2.1,z15.2.2.2.2.1,z15.2.2.2.2.2.1,z15.2.2.2.2.2.2.1,z15.2.2.2.2.2.2.2.1,z15.2.2.2.2.2.2.2.2.1,z15.2.2.2.2.2.2.2.2.2.1,z15.2.2.2.2.2.2.2.2.2.2.1,z15.2.2.2.2.2.2.2.2.2.2.2.1,z15.2.2.2.2.2.2.2.2.2.2.2.2.1,z15.2.2.2.2.2.2.2.2.2.2.2.2.2.1,z15.2.2.2.2.2.2.2.2.2.2.2.2.2.2.1,z15.2.2.2.2.2.2.2.2.2.2.2.2.2.2.2.1,z15.2.2.2.2.2.2.2.2.2.2.2.2.2.2.2.2.1,z15.2.2.2.2.2.2.2.2.2.2.2.2.2.2.2.2.2.1,z15.2.2.2.2.2.2.2.2.2.2.2.2.2.2.2.2.2.2,true)))
theorem QzB:OfF QgK Qo5:=ofF 211
def Qpt:rF QkG:=fun D L (a0,a1,a2,a3,a4,a5,a6,a7,a8,a9,a10,a11,a12,a13,a14,a15,a16,a17,a18,a19)=>
 (ZW D (a0,a1,a2,a3,a4,a5,a6,a7,a8,a9,a10,a11,a12,a13,a14,a15,a16,a17,a18)).bind fun r1=>
 (ZO D (a0,a1,a2,a3,a4,a5,a6,a7,a8,a9,a10,a11,a12,a13,a14,a15,a16,a17,a18)).bind fun r2=>
 bif (!r2)then(some (r1.1,r1.2.1,r1.2.2.1,r1.2.2.2.1,r1.2.2.2.2.1,r1.2.2.2.2.2.1,r1.2.2.2.2.2.2.1,r1.2.2.2.2.2.2.2.1,r1.2.2.2.2.2.2.2.2.1,r1.2.2.2.2.2.2.2.2.2.1,r1.2.2.2.2.2.2.2.2.2.2.1,r1.2.2.2.2.2.2.2.2.2.2.2.1,r1.2.2.2.2.2.2.2.2.2.2.2.2.1,r1.2.2.2.2.2.2.2.2.2.2.2.2.2.1,r1.2.2.2.2.2.2.2.2.2.2.2.2.2.2.1,r1.2.2.2.2.2.2.2.2.2.2.2.2.2.2.2.1,r1.2.2.2.2.2.2.2.2.2.2.2.2.2.2.2.2.1,r1.2.2.2.2.2.2.2.2.2.2.2.2.2.2.2.2.2.1,r1.2.2.2.2.2.2.2.2.2.2.2.2.2.2.2.2.2.2,0,0,0,0,0,[],0,[],[],[],[],[],false))
 else((zu D (a0,a1,a2,a3,a4,a5,a6,a7,a8,a9,a10,a11,a12,a13,a14,a15,a16,a17,a18,a19)).bind fun r3=>
 bif (!r3)then(some (r1.1,r1.2.1,r1.2.2.1,r1.2.2.2.1,r1.2.2.2.2.1,r1.2.2.2.2.2.1,r1.2.2.2.2.2.2.1,r1.2.2.2.2.2.2.2.1,r1.2.2.2.2.2.2.2.2.1,r1.2.2.2.2.2.2.2.2.2.1,r1.2.2.2.2.2.2.2.2.2.2.1,r1.2.2.2.2.2.2.2.2.2.2.2.1,r1.2.2.2.2.2.2.2.2.2.2.2.2.1,r1.2.2.2.2.2.2.2.2.2.2.2.2.2.1,r1.2.2.2.2.2.2.2.2.2.2.2.2.2.2.1,r1.2.2.2.2.2.2.2.2.2.2.2.2.2.2.2.1,r1.2.2.2.2.2.2.2.2.2.2.2.2.2.2.2.2.1,r1.2.2.2.2.2.2.2.2.2.2.2.2.2.2.2.2.2.1,r1.2.2.2.2.2.2.2.2.2.2.2.2.2.2.2.2.2.2,0,0,0,0,0,[],0,[],[],[],[],[],false))
 else((xF D (a0,a1,a2,a3,a4,a5,a6,a7,a8,a9,a10,a11,a12,a13,a14,a15,a16,a17,a18,a19,false)).bind fun r4=>
 bif (decide (0<=r4))then(some (r1.1,r1.2.1,r1.2.2.1,r1.2.2.2.1,r1.2.2.2.2.1,r1.2.2.2.2.2.1,r1.2.2.2.2.2.2.1,r1.2.2.2.2.2.2.2.1,r1.2.2.2.2.2.2.2.2.1,r1.2.2.2.2.2.2.2.2.2.1,r1.2.2.2.2.2.2.2.2.2.2.1,r1.2.2.2.2.2.2.2.2.2.2.2.1,r1.2.2.2.2.2.2.2.2.2.2.2.2.1,r1.2.2.2.2.2.2.2.2.2.2.2.2.2.1,r1.2.2.2.2.2.2.2.2.2.2.2.2.2.2.1,r1.2.2.2.2.2.2.2.2.2.2.2.2.2.2.2.1,r1.2.2.2.2.2.2.2.2.2.2.2.2.2.2.2.2.1,r1.2.2.2.2.2.2.2.2.2.2.2.2.2.2.2.2.2.1,r1.2.2.2.2.2.2.2.2.2.2.2.2.2.2.2.2.2.2,0,0,0,0,0,[],0,[],[],[],[],[],false))
 else(bif (decide (a13<=(a14.length:Int)))then(some (r1.1,r1.2.1,r1.2.2.1,r1.2.2.2.1,r1.2.2.2.2.1,r1.2.2.2.2.2.1,r1.2.2.2.2.2.2.1,r1.2.2.2.2.2.2.2.1,r1.2.2.2.2.2.2.2.2.1,r1.2.2.2.2.2.2.2.2.2.1,r1.2.2.2.2.2.2.2.2.2.2.1,r1.2.2.2.2.2.2.2.2.2.2.2.1,r1.2.2.2.2.2.2.2.2.2.2.2.2.1,r1.2.2.2.2.2.2.2.2.2.2.2.2.2.1,r1.2.2.2.2.2.2.2.2.2.2.2.2.2.2.1,r1.2.2.2.2.2.2.2.2.2.2.2.2.2.2.2.1,r1.2.2.2.2.2.2.2.2.2.2.2.2.2.2.2.2.1,r1.2.2.2.2.2.2.2.2.2.2.2.2.2.2.2.2.2.1,r1.2.2.2.2.2.2.2.2.2.2.2.2.2.2.2.2.2.2,0,0,0,0,0,[],0,[],[],[],[],[],false))
 else(bif (decide (a12=100000))then(some (r1.1,r1.2.1,r1.2.2.1,r1.2.2.2.1,r1.2.2.2.2.1,r1.2.2.2.2.2.1,r1.2.2.2.2.2.2.1,r1.2.2.2.2.2.2.2.1,r1.2.2.2.2.2.2.2.2.1,r1.2.2.2.2.2.2.2.2.2.1,r1.2.2.2.2.2.2.2.2.2.2.1,r1.2.2.2.2.2.2.2.2.2.2.2.1,r1.2.2.2.2.2.2.2.2.2.2.2.2.1,r1.2.2.2.2.2.2.2.2.2.2.2.2.2.1,r1.2.2.2.2.2.2.2.2.2.2.2.2.2.2.1,r1.2.2.2.2.2.2.2.2.2.2.2.2.2.2.2.1,r1.2.2.2.2.2.2.2.2.2.2.2.2.2.2.2.2.1,r1.2.2.2.2.2.2.2.2.2.2.2.2.2.2.2.2.2.1,r1.2.2.2.2.2.2.2.2.2.2.2.2.2.2.2.2.2.2,0,0,0,0,0,[],0,[],[],[],[],[],false))
 else(bif fits (r1.2.2.2.2.2.2.2.2.2.2.2.2.2.2.1.length+ [(a19,(wR (r1.2.2.2.2.2.2.2.2.2.2.2.2.1+1)),false,0)].length) 32 then
 (Zv D (r1.1,r1.2.1,r1.2.2.1,r1.2.2.2.1,r1.2.2.2.2.1,r1.2.2.2.2.2.1,r1.2.2.2.2.2.2.1,r1.2.2.2.2.2.2.2.1,r1.2.2.2.2.2.2.2.2.1,r1.2.2.2.2.2.2.2.2.2.1,r1.2.2.2.2.2.2.2.2.2.2.1,r1.2.2.2.2.2.2.2.2.2.2.2.1,(wR (r1.2.2.2.2.2.2.2.2.2.2.2.2.1+1)),r1.2.2.2.2.2.2.2.2.2.2.2.2.2.1,(r1.2.2.2.2.2.2.2.2.2.2.2.2.2.2.1++[(a19,(wR (r1.2.2.2.2.2.2.2.2.2.2.2.2.1+1)),false,0)]),r1.2.2.2.2.2.2.2.2.2.2.2.2.2.2.2.1,r1.2.2.2.2.2.2.2.2.2.2.2.2.2.2.2.2.1,r1.2.2.2.2.2.2.2.2.2.2.2.2.2.2.2.2.2.1,r1.2.2.2.2.2.2.2.2.2.2.2.2.2.2.2.2.2.2,2,a19,(wR (r1.2.2.2.2.2.2.2.2.2.2.2.2.1+1)))).bind fun r5=>
 (ZY D (a4,a5)).bind fun r6=>
 some (r1.1,r1.2.1,r1.2.2.1,r1.2.2.2.1,r1.2.2.2.2.1,r1.2.2.2.2.2.1,r1.2.2.2.2.2.2.1,r1.2.2.2.2.2.2.2.1,r1.2.2.2.2.2.2.2.2.1,r1.2.2.2.2.2.2.2.2.2.1,r1.2.2.2.2.2.2.2.2.2.2.1,r1.2.2.2.2.2.2.2.2.2.2.2.1,(wR (r1.2.2.2.2.2.2.2.2.2.2.2.2.1+1)),r1.2.2.2.2.2.2.2.2.2.2.2.2.2.1,(r1.2.2.2.2.2.2.2.2.2.2.2.2.2.2.1++[(a19,(wR (r1.2.2.2.2.2.2.2.2.2.2.2.2.1+1)),false,0)]),r1.2.2.2.2.2.2.2.2.2.2.2.2.2.2.2.1,r1.2.2.2.2.2.2.2.2.2.2.2.2.2.2.2.2.1,r1.2.2.2.2.2.2.2.2.2.2.2.2.2.2.2.2.2.1,r1.2.2.2.2.2.2.2.2.2.2.2.2.2.2.2.2.2.2,r5.1,r5.2.1,r5.2.2.1,r5.2.2.2.1,r5.2.2.2.2.1,r6.1,r6.2,r5.2.2.2.2.2.2.2.1,r5.2.2.2.2.2.2.2.2.1,r5.2.2.2.2.2.2.2.2.2.1,r5.2.2.2.2.2.2.2.2.2.2.1,r5.2.2.2.2.2.2.2.2.2.2.2,true)else none)))))
theorem QBj:OfF QkG Qpt:=ofF 212
def Qo7:rF JF:=fun D L (a0,a1,a2,a3,a4,a5,a6,a7,a8,a9,a10,a11,a12,a13,a14)=>
 bif inb a5 a0.length then
 let e1:=(rd1 Qv a0 a5);
 (Qdb D (e1.1,e1.2.1,(rd1 Qv a0 a5).2.2.1,(rd1 Qv a0 a5).2.2.2.1,(rd1 Qv a0 a5).2.2.2.2.1,e1.2.2.2.2.2.1,e1.2.2.2.2.2.2.1,e1.2.2.2.2.2.2.2.1,(rd1 Qv a0 a5).2.2.2.2.2.2.2.2.1,(rd1 Qv a0 a5).2.2.2.2.2.2.2.2.2.1,(rd1 Qv a0 a5).2.2.2.2.2.2.2.2.2.2.1,(rd1 Qv a0 a5).2.2.2.2.2.2.2.2.2.2.2.1,e1.2.2.2.2.2.2.2.2.2.2.2.2.1,e1.2.2.2.2.2.2.2.2.2.2.2.2.2.1,(rd1 Qv a0 a5).2.2.2.2.2.2.2.2.2.2.2.2.2.2.1,e1.2.2.2.2.2.2.2.2.2.2.2.2.2.2.2.1,e1.2.2.2.2.2.2.2.2.2.2.2.2.2.2.2.2.1,e1.2.2.2.2.2.2.2.2.2.2.2.2.2.2.2.2.2.1,(rd1 Qv a0 a5).2.2.2.2.2.2.2.2.2.2.2.2.2.2.2.2.2.2,a3,a4,a5,a6,a7,a8,a9,a10,a11,a12,a13,a14)).bind fun r2=>
 bif inb a5 a0.length then
 let l3:=List.set a0 (Int.toNat a5) (r2.1,r2.2.1,r2.2.2.1,r2.2.2.2.1,r2.2.2.2.2.1,r2.2.2.2.2.2.1,r2.2.2.2.2.2.2.1,r2.2.2.2.2.2.2.2.1,r2.2.2.2.2.2.2.2.2.1,r2.2.2.2.2.2.2.2.2.2.1,r2.2.2.2.2.2.2.2.2.2.2.1,r2.2.2.2.2.2.2.2.2.2.2.2.1,r2.2.2.2.2.2.2.2.2.2.2.2.2.1,r2.2.2.2.2.2.2.2.2.2.2.2.2.2.1,r2.2.2.2.2.2.2.2.2.2.2.2.2.2.2.1,r2.2.2.2.2.2.2.2.2.2.2.2.2.2.2.2.1,r2.2.2.2.2.2.2.2.2.2.2.2.2.2.2.2.2.1,r2.2.2.2.2.2.2.2.2.2.2.2.2.2.2.2.2.2.1,r2.2.2.2.2.2.2.2.2.2.2.2.2.2.2.2.2.2.2.1);
 bif (decide ((r2.2.2.2.2.2.2.2.2.2.2.2.2.2.2.2.2.2.2.2.1.length:Int)=0))then(some (0,0,0,0,0,[],0,[],[],[],[],[],(decide (r2.2.2.2.2.2.2.2.2.2.2.2.2.2.2.2.2.2.2.2.2=0)),false,l3))
 else(bif inb 0 r2.2.2.2.2.2.2.2.2.2.2.2.2.2.2.2.2.2.2.2.1.length then
 let e4:=(rd1 QL r2.2.2.2.2.2.2.2.2.2.2.2.2.2.2.2.2.2.2.2.1 0);
 bif decide ((0:Int)=0)&&Nat.blt 5 7 then
 bif decide ((0:Int)=0)&&Nat.blt 7 8 then
 bif decide ((0:Int)=0)&&Nat.blt 8 9 then
 bif decide ((0:Int)=0)&&Nat.blt 9 10 then
 bif decide ((0:Int)=0)&&Nat.blt 10 11 then
 some (e4.1,e4.2.1,e4.2.2.1,e4.2.2.2.1,e4.2.2.2.2.1,(rd1 QL r2.2.2.2.2.2.2.2.2.2.2.2.2.2.2.2.2.2.2.2.1 0).2.2.2.2.2.1,e4.2.2.2.2.2.2.1,(rd1 QL r2.2.2.2.2.2.2.2.2.2.2.2.2.2.2.2.2.2.2.2.1 0).2.2.2.2.2.2.2.1,(rd1 QL r2.2.2.2.2.2.2.2.2.2.2.2.2.2.2.2.2.2.2.2.1 0).2.2.2.2.2.2.2.2.1,(rd1 QL r2.2.2.2.2.2.2.2.2.2.2.2.2.2.2.2.2.2.2.2.1 0).2.2.2.2.2.2.2.2.2.1,(rd1 QL r2.2.2.2.2.2.2.2.2.2.2.2.2.2.2.2.2.2.2.2.1 0).2.2.2.2.2.2.2.2.2.2.1,(rd1 QL r2.2.2.2.2.2.2.2.2.2.2.2.2.2.2.2.2.2.2.2.1 0).2.2.2.2.2.2.2.2.2.2.2,(decide (r2.2.2.2.2.2.2.2.2.2.2.2.2.2.2.2.2.2.2.2.2=0)),true,l3)else none else none else none else none else none else none)else none else none
theorem Qzv:OfF JF Qo7:=ofF 213
def xW:rL VG:=fun D L (y0,y1)=>
 bif (decide (0<y0))then(bif decide ((10:Int)≠0)then
 bif fits (ByteArray.size (Y8 [(IntKind.wrap .u8 (wR (48+(Int.tmod y0 10))))])+ByteArray.size y1) 1 then
 bif decide ((10:Int)≠0)then
 VG L ((wR (Int.tdiv y0 10)),((Y8 [(IntKind.wrap .u8 (wR (48+(Int.tmod y0 10))))])++y1))else none else none else none)
 else(some y1)
theorem zD:OfL VG xW:=ofL 214 0
def QhO:rF K3:=fun D L a0=>
 bif (decide (a0<=0))then(some (⟨#[109,48]⟩:ByteArray))
 else((VG L (a0,(⟨#[]⟩:ByteArray))).bind fun z1=>
 bif fits (ByteArray.size (⟨#[109]⟩:ByteArray)+ByteArray.size z1) 1 then
 some ((⟨#[109]⟩:ByteArray)++z1)else none)
theorem Qsd:OfF K3 QhO:=ofF 214
def QcZ:rL KI:=fun D L (y0,y1,y2,y3)=>
 bif (decide (y0<5))then((vo D (y1,y2,y0)).bind fun r1=>
 bif (decide (0<r1))then(bif fits (y3.length+ [(y0,r1)].length) 16 then
 KI L ((wR (y0+1)),y1,y2,(y3++[(y0,r1)]))else none)
 else(KI L ((wR (y0+1)),y1,y2,y3)))
 else(some y3)
theorem Qgl:OfL KI QcZ:=ofL 215 0
def Qjl:rF xC:=fun D L (a0,a1)=>
 (KI L (0,a0,a1,[])).bind fun z2=>
 some z2
theorem QsN:OfF xC Qjl:=ofF 215
def Qag:rL VF:=fun D L (y0,y1,y2,y3,y4,y5)=>
 bif (decide (y0<(y3.length:Int)))then(bif inb y0 y3.length then
 let e3:=(rd1 YU y3 y0);
 (Yf D (y4,y5,e3)).bind fun r4=>
 VF L ((wR (y0+1)),y1,y2,y3,r4)else none)
 else(some (y4,y5))
theorem QdJ:OfL VF Qag:=ofL 216 0
def QhK:rF ze:=fun D L (a0,a1,a2,a3)=>
 (xR D (a0,a1,a2)).bind fun r1=>
 bif (!r1)then(some ([],[],false))
 else((QE D (a3,a1,(wR (a1+(a2.length:Int))))).bind fun r2=>
 bif (!r2)then(some ([],[],false))
 else((VF L ((wR (a3 - a1)),a0,a1,a2,[],[])).bind fun z5=>
 some (z5.1,z5.2,true)))
theorem QrV:OfF ze QhK:=ofF 216
def ja:rL xd:=fun D L (y0,y1)=>
 bif (decide (127<y0))then(bif decide ((128:Int)≠0)then
 bif fits (y1.length+ [(IntKind.wrap .u8 (wR ((Int.tmod y0 128)+128)))].length) 1 then
 bif decide ((128:Int)≠0)then
 xd L ((wR (Int.tdiv y0 128)),(y1++[(IntKind.wrap .u8 (wR ((Int.tmod y0 128)+128)))]))else none else none else none)
 else(some (y0,y1))
theorem Qha:OfL xd ja:=ofL 217 0
def QlR:rF ZK:=fun D L a0=>
 (QE D (a0,0,2147483647)).bind fun r1=>
 bif (!r1)then(some [])
 else((xd L (a0,[])).bind fun z2=>
 bif fits (z2.2.length+ [(IntKind.wrap .u8 z2.1)].length) 1 then
 some (z2.2++[(IntKind.wrap .u8 z2.1)])else none)
theorem Qvb:OfF ZK QlR:=ofF 217
def QaT:rL KJ:=fun D L (y0,y1,y2,y3)=>
 bif (decide (y0<5))then((vx D (y1,y2,y0)).bind fun r1=>
 bif (decide (0<r1))then(bif fits (y3.length+ [(y0,r1)].length) 16 then
 KJ L ((wR (y0+1)),y1,y2,(y3++[(y0,r1)]))else none)
 else(KJ L ((wR (y0+1)),y1,y2,y3)))
 else(some y3)
theorem Qgq:OfL KJ QaT:=ofL 219 0
def Qkx:rF qP:=fun D L (a0,a1)=>
 (KJ L (0,a0,a1,[])).bind fun z2=>
 some z2
theorem Qtn:OfF qP Qkx:=ofF 219
def Qak:rL VA:=fun D L (y0,y1,y2,y3,y4)=>
 bif (decide (y2<y1))then(bif inb y2 y0.length then
 let e4:=(rd1 YU y0 y2);
 (Zi D (y3,y4,e4)).bind fun r5=>
 VA L (y0,y1,(wR (y2+1)),r5)else none)
 else(some (y3,y4))
theorem Qdq:OfL VA Qak:=ofL 220 0
def QhS:rF x7:=fun D L (a0,a1,a2,a3)=>
 (xJ D (a0,a1,a2)).bind fun r1=>
 bif (!r1)then(some ([],[],false))
 else((Vf D (a0,a1,a2)).bind fun r2=>
 (QC D (a3,a1,r2)).bind fun r3=>
 bif (!r3)then(some ([],[],false))
 else(bif decide ((0:Int)<=(wR (a3 - a1))/\(wR (a3 - a1))<=((a2.length:Int):Int)/\(a2.length:Int)<=(a2.length:Int))then
 (VA L (List.take (Int.toNat ((a2.length:Int) - (wR (a3 - a1)))) (List.drop (Int.toNat (wR (a3 - a1))) a2),((List.length (List.take (Int.toNat ((a2.length:Int) - (wR (a3 - a1)))) (List.drop (Int.toNat (wR (a3 - a1))) a2))):Int),0,[],[])).bind fun z6=>
 some (z6.1,z6.2,true)else none))
theorem Qso:OfF x7 QhS:=ofF 220
end
end Go.Proofs.YtiejfnbmficbmaaGreat.M
