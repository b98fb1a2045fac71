/- Plain forms of the functions that FnExactAuto reaches, part 8. No conditions. -/
import Derived.Test.YtiejfnbmficbmaaGreatFnExactAutoTab
set_option linter.all false
namespace Go.Proofs.YtiejfnbmficbmaaGreat.M
open Go Go.Eng Go.Proofs
set_option linter.unusedVariables false
noncomputable section
def Qkk:rF Qdp:=fun D L (a0,a1,a2,a3,a4,a5,a6,a7,a8,a9,a10,a11,a12,a13,a14,a15,a16,a17,a18,a19,a20,a21,a22,a23,a24,a25,a26,a27,a28,a29,a30,a31)=>
 (Qay D (a0,a1,a2,a3,a4,a5,a6,a7,a8,a9,a10,a11,a12,a13,a14,a15,a16,a17,a18,a20,a31)).bind fun r1=>
 bif (decide (0<=r1))then(bif inb r1 a14.length then
 let e2:=(rd1 X9 a14 r1);
 bif (!decide (e2.2.1=a22))then(some (-1))
 else(some r1)else none)
 else(some r1)
theorem Qt0:OfF Qdp Qkk:=ofF 225
def QkD:rF VZ:=fun D L (a0,a1,a2,a3,a4,a5,a6,a7,a8,a9,a10,a11,a12,a13,a14,a15,a16,a17,a18,a19)=>
 (Xr D (a0,a1,a2,a3,a4,a5,a6,a7,a8,a9,a10,a11,a12,a13,a14,a15,a16,a17,a18)).bind fun r1=>
 bif decide ((0:Int)<=0/\0<=(a19:Int)/\a19<=(a14.length:Int))then
 bif fits (List.length ([]:List Qz)+List.length (List.take (Int.toNat (a19 - 0)) (List.drop (Int.toNat 0) a14))) 32 then
 bif decide ((0:Int)<=(wR (a19+1))/\(wR (a19+1))<=((a14.length:Int):Int)/\(a14.length:Int)<=(a14.length:Int))then
 bif fits (List.length (([]:List Qz)++List.take (Int.toNat (a19 - 0)) (List.drop (Int.toNat 0) a14))+List.length (List.take (Int.toNat ((a14.length:Int) - (wR (a19+1)))) (List.drop (Int.toNat (wR (a19+1))) a14))) 32 then
 some (r1.1,r1.2.1,r1.2.2.1,r1.2.2.2.1,r1.2.2.2.2.1,r1.2.2.2.2.2.1,r1.2.2.2.2.2.2.1,r1.2.2.2.2.2.2.2.1,r1.2.2.2.2.2.2.2.2.1,r1.2.2.2.2.2.2.2.2.2.1,r1.2.2.2.2.2.2.2.2.2.2.1,r1.2.2.2.2.2.2.2.2.2.2.2.1,r1.2.2.2.2.2.2.2.2.2.2.2.2.1,r1.2.2.2.2.2.2.2.2.2.2.2.2.2.1,((([]:List Qz)++List.take (Int.toNat (a19 - 0)) (List.drop (Int.toNat 0) a14))++List.take (Int.toNat ((a14.length:Int) - (wR (a19+1)))) (List.drop (Int.toNat (wR (a19+1))) a14)),r1.2.2.2.2.2.2.2.2.2.2.2.2.2.2.2)else none else none else none else none
theorem QvJ:OfF VZ QkD:=ofF 226
def Qi4:rF VV:=fun D L (a0,a1,a2,a3,a4,a5,a6,a7,a8,a9,a10,a11,a12,a13,a14,a15,a16,a17,a18,a19,a20)=>
 (QaT D (a0,a1,a2,a3,a4,a5,a6,a7,a8,a9,a10,a11,a12,a13,a14,a15,a16,a17,a18,a20)).bind fun r1=>
 (xq D (a2,a3,a19)).bind fun r2=>
 (Yr D (r2.1,r2.2,r1.1,r1.2.1)).bind fun r3=>
 some r3
theorem Qvl:OfF VV Qi4:=ofF 227
def qG:rL ZZ:=fun D L (y0,y1,y2,y3)=>
 bif (decide (y3<y2))then(bif inb y3 y0.length then
 bif (decide (y1=(rd1 (0:Int) y0 y3)))then(some (Sum.inl y3))
 else(ZZ L (y0,y1,y2,(wR (y3+1))))else none)
 else(some (Sum.inr ()))
theorem yk:OfL ZZ qG:=ofL 228 0
def jP:rF Jg:=fun D L (a0,a1)=>
 (ZZ L (a0,a1,(a0.length:Int),0)).bind fun z1=>
 Qp z1 (fun u2=>
 some u2)
 (fun z3=>
 some (-1))
theorem QmR:OfF Jg jP:=ofF 228
def Ql9:rF Vy:=fun D L (a0,a1,a2,a3,a4,a5,a6,a7,a8,a9,a10,a11,a12,a13,a14,a15,a16,a17,a18,a19,a20,a21,a22,a23,a24,a25,a26,a27,a28,a29,a30)=>
 (ZG D (a0,a1,a2,a3,a4,a5,a6,a7,a8,a9,a10,a11,a12,a13,a14,a15,a16,a17,a18,a19,a20,a21,a22,a23,a24,a25,a26,a27,a28,a29,a30)).bind fun r1=>
 (Qaz D (r1.1,r1.2.1,r1.2.2.1,r1.2.2.2.1,r1.2.2.2.2.1,r1.2.2.2.2.2.1,r1.2.2.2.2.2.2.1,r1.2.2.2.2.2.2.2.1,r1.2.2.2.2.2.2.2.2.1,r1.2.2.2.2.2.2.2.2.2.1,r1.2.2.2.2.2.2.2.2.2.2.1,r1.2.2.2.2.2.2.2.2.2.2.2.1,r1.2.2.2.2.2.2.2.2.2.2.2.2.1,r1.2.2.2.2.2.2.2.2.2.2.2.2.2.1,r1.2.2.2.2.2.2.2.2.2.2.2.2.2.2.1,r1.2.2.2.2.2.2.2.2.2.2.2.2.2.2.2.1,r1.2.2.2.2.2.2.2.2.2.2.2.2.2.2.2.2.1,r1.2.2.2.2.2.2.2.2.2.2.2.2.2.2.2.2.2.1,r1.2.2.2.2.2.2.2.2.2.2.2.2.2.2.2.2.2.2,a28,a29)).bind fun r2=>
 (Ju D (r2.2.2.2.2.2.2.2.2.2.1,a20,a23)).bind fun r3=>
 some (r2.1,r2.2.1,r2.2.2.1,r2.2.2.2.1,r2.2.2.2.2.1,r2.2.2.2.2.2.1,r2.2.2.2.2.2.2.1,r2.2.2.2.2.2.2.2.1,r2.2.2.2.2.2.2.2.2.1,r3,r2.2.2.2.2.2.2.2.2.2.2.1,r2.2.2.2.2.2.2.2.2.2.2.2.1,r2.2.2.2.2.2.2.2.2.2.2.2.2.1,r2.2.2.2.2.2.2.2.2.2.2.2.2.2.1,r2.2.2.2.2.2.2.2.2.2.2.2.2.2.2.1,r2.2.2.2.2.2.2.2.2.2.2.2.2.2.2.2.1,r2.2.2.2.2.2.2.2.2.2.2.2.2.2.2.2.2.1,r2.2.2.2.2.2.2.2.2.2.2.2.2.2.2.2.2.2.1,r2.2.2.2.2.2.2.2.2.2.2.2.2.2.2.2.2.2.2.1)
theorem Qw3:OfF Vy Ql9:=ofF 229
def QbU:rF ZG:=fun D L (a0,a1,a2,a3,a4,a5,a6,a7,a8,a9,a10,a11,a12,a13,a14,a15,a16,a17,a18,a19,a20,a21,a22,a23,a24,a25,a26,a27,a28,a29,a30)=>
 bif inb a0 a26.length then
 (Vx D (a6,a7,a8)).bind fun r1=>
 (Ju D (a10,a20,(mnI (rd1 (0:Int) a26 a0) r1))).bind fun r2=>
 (Vd D (a11,a20,a30)).bind fun r3=>
 (Qaz D (a0,a1,a2,a3,a4,a5,a6,a7,a8,a9,r2,r3,a12,a13,a14,a15,a16,a17,a18,[],[])).bind fun r4=>
 some (r4.1,r4.2.1,r4.2.2.1,r4.2.2.2.1,r4.2.2.2.2.1,r4.2.2.2.2.2.1,r4.2.2.2.2.2.2.1,r4.2.2.2.2.2.2.2.1,r4.2.2.2.2.2.2.2.2.1,r4.2.2.2.2.2.2.2.2.2.1,r4.2.2.2.2.2.2.2.2.2.2.1,r4.2.2.2.2.2.2.2.2.2.2.2.1,r4.2.2.2.2.2.2.2.2.2.2.2.2.1,r4.2.2.2.2.2.2.2.2.2.2.2.2.2.1,r4.2.2.2.2.2.2.2.2.2.2.2.2.2.2.1,r4.2.2.2.2.2.2.2.2.2.2.2.2.2.2.2.1,r4.2.2.2.2.2.2.2.2.2.2.2.2.2.2.2.2.1,r4.2.2.2.2.2.2.2.2.2.2.2.2.2.2.2.2.2.1,r4.2.2.2.2.2.2.2.2.2.2.2.2.2.2.2.2.2.2.1)else none
theorem QpF:OfF ZG QbU:=ofF 230
def QdI:rF yi:=fun D L (a0,a1,a2,a3,a4,a5,a6,a7,a8,a9,a10,a11,a12,a13,a14,a15,a16,a17,a18,a19,a20,a21,a22,a23,a24,a25,a26,a27,a28,a29,a30)=>
 (xR D (a0,a1,a2,a3,a4,a5,a6,a7,a8,a9,a10,a11,a12,a13,a14,a15,a16,a17,a18,a20,true)).bind fun r1=>
 bif (decide (0<=r1))then(bif inb r1 a14.length then
 let e2:=(rd1 X9 a14 r1);
 let l3:=List.set a14 (Int.toNat r1) (e2.1,a22,e2.2.2);
 bif inb r1 l3.length then
 let e4:=(rd1 X9 l3 r1);
 let l5:=List.set l3 (Int.toNat r1) (e4.1,e4.2.1,e4.2.2.1,0);
 (ZG D (a0,a1,a2,a3,a4,a5,a6,a7,a8,a9,a10,a11,a12,a13,l5,a15,a16,a17,a18,a19,a20,a21,a22,a23,a24,a25,a26,a27,a28,a29,a30)).bind fun r6=>
 (ZE D (r6.1,r6.2.1,r6.2.2.1,r6.2.2.2.1,r6.2.2.2.2.1,r6.2.2.2.2.2.1,r6.2.2.2.2.2.2.1,r6.2.2.2.2.2.2.2.1,r6.2.2.2.2.2.2.2.2.1,r6.2.2.2.2.2.2.2.2.2.1,r6.2.2.2.2.2.2.2.2.2.2.1,r6.2.2.2.2.2.2.2.2.2.2.2.1,r6.2.2.2.2.2.2.2.2.2.2.2.2.1,r6.2.2.2.2.2.2.2.2.2.2.2.2.2.1,r6.2.2.2.2.2.2.2.2.2.2.2.2.2.2.1,r6.2.2.2.2.2.2.2.2.2.2.2.2.2.2.2.1,r6.2.2.2.2.2.2.2.2.2.2.2.2.2.2.2.2.1,r6.2.2.2.2.2.2.2.2.2.2.2.2.2.2.2.2.2.1,r6.2.2.2.2.2.2.2.2.2.2.2.2.2.2.2.2.2.2,3,a20,a22)).bind fun r7=>
 (Z7 D (r6.2.2.2.2.1,r6.2.2.2.2.2.1)).bind fun r8=>
 (vq D (r6.2.2.2.2.1,r6.2.2.2.2.2.1,a24,a25)).bind fun r9=>
 (Kx D (r6.1,r6.2.1,r6.2.2.1,r6.2.2.2.1,r6.2.2.2.2.1,r6.2.2.2.2.2.1,r6.2.2.2.2.2.2.1,r6.2.2.2.2.2.2.2.1,r6.2.2.2.2.2.2.2.2.1,r6.2.2.2.2.2.2.2.2.2.1,r6.2.2.2.2.2.2.2.2.2.2.1,r6.2.2.2.2.2.2.2.2.2.2.2.1,r6.2.2.2.2.2.2.2.2.2.2.2.2.1,r6.2.2.2.2.2.2.2.2.2.2.2.2.2.1,r6.2.2.2.2.2.2.2.2.2.2.2.2.2.2.1,r6.2.2.2.2.2.2.2.2.2.2.2.2.2.2.2.1,r6.2.2.2.2.2.2.2.2.2.2.2.2.2.2.2.2.1,r6.2.2.2.2.2.2.2.2.2.2.2.2.2.2.2.2.2.1,r6.2.2.2.2.2.2.2.2.2.2.2.2.2.2.2.2.2.2,r9,a19,a20,a21,a22,a23,a24,a25,a26,a27,a28,a29,a30)).bind fun r10=>
 some (r6.1,r6.2.1,r6.2.2.1,r6.2.2.2.1,r6.2.2.2.2.1,r6.2.2.2.2.2.1,r6.2.2.2.2.2.2.1,r6.2.2.2.2.2.2.2.1,r6.2.2.2.2.2.2.2.2.1,r6.2.2.2.2.2.2.2.2.2.1,r6.2.2.2.2.2.2.2.2.2.2.1,r6.2.2.2.2.2.2.2.2.2.2.2.1,r6.2.2.2.2.2.2.2.2.2.2.2.2.1,r6.2.2.2.2.2.2.2.2.2.2.2.2.2.1,r6.2.2.2.2.2.2.2.2.2.2.2.2.2.2.1,r6.2.2.2.2.2.2.2.2.2.2.2.2.2.2.2.1,r6.2.2.2.2.2.2.2.2.2.2.2.2.2.2.2.2.1,r6.2.2.2.2.2.2.2.2.2.2.2.2.2.2.2.2.2.1,r6.2.2.2.2.2.2.2.2.2.2.2.2.2.2.2.2.2.2,[(r7.1,r7.2.1,r7.2.2.1,r7.2.2.2.1,r7.2.2.2.2.1,r8.1,r8.2,r7.2.2.2.2.2.2.2.1,r9,r10.1,r10.2,r7.2.2.2.2.2.2.2.2.2.2.2)],0)else none else none)
 else(bif (decide (a13<=(a14.length:Int)))then((ZE D (a0,a1,a2,a3,a4,a5,a6,a7,a8,a9,a10,a11,a12,a13,a14,a15,a16,a17,a18,5,a20,a22)).bind fun r11=>
 some (a0,a1,a2,a3,a4,a5,a6,a7,a8,a9,a10,a11,a12,a13,a14,a15,a16,a17,a18,[r11],3))
 else(bif fits (a14.length+ [(a20,a22,true,0)].length) 32 then
 (ZG D (a0,a1,a2,a3,a4,a5,a6,a7,a8,a9,a10,a11,a12,a13,(a14++[(a20,a22,true,0)]),a15,a16,a17,a18,a19,a20,a21,a22,a23,a24,a25,a26,a27,a28,a29,a30)).bind fun r12=>
 (ZE D (r12.1,r12.2.1,r12.2.2.1,r12.2.2.2.1,r12.2.2.2.2.1,r12.2.2.2.2.2.1,r12.2.2.2.2.2.2.1,r12.2.2.2.2.2.2.2.1,r12.2.2.2.2.2.2.2.2.1,r12.2.2.2.2.2.2.2.2.2.1,r12.2.2.2.2.2.2.2.2.2.2.1,r12.2.2.2.2.2.2.2.2.2.2.2.1,r12.2.2.2.2.2.2.2.2.2.2.2.2.1,r12.2.2.2.2.2.2.2.2.2.2.2.2.2.1,r12.2.2.2.2.2.2.2.2.2.2.2.2.2.2.1,r12.2.2.2.2.2.2.2.2.2.2.2.2.2.2.2.1,r12.2.2.2.2.2.2.2.2.2.2.2.2.2.2.2.2.1,r12.2.2.2.2.2.2.2.2.2.2.2.2.2.2.2.2.2.1,r12.2.2.2.2.2.2.2.2.2.2.2.2.2.2.2.2.2.2,3,a20,a22)).bind fun r13=>
 (Z7 D (r12.2.2.2.2.1,r12.2.2.2.2.2.1)).bind fun r14=>
 (vq D (r12.2.2.2.2.1,r12.2.2.2.2.2.1,a24,a25)).bind fun r15=>
 (Kx D (r12.1,r12.2.1,r12.2.2.1,r12.2.2.2.1,r12.2.2.2.2.1,r12.2.2.2.2.2.1,r12.2.2.2.2.2.2.1,r12.2.2.2.2.2.2.2.1,r12.2.2.2.2.2.2.2.2.1,r12.2.2.2.2.2.2.2.2.2.1,r12.2.2.2.2.2.2.2.2.2.2.1,r12.2.2.2.2.2.2.2.2.2.2.2.1,r12.2.2.2.2.2.2.2.2.2.2.2.2.1,r12.2.2.2.2.2.2.2.2.2.2.2.2.2.1,r12.2.2.2.2.2.2.2.2.2.2.2.2.2.2.1,r12.2.2.2.2.2.2.2.2.2.2.2.2.2.2.2.1,r12.2.2.2.2.2.2.2.2.2.2.2.2.2.2.2.2.1,r12.2.2.2.2.2.2.2.2.2.2.2.2.2.2.2.2.2.1,r12.2.2.2.2.2.2.2.2.2.2.2.2.2.2.2.2.2.2,r15,a19,a20,a21,a22,a23,a24,a25,a26,a27,a28,a29,a30)).bind fun r16=>
 some (r12.1,r12.2.1,r12.2.2.1,r12.2.2.2.1,r12.2.2.2.2.1,r12.2.2.2.2.2.1,r12.2.2.2.2.2.2.1,r12.2.2.2.2.2.2.2.1,r12.2.2.2.2.2.2.2.2.1,r12.2.2.2.2.2.2.2.2.2.1,r12.2.2.2.2.2.2.2.2.2.2.1,r12.2.2.2.2.2.2.2.2.2.2.2.1,r12.2.2.2.2.2.2.2.2.2.2.2.2.1,r12.2.2.2.2.2.2.2.2.2.2.2.2.2.1,r12.2.2.2.2.2.2.2.2.2.2.2.2.2.2.1,r12.2.2.2.2.2.2.2.2.2.2.2.2.2.2.2.1,r12.2.2.2.2.2.2.2.2.2.2.2.2.2.2.2.2.1,r12.2.2.2.2.2.2.2.2.2.2.2.2.2.2.2.2.2.1,r12.2.2.2.2.2.2.2.2.2.2.2.2.2.2.2.2.2.2,[(r13.1,r13.2.1,r13.2.2.1,r13.2.2.2.1,r13.2.2.2.2.1,r14.1,r14.2,r13.2.2.2.2.2.2.2.1,r15,r16.1,r16.2,r13.2.2.2.2.2.2.2.2.2.2.2)],0)else none))
theorem QpI:OfF yi QdI:=ofF 231
def QjU:rF xI:=fun D L (a0,a1,a2,a3,a4,a5,a6,a7,a8,a9,a10,a11,a12,a13,a14,a15,a16,a17,a18,a19,a20,a21,a22,a23,a24,a25,a26,a27,a28,a29,a30,a31)=>
 (xR D (a0,a1,a2,a3,a4,a5,a6,a7,a8,a9,a10,a11,a12,a13,a14,a15,a16,a17,a18,a20,a31)).bind fun r1=>
 bif (decide (r1<0))then(some (a0,a1,a2,a3,a4,a5,a6,a7,a8,a9,a10,a11,a12,a13,a14,a15,a16,a17,a18,false))
 else(bif inb r1 a14.length then
 let e2:=(rd1 X9 a14 r1);
 bif (!decide (e2.2.1=a22))then(some (a0,a1,a2,a3,a4,a5,a6,a7,a8,a9,a10,a11,a12,a13,a14,a15,a16,a17,a18,false))
 else(bif decide ((0:Int)<=0/\0<=(r1:Int)/\r1<=(a14.length:Int))then
 bif fits (List.length ([]:List Qz)+List.length (List.take (Int.toNat (r1 - 0)) (List.drop (Int.toNat 0) a14))) 32 then
 bif decide ((0:Int)<=(wR (r1+1))/\(wR (r1+1))<=((a14.length:Int):Int)/\(a14.length:Int)<=(a14.length:Int))then
 bif fits (List.length (([]:List Qz)++List.take (Int.toNat (r1 - 0)) (List.drop (Int.toNat 0) a14))+List.length (List.take (Int.toNat ((a14.length:Int) - (wR (r1+1)))) (List.drop (Int.toNat (wR (r1+1))) a14))) 32 then
 some (a0,a1,a2,a3,a4,a5,a6,a7,a8,a9,a10,a11,a12,a13,((([]:List Qz)++List.take (Int.toNat (r1 - 0)) (List.drop (Int.toNat 0) a14))++List.take (Int.toNat ((a14.length:Int) - (wR (r1+1)))) (List.drop (Int.toNat (wR (r1+1))) a14)),a15,a16,a17,a18,true)else none else none else none else none)else none)
theorem Qvi:OfF xI QjU:=ofF 232
def Qj6:rF Kx:=fun D L (a0,a1,a2,a3,a4,a5,a6,a7,a8,a9,a10,a11,a12,a13,a14,a15,a16,a17,a18,a19,a20,a21,a22,a23,a24,a25,a26,a27,a28,a29,a30,a31)=>
 bif inb a0 a27.length then
 (QlD D (a0,a1,a2,a3,a4,a5,a6,a7,a8,a9,a10,a11,a12,a13,a14,a15,a16,a17,a18,(rd1 (0:Int) a27 a0))).bind fun r1=>
 (js D (a2,a3,a19)).bind fun r2=>
 (Zs D (r2.1,r2.2,r1.1,r1.2.1)).bind fun r3=>
 some r3 else none
theorem QuN:OfF Kx Qj6:=ofF 233
def zY:rL JJ:=fun D L (y0,y1,y2)=>
 bif (decide (y2<(y0.length:Int)))then(bif inb y2 y0.length then
 let e1:=(rd1 XV y0 y2);
 (Qfe D (e1.1,e1.2.1,e1.2.2.1,e1.2.2.2.1,e1.2.2.2.2.1,e1.2.2.2.2.2,y1)).bind fun r2=>
 bif (decide (r2<0))then(some (Sum.inl (-1)))
 else(JJ L (y0,r2,(wR (y2+1))))else none)
 else(some (Sum.inr y1))
theorem yW:OfL JJ zY:=ofL 234 0
def Qj7:rF Qcy:=fun D L (a0,a1)=>
 bif (decide ((wR (a1 - (a0.length:Int)))<0))then(some (-1))
 else((JJ L (a0,(wR (a1 - (a0.length:Int))),0)).bind fun z3=>
 Qp z3 (fun u4=>
 some u4)
 (fun z5=>
 some z5))
theorem Qt5:OfF Qcy Qj7:=ofF 234
def Qhv:rF vN:=fun D L (a0,a1)=>
 bif (decide ((wR (a1 - (a0.length:Int)))<0))then(some (-1))
 else(some (wR (a1 - (a0.length:Int))))
theorem QsC:OfF vN Qhv:=ofF 235
def xV:rL VJ:=fun D L (y0,y1,y2)=>
 bif (decide (y2<(y0.length:Int)))then(bif inb y2 y0.length then
 let e1:=(rd1 Y9 y0 y2);
 (xB D (e1.1,e1.2,y1)).bind fun r2=>
 bif (decide (r2<0))then(some (Sum.inl (-1)))
 else(VJ L (y0,r2,(wR (y2+1))))else none)
 else(some (Sum.inr y1))
theorem zQ:OfL VJ xV:=ofL 236 0
def Qht:rF vX:=fun D L (a0,a1)=>
 bif (decide ((wR (a1 - (a0.length:Int)))<0))then(some (-1))
 else((VJ L (a0,(wR (a1 - (a0.length:Int))),0)).bind fun z3=>
 Qp z3 (fun u4=>
 some u4)
 (fun z5=>
 some z5))
theorem Qs2:OfF vX Qht:=ofF 236
def jk:rL xj:=fun D L (y0,y1,y2)=>
 bif (decide (y2<(y0.length:Int)))then(bif inb y2 y0.length then
 bif inb y2 y1.length then
 bif (!decide ((rd1 (0:Int) y0 y2)=(rd1 (0:Int) y1 y2)))then(some (Sum.inl false))
 else(xj L (y0,y1,(wR (y2+1))))else none else none)
 else(some (Sum.inr ()))
theorem va:OfL xj jk:=ofL 237 0
def QbX:rF QeS:=fun D L (a0,a1)=>
 bif (!decide ((a0.length:Int)=(a1.length:Int)))then(some false)
 else((xj L (a0,a1,0)).bind fun z1=>
 Qp z1 (fun u2=>
 some u2)
 (fun z3=>
 some true))
theorem Qw9:OfF QeS QbX:=ofF 237
def Qkc:rF Qc6:=fun D L (a0,a1,a2)=>
 (XA D (a0,a1)).bind fun r1=>
 bif (!r1)then(some 0)
 else((QF D (a2,0,3)).bind fun r2=>
 bif (!r2)then(some 0)
 else((xq D (a0,a1,[a2])).bind fun r3=>
 (Qa2 D r3).bind fun r4=>
 (Qem D r4).bind fun r5=>
 bif decide ((1024:Int)≠0)then
 some (Int.tmod r5 1024)else none))
theorem Qtw:OfF Qc6 Qkc:=ofF 238
def Qer:rL xp:=fun D L (y0,y1,y2)=>
 bif (decide (y1<(y0.length:Int)))then(bif inb y1 y0.length then
 (Z6 D (rd1 (0:Int) y0 y1)).bind fun r1=>
 bif fits (y2.length+r1.length) 1 then
 xp L (y0,(wR (y1+1)),(y2++r1))else none else none)
 else(some y2)
theorem QhP:OfL xp Qer:=ofL 239 0
def Qlx:rF Qfa:=fun D L a0=>
 (xp L (a0,0,[])).bind fun z2=>
 (Qem D z2).bind fun r3=>
 bif decide ((1024:Int)≠0)then
 some (Int.tmod r3 1024)else none
theorem QwX:OfF Qfa Qlx:=ofF 239
def QjX:rF Qdg:=fun D L a0=>
 (Z6 D ((ByteArray.size a0):Int)).bind fun r1=>
 bif fits (r1.length+List.length (ofBytes a0)) 1 then
 some (r1++(ofBytes a0))else none
theorem Qti:OfF Qdg QjX:=ofF 240
def QcZ:rL qd:=fun D L (y0,y1,y2)=>
 bif (decide (y1<(y0.length:Int)))then(bif inb y1 y0.length then
 let e1:=(rd1 XV y0 y1);
 (Qe2 D e1).bind fun r2=>
 bif inb y1 y2.length then
 let l3:=List.set y2 (Int.toNat y1) r2;
 qd L (y0,(wR (y1+1)),l3)else none else none)
 else(some y2)
theorem Qf8:OfL qd QcZ:=ofL 241 0
def Qjy:rF QbM:=fun D L a0=>
 bif (decide ((0:Int)<=(a0.length:Int)/\((a0.length:Int):Int)=(a0.length:Int))&&fits (Int.toNat (a0.length:Int)) 56)then
 (qd L (a0,0,(List.replicate (Int.toNat (a0.length:Int)) (0,0,0,0,0,ByteArray.empty)))).bind fun z4=>
 some z4 else none
theorem Qu6:OfF QbM Qjy:=ofF 241
def Qaq:rL Je:=fun D L (y0,y1,y2)=>
 bif (decide (y1<(y0.length:Int)))then(bif inb y1 y0.length then
 let e1:=(rd1 XP y0 y1);
 (QcK D e1).bind fun r2=>
 bif inb y1 y2.length then
 let l3:=List.set y2 (Int.toNat y1) r2;
 Je L (y0,(wR (y1+1)),l3)else none else none)
 else(some y2)
theorem QdM:OfL Je Qaq:=ofL 242 0
def QhS:rF vS:=fun D L a0=>
 bif (decide ((0:Int)<=(a0.length:Int)/\((a0.length:Int):Int)=(a0.length:Int))&&fits (Int.toNat (a0.length:Int)) 16)then
 (Je L (a0,0,(List.replicate (Int.toNat (a0.length:Int)) (0,0)))).bind fun z4=>
 some z4 else none
theorem Qsm:OfF vS QhS:=ofF 242
def v7:rL VS:=fun D L (y0,y1,y2)=>
 bif (decide (y1<(y0.length:Int)))then(bif inb y1 y0.length then
 let e1:=(rd1 Y9 y0 y1);
 (xL D e1).bind fun r2=>
 bif inb y1 y2.length then
 let l3:=List.set y2 (Int.toNat y1) r2;
 VS L (y0,(wR (y1+1)),l3)else none else none)
 else(some y2)
theorem QdB:OfL VS v7:=ofL 243 0
def QhV:rF vO:=fun D L a0=>
 bif (decide ((0:Int)<=(a0.length:Int)/\((a0.length:Int):Int)=(a0.length:Int))&&fits (Int.toNat (a0.length:Int)) 48)then
 (VS L (a0,0,(List.replicate (Int.toNat (a0.length:Int)) ([],[])))).bind fun z4=>
 some z4 else none
theorem Qsy:OfF vO QhV:=ofF 243
def Qmj:rF QeL:=fun D L (a0,a1,a2,a3)=>
 some (a0,a1,a2,a3)
theorem Qwq:OfF QeL Qmj:=ofF 244
def Qlr:rF QeO:=fun D L (a0,a1,a2)=>
 some (a0,a1,a2)
theorem QwN:OfF QeO Qlr:=ofF 245
def Qju:rF Qb5:=fun D L a0=>
 (XW D ((ByteArray.size a0):Int)).bind fun r1=>
 (Kq D [r1,(ofBytes a0)]).bind fun r2=>
 some r2
theorem QtH:OfF Qb5 Qju:=ofF 247
def Qnc:rL vD:=fun D L (y0,y1,y2,y3)=>
 bif (decide (y3<y2))then(bif inb y3 y1.length then
 (qz L ((bits .xor .i64 y0 (wR (rd1 (0:Int) y1 y3))),y1,y2,y3,0)).bind fun z1=>
 vD L (z1.1,z1.2.1,z1.2.2.1,(wR (z1.2.2.2+1)))else none)
 else(some y0)
theorem QnR:OfL vD Qnc:=ofL 248 0
def QmT:rL qz:=fun D L (y0,y1,y2,y3,y4)=>
 bif (decide (y4<8))then(bif decide ((2:Int)≠0)then
 bif decide ((2:Int)≠0)then
 bif (decide ((Int.tmod y0 2)=1))then(qz L ((bits .xor .i64 (wR (Int.tdiv y0 2)) 3988292384),y1,y2,y3,(wR (y4+1))))
 else(qz L ((wR (Int.tdiv y0 2)),y1,y2,y3,(wR (y4+1))))else none else none)
 else(some (y0,y1,y2,y3))
theorem QnO:OfL qz QmT:=ofL 248 2
def Qqg:rF Qeb:=fun D L a0=>
 (vD L (4294967295,a0,(a0.length:Int),0)).bind fun z2=>
 some (bits .xor .i64 z2 4294967295)
theorem QCp:OfF Qeb Qqg:=ofF 248
def Kr:rL Z0:=fun D L (y0,y1,y2,y3)=>
 bif (decide (y3<y2))then(bif inb y3 y0.length then
 bif inb y3 y1.length then
 bif (!decide ((rd1 (0:Int) y0 y3)=(rd1 (0:Int) y1 y3)))then(some (Sum.inl false))
 else(Z0 L (y0,y1,y2,(wR (y3+1))))else none else none)
 else(some (Sum.inr ()))
theorem Vl:OfL Z0 Kr:=ofL 249 0
def Jp:rF Ji:=fun D L (a0,a1)=>
 bif (!decide ((a0.length:Int)=(a1.length:Int)))then(some false)
 else((Z0 L (a0,a1,(a0.length:Int),0)).bind fun z1=>
 Qp z1 (fun u2=>
 some u2)
 (fun z3=>
 some true))
theorem Qm0:OfF Ji Jp:=ofF 249
def QjR:rF QbP:=fun D L (a0,a1,a2)=>
 (Xs D (a0,a1)).bind fun r1=>
 bif (!r1)then(some 0)
 else((QA D (a2,0,3)).bind fun r2=>
 bif (!r2)then(some 0)
 else((js D (a0,a1,[a2])).bind fun r3=>
 (ym D r3).bind fun r4=>
 (Qeb D r4).bind fun r5=>
 bif decide ((1024:Int)≠0)then
 some (Int.tmod r5 1024)else none))
theorem QvD:OfF QbP QjR:=ofF 250
def QdU:rL xg:=fun D L (y0,y1,y2,y3)=>
 bif (decide (y2<y1))then(bif inb y2 y0.length then
 (XW D (rd1 (0:Int) y0 y2)).bind fun r1=>
 (Kq D [y3,r1]).bind fun r2=>
 xg L (y0,y1,(wR (y2+1)),r2)else none)
 else(some y3)
theorem QhX:OfL xg QdU:=ofL 251 0
def Qlm:rF QeT:=fun D L a0=>
 (xg L (a0,(a0.length:Int),0,[])).bind fun z3=>
 (Qeb D z3).bind fun r4=>
 bif decide ((1024:Int)≠0)then
 some (Int.tmod r4 1024)else none
theorem QwQ:OfF QeT Qlm:=ofF 251
def QiW:rL qW:=fun D L (y0,y1,y2,y3,y4)=>
 bif (decide (y4<y3))then(bif inb y4 y2.length then
 let e1:=(rd1 X9 y2 y4);
 bif (decide (e1.1=y0))then(bif (e1.2.2.1==y1)then(some (Sum.inl y4))
 else(qW L (y0,y1,y2,y3,(wR (y4+1)))))
 else(qW L (y0,y1,y2,y3,(wR (y4+1))))else none)
 else(some (Sum.inr ()))
theorem QlQ:OfL qW QiW:=ofL 252 0
def Qpt:rF xR:=fun D L (a0,a1,a2,a3,a4,a5,a6,a7,a8,a9,a10,a11,a12,a13,a14,a15,a16,a17,a18,a19,a20)=>
 (qW L (a19,a20,a14,(a14.length:Int),0)).bind fun z2=>
 Qp z2 (fun u3=>
 some u3)
 (fun z4=>
 some (-1))
theorem QBr:OfF xR Qpt:=ofF 252
def QcN:rL JO:=fun D L (y0,y1,y2)=>
 bif (decide (y2<(y0.length:Int)))then(bif inb y2 y0.length then
 let e1:=(rd1 XV y0 y2);
 bif inb y2 y1.length then
 let e2:=(rd1 XV y1 y2);
 (QeF D (e1.1,e1.2.1,e1.2.2.1,e1.2.2.2.1,e1.2.2.2.2.1,e1.2.2.2.2.2,e2)).bind fun r3=>
 bif (!r3)then(some (Sum.inl false))
 else(JO L (y0,y1,(wR (y2+1))))else none else none)
 else(some (Sum.inr ()))
theorem QfG:OfL JO QcN:=ofL 253 0
def Qj9:rF Qdo:=fun D L (a0,a1)=>
 bif (!decide ((a0.length:Int)=(a1.length:Int)))then(some false)
 else((JO L (a0,a1,0)).bind fun z4=>
 Qp z4 (fun u5=>
 some u5)
 (fun z6=>
 some true))
theorem QtK:OfF Qdo Qj9:=ofF 253
end
end Go.Proofs.YtiejfnbmficbmaaGreat.M
