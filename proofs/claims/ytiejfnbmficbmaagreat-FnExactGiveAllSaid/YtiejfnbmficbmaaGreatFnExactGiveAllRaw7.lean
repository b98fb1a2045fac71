/- Plain forms of the functions that FnExactGiveAll reaches, part 7. No conditions. -/
import Derived.Test.YtiejfnbmficbmaaGreatFnExactGiveAllTab
set_option linter.all false
namespace Go.Proofs.YtiejfnbmficbmaaGreat.M
open Go Go.Eng Go.Proofs
set_option linter.unusedVariables false
noncomputable section
def Qj8:rL KC:=fun D L (y0,y1,y2,y3,y4,y5,y6,y7,y8,y9,y10,y11,y12,y13,y14,y15,y16,y17,y18,y19,y20,y21,y22,y23,y24,y25,y26,y27,y28,y29,y30,y31,y32,y33,y34,y35,y36,y37,y38,y39)=>
 bif (decide (y1<y0))then(bif inb y1 y23.length then
 let e9:=(rd1 Zc y23 y1);
 bif inb e9.1 y39.length then
 let e10:=(rd1 Zq y39 e9.1);
 bif (decide (e10.1<e9.2.1))then(let l11:=List.set y39 (Int.toNat e9.1) (e9.2.1,e9.2.2.2.1,y19);
 KC L (y0,(wR (y1+1)),y2,y3,y4,y5,y6,y7,y8,y9,y10,y11,y12,y13,y14,y15,y16,y17,y18,y19,y20,y21,y22,y23,y24,y25,y26,y27,y28,y29,y30,y31,y32,y33,y34,y35,y36,y37,y38,l11))
 else(let e12:=(rd1 Zq y39 e9.1);
 bif (decide (e9.2.1=e12.1))then(let e13:=(rd1 Zq y39 e9.1);
 bif (decide (e13.2.1<e9.2.2.2.1))then(let l14:=List.set y39 (Int.toNat e9.1) (e9.2.1,e9.2.2.2.1,y19);
 KC L (y0,(wR (y1+1)),y2,y3,y4,y5,y6,y7,y8,y9,y10,y11,y12,y13,y14,y15,y16,y17,y18,y19,y20,y21,y22,y23,y24,y25,y26,y27,y28,y29,y30,y31,y32,y33,y34,y35,y36,y37,y38,l14))
 else(KC L (y0,(wR (y1+1)),y2,y3,y4,y5,y6,y7,y8,y9,y10,y11,y12,y13,y14,y15,y16,y17,y18,y19,y20,y21,y22,y23,y24,y25,y26,y27,y28,y29,y30,y31,y32,y33,y34,y35,y36,y37,y38,y39)))
 else(KC L (y0,(wR (y1+1)),y2,y3,y4,y5,y6,y7,y8,y9,y10,y11,y12,y13,y14,y15,y16,y17,y18,y19,y20,y21,y22,y23,y24,y25,y26,y27,y28,y29,y30,y31,y32,y33,y34,y35,y36,y37,y38,y39)))else none else none)
 else(some (y21,y22,y23,y24,y25,y26,y27,y28,y29,y30,y31,y32,y33,y34,y35,y36,y37,y38,y39))
theorem QmD:OfL KC Qj8:=ofL 211 0
def QqD:rF QhP:=fun D L (a0,a1,a2,a3,a4,a5,a6,a7,a8,a9,a10,a11,a12,a13,a14,a15,a16,a17,a18,a19,a20)=>
 (Y3 D (a0,a1,a2,a3,a4,a5,a6,a7,a8,a9,a10,a11,a12,a13,a14,a15,a16,a17,a18)).bind fun r1=>
 (KA D (a0,a1,a2,a3,a4,a5,a6,a7,a8,a9,a10,a11,a12,a13,a14,a15,a16,a17,a18)).bind fun r2=>
 bif (!r2)then(some (n11T r1 (false)))
 else((XB D (a19,a20)).bind fun r3=>
 bif (!r3)then(some (n11T r1 (false)))
 else((Zs D (a2,a3,a19,a20)).bind fun r4=>
 (xM D r4).bind fun r5=>
 (Vm D (a11,a0,r5)).bind fun r6=>
 (Qb0 D (r4.1,r4.2,r6)).bind fun r7=>
 (yw D r7).bind fun r8=>
 (KC L ((r7.1.length:Int),0,a0,a1,a2,a3,a4,a5,a6,a7,a8,a9,a10,a11,a12,a13,a14,a15,a16,a17,a18,r1.1,r1.2.1,r7.1,r7.2,r8.1,r8.2,r1.2.2.2.2.2.2.1,r1.2.2.2.2.2.2.2.1,r1.2.2.2.2.2.2.2.2.1,r1.2.2.2.2.2.2.2.2.2.1,r1.2.2.2.2.2.2.2.2.2.2.1,r6,r1.2.2.2.2.2.2.2.2.2.2.2.2)).bind fun z15=>
 some (n11T z15 (true))))
theorem QC0:OfF QhP QqD:=ofF 211
def zP:rL Jt:=fun D L (y0,y1)=>
 bif (decide (0<y0))then(bif decide ((10:Int)≠0)then
 bif fits (ByteArray.size (QM [(IntKind.wrap .u8 (wR (48+(Int.tmod y0 10))))])+ByteArray.size y1) 1 then
 bif decide ((10:Int)≠0)then
 Jt L ((wR (Int.tdiv y0 10)),((QM [(IntKind.wrap .u8 (wR (48+(Int.tmod y0 10))))])++y1))else none else none else none)
 else(some y1)
theorem yF:OfL Jt zP:=ofL 214 0
def QiP:rF Vn:=fun D L a0=>
 bif (decide (a0<=0))then(some (⟨#[109,48]⟩:ByteArray))
 else((Jt L (a0,(⟨#[]⟩:ByteArray))).bind fun z1=>
 bif fits (ByteArray.size (⟨#[109]⟩:ByteArray)+ByteArray.size z1) 1 then
 some ((⟨#[109]⟩:ByteArray)++z1)else none)
theorem QtL:OfF Vn QiP:=ofF 214
def Qcn:rL KZ:=fun D L (y0,y1,y2,y3)=>
 bif (decide (y0<5))then((QaC D (y1,y2,y0)).bind fun r1=>
 bif (decide (0<r1))then(bif fits (y3.length+ [(y0,r1)].length) 16 then
 KZ L ((wR (y0+1)),y1,y2,(y3++[(y0,r1)]))else none)
 else(KZ L ((wR (y0+1)),y1,y2,y3)))
 else(some y3)
theorem Qg9:OfL KZ Qcn:=ofL 215 0
def Qlo:rF xH:=fun D L (a0,a1)=>
 (KZ L (0,a0,a1,[])).bind fun z2=>
 some z2
theorem Qww:OfF xH Qlo:=ofF 215
def Qba:rL V8:=fun D L (y0,y1,y2,y3,y4,y5)=>
 bif (decide (y0<(y3.length:Int)))then(bif inb y0 y3.length then
 let e3:=(rd1 Y9 y3 y0);
 (Yt D (y4,y5,e3)).bind fun r4=>
 V8 L ((wR (y0+1)),y1,y2,y3,r4)else none)
 else(some (y4,y5))
theorem QeX:OfL V8 Qba:=ofL 216 0
def QiX:rF ye:=fun D L (a0,a1,a2,a3)=>
 (zK D (a0,a1,a2)).bind fun r1=>
 bif (!r1)then(some ([],[],false))
 else((QL D (a3,a1,(wR (a1+(a2.length:Int))))).bind fun r2=>
 bif (!r2)then(some ([],[],false))
 else((V8 L ((wR (a3 - a1)),a0,a1,a2,[],[])).bind fun z5=>
 some (z5.1,z5.2,true)))
theorem Qt9:OfF ye QiX:=ofF 216
def vg:rL xR:=fun D L (y0,y1)=>
 bif (decide (127<y0))then(bif decide ((128:Int)≠0)then
 bif fits (y1.length+ [(IntKind.wrap .u8 (wR ((Int.tmod y0 128)+128)))].length) 1 then
 bif decide ((128:Int)≠0)then
 xR L ((wR (Int.tdiv y0 128)),(y1++[(IntKind.wrap .u8 (wR ((Int.tmod y0 128)+128)))]))else none else none else none)
 else(some (y0,y1))
theorem QiK:OfL xR vg:=ofL 217 0
def Qm4:rF Xs:=fun D L a0=>
 (QL D (a0,0,2147483647)).bind fun r1=>
 bif (!r1)then(some [])
 else((xR L (a0,[])).bind fun z2=>
 bif fits (z2.2.length+ [(IntKind.wrap .u8 z2.1)].length) 1 then
 some (z2.2++[(IntKind.wrap .u8 z2.1)])else none)
theorem QyK:OfF Xs Qm4:=ofF 217
def Qc5:rL J1:=fun D L (y0,y1,y2)=>
 bif (decide (y1<(y0.length:Int)))then(bif inb y1 y0.length then
 (Xs D (rd1 (0:Int) y0 y1)).bind fun r2=>
 bif fits (y2.length+r2.length) 1 then
 J1 L (y0,(wR (y1+1)),(y2++r2))else none else none)
 else(some y2)
theorem Qhq:OfL J1 Qc5:=ofL 218 0
def Qki:rF zg:=fun D L a0=>
 (Xs D (a0.length:Int)).bind fun r1=>
 (J1 L (a0,0,r1)).bind fun z3=>
 some z3
theorem QvB:OfF zg Qki:=ofF 218
def QbX:rL KY:=fun D L (y0,y1,y2,y3)=>
 bif (decide (y0<5))then((Qay D (y1,y2,y0)).bind fun r1=>
 bif (decide (0<r1))then(bif fits (y3.length+ [(y0,r1)].length) 16 then
 KY L ((wR (y0+1)),y1,y2,(y3++[(y0,r1)]))else none)
 else(KY L ((wR (y0+1)),y1,y2,y3)))
 else(some y3)
theorem QhA:OfL KY QbX:=ofL 219 0
def Qls:rF xM:=fun D L (a0,a1)=>
 (KY L (0,a0,a1,[])).bind fun z2=>
 some z2
theorem Qv8:OfF xM Qls:=ofF 219
def Qbm:rL V9:=fun D L (y0,y1,y2,y3,y4)=>
 bif (decide (y2<y1))then(bif inb y2 y0.length then
 let e4:=(rd1 Y9 y0 y2);
 (Zs D (y3,y4,e4)).bind fun r5=>
 V9 L (y0,y1,(wR (y2+1)),r5)else none)
 else(some (y3,y4))
theorem QeS:OfL V9 Qbm:=ofL 220 0
def Qi8:rF zX:=fun D L (a0,a1,a2,a3)=>
 (zG D (a0,a1,a2)).bind fun r1=>
 bif (!r1)then(some ([],[],false))
 else((VL D (a0,a1,a2)).bind fun r2=>
 (QA D (a3,a1,r2)).bind fun r3=>
 bif (!r3)then(some ([],[],false))
 else(bif decide ((0:Int)<=(wR (a3 - a1))/\(wR (a3 - a1))<=((a2.length:Int):Int)/\(a2.length:Int)<=(a2.length:Int))then
 (V9 L (List.take (Int.toNat ((a2.length:Int) - (wR (a3 - a1)))) (List.drop (Int.toNat (wR (a3 - a1))) a2),((List.length (List.take (Int.toNat ((a2.length:Int) - (wR (a3 - a1)))) (List.drop (Int.toNat (wR (a3 - a1))) a2))):Int),0,[],[])).bind fun z6=>
 some (z6.1,z6.2,true)else none))
theorem QtI:OfF zX Qi8:=ofF 220
def QkK:rL xA:=fun D L (y0,y1,y2,y3,y4,y5,y6,y7,y8,y9,y10,y11,y12,y13,y14,y15,y16,y17,y18,y19,y20,y21)=>
 bif (decide (y2<(y17.length:Int)))then(bif inb y2 y17.length then
 let e1:=(rd1 Zr y17 y2);
 bif (decide (e1.1=y0))then(bif inb y2 y17.length then
 let e2:=(rd1 Zr y17 y2);
 bif (e2.2.2.1==y1)then(some (Sum.inl y2))
 else(xA L (y0,y1,(wR (y2+1)),y3,y4,y5,y6,y7,y8,y9,y10,y11,y12,y13,y14,y15,y16,y17,y18,y19,y20,y21))else none)
 else(xA L (y0,y1,(wR (y2+1)),y3,y4,y5,y6,y7,y8,y9,y10,y11,y12,y13,y14,y15,y16,y17,y18,y19,y20,y21))else none)
 else(some (Sum.inr ()))
theorem QnV:OfL xA QkK:=ofL 221 0
def QqN:rF QhH:=fun D L (a0,a1,a2,a3,a4,a5,a6,a7,a8,a9,a10,a11,a12,a13,a14,a15,a16,a17,a18,a19,a20)=>
 (xA L (a19,a20,0,a0,a1,a2,a3,a4,a5,a6,a7,a8,a9,a10,a11,a12,a13,a14,a15,a16,a17,a18)).bind fun z3=>
 Qn z3 (fun u4=>
 some u4)
 (fun z5=>
 some (-1))
theorem QCd:OfF QhH QqN:=ofF 221
def Qe1:rF qq:=fun D L (a0,a1,a2,a3,a4,a5,a6,a7,a8,a9,a10,a11,a12,a13,a14,a15,a16,a17,a18,a19,a20,a21,a22,a23,a24,a25,a26,a27,a28,a29,a30)=>
 (Y5 D (a0,a1,a2,a3,a4,a5,a6,a7,a8,a9,a10,a11,a12,a13,a14,a15,a16,a17,a18,a19,a20,a21,a22,a23,a24,a25,a26,a27,a28,a29,a30)).bind fun r1=>
 (jX D (n11T r1 (a28,a29))).bind fun r2=>
 (JM D (r2.2.2.2.2.2.2.2.2.2.1,a20,a23)).bind fun r3=>
 some (r2.1,r2.2.1,r2.2.2.1,r2.2.2.2.1,r2.2.2.2.2.1,r2.2.2.2.2.2.1,r2.2.2.2.2.2.2.1,r2.2.2.2.2.2.2.2.1,r2.2.2.2.2.2.2.2.2.1,r3,r2.2.2.2.2.2.2.2.2.2.2)
theorem QrA:OfF qq Qe1:=ofF 222
def Qjj:rF Y5:=fun D L (a0,a1,a2,a3,a4,a5,a6,a7,a8,a9,a10,a11,a12,a13,a14,a15,a16,a17,a18,a19,a20,a21,a22,a23,a24,a25,a26,a27,a28,a29,a30)=>
 (XA D (a0,a1,a2,a3,a4,a5,a6,a7,a8,a9,a10,a11,a12,a13,a14,a15,a16,a17,a18)).bind fun r1=>
 bif inb a0 a26.length then
 (xe D (a6,a7,a8)).bind fun r2=>
 (Qcl D ((rd1 (0:Int) a26 a0),r2)).bind fun r3=>
 (JM D (r1.2.2.2.2.2.2.2.2.2.2.1,a20,r3)).bind fun r4=>
 (Vq D (r1.2.2.2.2.2.2.2.2.2.2.2.1,a20,a30)).bind fun r5=>
 (jX D (r1.1,r1.2.1,r1.2.2.1,r1.2.2.2.1,r1.2.2.2.2.1,r1.2.2.2.2.2.1,r1.2.2.2.2.2.2.1,r1.2.2.2.2.2.2.2.1,r1.2.2.2.2.2.2.2.2.1,r1.2.2.2.2.2.2.2.2.2.1,r4,r5,r1.2.2.2.2.2.2.2.2.2.2.2.2.1,r1.2.2.2.2.2.2.2.2.2.2.2.2.2.1,r1.2.2.2.2.2.2.2.2.2.2.2.2.2.2.1,r1.2.2.2.2.2.2.2.2.2.2.2.2.2.2.2.1,r1.2.2.2.2.2.2.2.2.2.2.2.2.2.2.2.2.1,r1.2.2.2.2.2.2.2.2.2.2.2.2.2.2.2.2.2.1,r1.2.2.2.2.2.2.2.2.2.2.2.2.2.2.2.2.2.2,[],[])).bind fun r6=>
 some r6 else none
theorem QtW:OfF Y5 Qjj:=ofF 223
def QnC:rF Qga:=fun D L (a0,a1,a2,a3,a4,a5,a6,a7,a8,a9,a10,a11,a12,a13,a14,a15,a16,a17,a18,a19,a20,a21,a22,a23,a24,a25,a26,a27,a28,a29,a30)=>
 (XA D (a0,a1,a2,a3,a4,a5,a6,a7,a8,a9,a10,a11,a12,a13,a14,a15,a16,a17,a18)).bind fun r1=>
 (QhH D (a0,a1,a2,a3,a4,a5,a6,a7,a8,a9,a10,a11,a12,a13,a14,a15,a16,a17,a18,a20,true)).bind fun r2=>
 bif (decide (0<=r2))then(bif inb r2 r1.2.2.2.2.2.2.2.2.2.2.2.2.2.2.1.length then
 let e3:=(rd1 Zr r1.2.2.2.2.2.2.2.2.2.2.2.2.2.2.1 r2);
 let l4:=List.set r1.2.2.2.2.2.2.2.2.2.2.2.2.2.2.1 (Int.toNat r2) (e3.1,a22,e3.2.2);
 bif inb r2 l4.length then
 let e5:=(rd1 Zr l4 r2);
 let l6:=List.set l4 (Int.toNat r2) (e5.1,e5.2.1,e5.2.2.1,0);
 (Y5 D (r1.1,r1.2.1,r1.2.2.1,r1.2.2.2.1,r1.2.2.2.2.1,r1.2.2.2.2.2.1,r1.2.2.2.2.2.2.1,r1.2.2.2.2.2.2.2.1,r1.2.2.2.2.2.2.2.2.1,r1.2.2.2.2.2.2.2.2.2.1,r1.2.2.2.2.2.2.2.2.2.2.1,r1.2.2.2.2.2.2.2.2.2.2.2.1,r1.2.2.2.2.2.2.2.2.2.2.2.2.1,r1.2.2.2.2.2.2.2.2.2.2.2.2.2.1,l6,r1.2.2.2.2.2.2.2.2.2.2.2.2.2.2.2.1,r1.2.2.2.2.2.2.2.2.2.2.2.2.2.2.2.2.1,r1.2.2.2.2.2.2.2.2.2.2.2.2.2.2.2.2.2.1,r1.2.2.2.2.2.2.2.2.2.2.2.2.2.2.2.2.2.2,a19,a20,a21,a22,a23,a24,a25,a26,a27,a28,a29,a30)).bind fun r7=>
 (Ks D (n11T r7 (3,a20,a22))).bind fun r8=>
 (xf D (r7.2.2.2.2.1,r7.2.2.2.2.2.1)).bind fun r9=>
 (Qaz D (r7.2.2.2.2.1,r7.2.2.2.2.2.1,a24,a25)).bind fun r10=>
 bif inb a0 a26.length then
 (Jf D (n11T r7 (r10,(rd1 (0:Int) a26 a0)))).bind fun r11=>
 some (n11T r7 ([(r8.1,r8.2.1,r8.2.2.1,r8.2.2.2.1,r8.2.2.2.2.1,r9.1,r9.2,r8.2.2.2.2.2.2.2.1,r10,r11.1,r11.2,r8.2.2.2.2.2.2.2.2.2.2.2)],0))else none else none else none)
 else(bif (decide ((a14.length:Int)=a13))then((Ks D (a0,a1,a2,a3,a4,a5,a6,a7,a8,a9,a10,a11,a12,a13,a14,a15,a16,a17,a18,5,a20,a22)).bind fun r12=>
 some (n11T r1 ([r12],3)))
 else(bif fits (r1.2.2.2.2.2.2.2.2.2.2.2.2.2.2.1.length+ [(a20,a22,true,0)].length) 32 then
 (Y5 D (r1.1,r1.2.1,r1.2.2.1,r1.2.2.2.1,r1.2.2.2.2.1,r1.2.2.2.2.2.1,r1.2.2.2.2.2.2.1,r1.2.2.2.2.2.2.2.1,r1.2.2.2.2.2.2.2.2.1,r1.2.2.2.2.2.2.2.2.2.1,r1.2.2.2.2.2.2.2.2.2.2.1,r1.2.2.2.2.2.2.2.2.2.2.2.1,r1.2.2.2.2.2.2.2.2.2.2.2.2.1,r1.2.2.2.2.2.2.2.2.2.2.2.2.2.1,(r1.2.2.2.2.2.2.2.2.2.2.2.2.2.2.1++[(a20,a22,true,0)]),r1.2.2.2.2.2.2.2.2.2.2.2.2.2.2.2.1,r1.2.2.2.2.2.2.2.2.2.2.2.2.2.2.2.2.1,r1.2.2.2.2.2.2.2.2.2.2.2.2.2.2.2.2.2.1,r1.2.2.2.2.2.2.2.2.2.2.2.2.2.2.2.2.2.2,a19,a20,a21,a22,a23,a24,a25,a26,a27,a28,a29,a30)).bind fun r13=>
 (Ks D (n11T r13 (3,a20,a22))).bind fun r14=>
 (xf D (r13.2.2.2.2.1,r13.2.2.2.2.2.1)).bind fun r15=>
 (Qaz D (r13.2.2.2.2.1,r13.2.2.2.2.2.1,a24,a25)).bind fun r16=>
 bif inb a0 a26.length then
 (Jf D (n11T r13 (r16,(rd1 (0:Int) a26 a0)))).bind fun r17=>
 some (n11T r13 ([(r14.1,r14.2.1,r14.2.2.1,r14.2.2.2.1,r14.2.2.2.2.1,r15.1,r15.2,r14.2.2.2.2.2.2.2.1,r16,r17.1,r17.2,r14.2.2.2.2.2.2.2.2.2.2.2)],0))else none else none))
theorem Qx2:OfF Qga QnC:=ofF 224
def Qld:rF Qdt:=fun D L (a0,a1,a2,a3,a4,a5,a6,a7,a8,a9,a10,a11,a12,a13,a14,a15,a16,a17,a18,a19,a20,a21,a22,a23,a24,a25,a26,a27,a28,a29,a30,a31)=>
 (QhH D (a0,a1,a2,a3,a4,a5,a6,a7,a8,a9,a10,a11,a12,a13,a14,a15,a16,a17,a18,a20,a31)).bind fun r1=>
 bif (decide (0<=r1))then(bif inb r1 a14.length then
 let e2:=(rd1 Zr a14 r1);
 bif (!decide (e2.2.1=a22))then(some (-1))
 else(some r1)else none)
 else(some r1)
theorem Qxt:OfF Qdt Qld:=ofF 225
def QkU:rF Jv:=fun D L (a0,a1,a2,a3,a4,a5,a6,a7,a8,a9,a10,a11,a12,a13,a14,a15,a16,a17,a18,a19)=>
 (XA D (a0,a1,a2,a3,a4,a5,a6,a7,a8,a9,a10,a11,a12,a13,a14,a15,a16,a17,a18)).bind fun r1=>
 bif decide ((0:Int)<=0/\0<=(a19:Int)/\a19<=(a14.length:Int))then
 bif fits (List.length ([]:List QB)+List.length (List.take (Int.toNat (a19 - 0)) (List.drop (Int.toNat 0) a14))) 32 then
 bif decide ((0:Int)<=(wR (a19+1))/\(wR (a19+1))<=((a14.length:Int):Int)/\(a14.length:Int)<=(a14.length:Int))then
 bif fits (List.length (([]:List QB)++List.take (Int.toNat (a19 - 0)) (List.drop (Int.toNat 0) a14))+List.length (List.take (Int.toNat ((a14.length:Int) - (wR (a19+1)))) (List.drop (Int.toNat (wR (a19+1))) a14))) 32 then
 some (r1.1,r1.2.1,r1.2.2.1,r1.2.2.2.1,r1.2.2.2.2.1,r1.2.2.2.2.2.1,r1.2.2.2.2.2.2.1,r1.2.2.2.2.2.2.2.1,r1.2.2.2.2.2.2.2.2.1,r1.2.2.2.2.2.2.2.2.2.1,r1.2.2.2.2.2.2.2.2.2.2.1,r1.2.2.2.2.2.2.2.2.2.2.2.1,r1.2.2.2.2.2.2.2.2.2.2.2.2.1,r1.2.2.2.2.2.2.2.2.2.2.2.2.2.1,((([]:List QB)++List.take (Int.toNat (a19 - 0)) (List.drop (Int.toNat 0) a14))++List.take (Int.toNat ((a14.length:Int) - (wR (a19+1)))) (List.drop (Int.toNat (wR (a19+1))) a14)),r1.2.2.2.2.2.2.2.2.2.2.2.2.2.2.2)else none else none else none else none
theorem QwD:OfF Jv QkU:=ofF 226
def Ql5:rF Jf:=fun D L (a0,a1,a2,a3,a4,a5,a6,a7,a8,a9,a10,a11,a12,a13,a14,a15,a16,a17,a18,a19,a20)=>
 (QeE D (a0,a1,a2,a3,a4,a5,a6,a7,a8,a9,a10,a11,a12,a13,a14,a15,a16,a17,a18,a20)).bind fun r1=>
 (xG D (a2,a3,a19)).bind fun r2=>
 (Yt D (r2.1,r2.2,r1.1,r1.2.1)).bind fun r3=>
 some r3
theorem Qwb:OfF Jf Ql5:=ofF 227
def xl:rL Z5:=fun D L (y0,y1,y2,y3)=>
 bif (decide (y3<y2))then(bif inb y3 y0.length then
 bif (decide (y1=(rd1 (0:Int) y0 y3)))then(some (Sum.inl y3))
 else(Z5 L (y0,y1,y2,(wR (y3+1))))else none)
 else(some (Sum.inr ()))
theorem je:OfL Z5 xl:=ofL 228 0
def vD:rF JB:=fun D L (a0,a1)=>
 (Z5 L (a0,a1,(a0.length:Int),0)).bind fun z1=>
 Qn z1 (fun u2=>
 some u2)
 (fun z3=>
 some (-1))
theorem Qn2:OfF JB vD:=ofF 228
def Qnz:rF VR:=fun D L (a0,a1,a2,a3,a4,a5,a6,a7,a8,a9,a10,a11,a12,a13,a14,a15,a16,a17,a18,a19,a20,a21,a22,a23,a24,a25,a26,a27,a28,a29,a30)=>
 (ZE D (a0,a1,a2,a3,a4,a5,a6,a7,a8,a9,a10,a11,a12,a13,a14,a15,a16,a17,a18,a19,a20,a21,a22,a23,a24,a25,a26,a27,a28,a29,a30)).bind fun r1=>
 (QhP D (n11T r1 (a28,a29))).bind fun r2=>
 (JS D (r2.2.2.2.2.2.2.2.2.2.1,a20,a23)).bind fun r3=>
 some (r2.1,r2.2.1,r2.2.2.1,r2.2.2.2.1,r2.2.2.2.2.1,r2.2.2.2.2.2.1,r2.2.2.2.2.2.2.1,r2.2.2.2.2.2.2.2.1,r2.2.2.2.2.2.2.2.2.1,r3,r2.2.2.2.2.2.2.2.2.2.2.1,r2.2.2.2.2.2.2.2.2.2.2.2.1,r2.2.2.2.2.2.2.2.2.2.2.2.2.1,r2.2.2.2.2.2.2.2.2.2.2.2.2.2.1,r2.2.2.2.2.2.2.2.2.2.2.2.2.2.2.1,r2.2.2.2.2.2.2.2.2.2.2.2.2.2.2.2.1,r2.2.2.2.2.2.2.2.2.2.2.2.2.2.2.2.2.1,r2.2.2.2.2.2.2.2.2.2.2.2.2.2.2.2.2.2.1,r2.2.2.2.2.2.2.2.2.2.2.2.2.2.2.2.2.2.2.1)
theorem Qx8:OfF VR Qnz:=ofF 229
def Qet:rF ZE:=fun D L (a0,a1,a2,a3,a4,a5,a6,a7,a8,a9,a10,a11,a12,a13,a14,a15,a16,a17,a18,a19,a20,a21,a22,a23,a24,a25,a26,a27,a28,a29,a30)=>
 bif inb a0 a26.length then
 (VL D (a6,a7,a8)).bind fun r1=>
 (JS D (a10,a20,(mnI (rd1 (0:Int) a26 a0) r1))).bind fun r2=>
 (Vm D (a11,a20,a30)).bind fun r3=>
 (QhP D (a0,a1,a2,a3,a4,a5,a6,a7,a8,a9,r2,r3,a12,a13,a14,a15,a16,a17,a18,[],[])).bind fun r4=>
 some (r4.1,r4.2.1,r4.2.2.1,r4.2.2.2.1,r4.2.2.2.2.1,r4.2.2.2.2.2.1,r4.2.2.2.2.2.2.1,r4.2.2.2.2.2.2.2.1,r4.2.2.2.2.2.2.2.2.1,r4.2.2.2.2.2.2.2.2.2.1,r4.2.2.2.2.2.2.2.2.2.2.1,r4.2.2.2.2.2.2.2.2.2.2.2.1,r4.2.2.2.2.2.2.2.2.2.2.2.2.1,r4.2.2.2.2.2.2.2.2.2.2.2.2.2.1,r4.2.2.2.2.2.2.2.2.2.2.2.2.2.2.1,r4.2.2.2.2.2.2.2.2.2.2.2.2.2.2.2.1,r4.2.2.2.2.2.2.2.2.2.2.2.2.2.2.2.2.1,r4.2.2.2.2.2.2.2.2.2.2.2.2.2.2.2.2.2.1,r4.2.2.2.2.2.2.2.2.2.2.2.2.2.2.2.2.2.2.1)else none
theorem QqS:OfF ZE Qet:=ofF 230
end
end Go.Proofs.YtiejfnbmficbmaaGreat.M
