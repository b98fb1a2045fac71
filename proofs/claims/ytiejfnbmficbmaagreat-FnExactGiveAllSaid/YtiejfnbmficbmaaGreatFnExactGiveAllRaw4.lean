/- Plain forms of the functions that FnExactGiveAll reaches, part 4. No conditions. -/
import Derived.Test.YtiejfnbmficbmaaGreatFnExactGiveAllTab
set_option linter.all false
namespace Go.Proofs.YtiejfnbmficbmaaGreat.M
open Go Go.Eng Go.Proofs
set_option linter.unusedVariables false
noncomputable section
def Qmz:rF Qge:=fun D L (a0,a1,a2,a3,a4,a5,a6,a7,a8,a9,a10,a11,a12,a13,a14,a15,a16,a17,a18,a19)=>
 (QA D (a19,0,(wR (a1 - 1)))).bind fun r1=>
 bif r1 then(some (!decide (a19=a0)))
 else(some false)
theorem QxK:OfF Qge Qmz:=ofF 126
def Qku:rF YF:=fun D L (a0,a1,a2,a3,a4,a5,a6,a7,a8,a9,a10,a11,a12,a13,a14,a15,a16,a17,a18,a19,a20,a21)=>
 (VL D (a6,a7,a8)).bind fun r1=>
 (ZI D a9).bind fun r2=>
 (xM D (a2,a3)).bind fun r3=>
 some (a19,a0,a20,a21,r1,[],0,r2,[],[],[],r3)
theorem Qvw:OfF YF Qku:=ofF 127
def QqE:rF QnO:=fun D L (a0,a1,a2,a3,a4,a5,a6,a7,a8,a9,a10,a11,a12,a13,a14,a15,a16,a17,a18,a19)=>
 (KA D (a0,a1,a2,a3,a4,a5,a6,a7,a8,a9,a10,a11,a12,a13,a14,a15,a16,a17,a18)).bind fun r1=>
 bif (!r1)then(some ([],[],false))
 else((zX D (a6,a7,a8,a19)).bind fun r2=>
 bif (!r2.2.2)then((ZO D (a2,a3)).bind fun r3=>
 some (r3.1,r3.2,false))
 else(some (r2.1,r2.2.1,true)))
theorem QB3:OfF QnO QqE:=ofF 128
def Qkk:rF QbT:=fun D L (a0,a1,a2,a3,a4,a5,a6,a7,a8,a9,a10,a11,a12,a13,a14,a15,a16,a17,a18,a19,a20,a21,a22,a23,a24,a25,a26,a27,a28,a29,a30)=>
 (qV D (a0,a1,a2,a3,a4,a5,a6,a7,a8,a9,a10,a11,a12,a13,a14,a15,a16,a17,a18)).bind fun r1=>
 bif (!r1)then((XA D (a0,a1,a2,a3,a4,a5,a6,a7,a8,a9,a10,a11,a12,a13,a14,a15,a16,a17,a18)).bind fun r2=>
 some (n11T r2 ([],1)))
 else((zr D (a19,a20,a21,a22,a23,a24,a25,a26,a27,a28,a29,a30)).bind fun r3=>
 bif (!r3)then((XA D (a0,a1,a2,a3,a4,a5,a6,a7,a8,a9,a10,a11,a12,a13,a14,a15,a16,a17,a18)).bind fun r4=>
 some (n11T r4 ([],1)))
 else(bif (!decide (a21=a0))then((XA D (a0,a1,a2,a3,a4,a5,a6,a7,a8,a9,a10,a11,a12,a13,a14,a15,a16,a17,a18)).bind fun r5=>
 some (n11T r5 ([],1)))
 else(bif (decide (a1<=a20))then((XA D (a0,a1,a2,a3,a4,a5,a6,a7,a8,a9,a10,a11,a12,a13,a14,a15,a16,a17,a18)).bind fun r6=>
 some (n11T r6 ([],1)))
 else(bif (!decide ((a26.length:Int)=a1))then((XA D (a0,a1,a2,a3,a4,a5,a6,a7,a8,a9,a10,a11,a12,a13,a14,a15,a16,a17,a18)).bind fun r7=>
 some (n11T r7 ([],1)))
 else(bif (decide (a19=0))then((qq D (a0,a1,a2,a3,a4,a5,a6,a7,a8,a9,a10,a11,a12,a13,a14,a15,a16,a17,a18,a19,a20,a21,a22,a23,a24,a25,a26,a27,a28,a29,a30)).bind fun r8=>
 (Ks D (n11T r8 (1,a20,a22))).bind fun r9=>
 some (n11T r8 ([r9],0)))
 else(bif (decide (a19=1))then((Y5 D (a0,a1,a2,a3,a4,a5,a6,a7,a8,a9,a10,a11,a12,a13,a14,a15,a16,a17,a18,a19,a20,a21,a22,a23,a24,a25,a26,a27,a28,a29,a30)).bind fun r10=>
 some (n11T r10 ([],0)))
 else(bif (decide (a19=2))then((Qga D (a0,a1,a2,a3,a4,a5,a6,a7,a8,a9,a10,a11,a12,a13,a14,a15,a16,a17,a18,a19,a20,a21,a22,a23,a24,a25,a26,a27,a28,a29,a30)).bind fun r11=>
 some r11)
 else((Qdt D (a0,a1,a2,a3,a4,a5,a6,a7,a8,a9,a10,a11,a12,a13,a14,a15,a16,a17,a18,a19,a20,a21,a22,a23,a24,a25,a26,a27,a28,a29,a30,(decide (a19=4)))).bind fun r12=>
 bif (decide (r12<0))then((XA D (a0,a1,a2,a3,a4,a5,a6,a7,a8,a9,a10,a11,a12,a13,a14,a15,a16,a17,a18)).bind fun r13=>
 some (n11T r13 ([],2)))
 else((Jv D (a0,a1,a2,a3,a4,a5,a6,a7,a8,a9,a10,a11,a12,a13,a14,a15,a16,a17,a18,r12)).bind fun r14=>
 bif (decide (a19=5))then(some (n11T r14 ([],0)))
 else((qq D (n11T r14 (a19,a20,a21,a22,a23,a24,a25,a26,a27,a28,a29,a30))).bind fun r15=>
 bif (decide (a19=4))then(some (n11T r15 ([],0)))
 else((Ks D (n11T r15 (4,a20,a22))).bind fun r16=>
 bif fits (List.length ([]:List Int)+a27.length) 8 then
 bif inb a0 a26.length then
 (Jf D (n11T r15 ((([]:List Int)++a27),(rd1 (0:Int) a26 a0)))).bind fun r17=>
 some (n11T r15 ([(r16.1,r16.2.1,r16.2.2.1,r16.2.2.2.1,r16.2.2.2.2.1,r16.2.2.2.2.2.1,r16.2.2.2.2.2.2.1,r16.2.2.2.2.2.2.2.1,(([]:List Int)++a27),r17.1,r17.2,r16.2.2.2.2.2.2.2.2.2.2.2)],0))else none else none)))))))))))
theorem Qwk:OfF QbT Qkk:=ofF 131
def QiA:rL yi:=fun D L (y0,y1,y2)=>
 bif (decide (y2<(y0.length:Int)))then(bif inb y2 y0.length then
 bif (decide ((rd1 (0:Int) y0 y2)=y1))then(some (Sum.inl true))
 else(yi L (y0,y1,(wR (y2+1))))else none)
 else(some (Sum.inr ()))
theorem Qj4:OfL yi QiA:=ofL 132 0
def Qpe:rF vn:=fun D L (a0,a1)=>
 (yi L (a0,a1,0)).bind fun z1=>
 Qn z1 (fun u2=>
 some u2)
 (fun z3=>
 some false)
theorem QAd:OfF vn Qpe:=ofF 132
def zZ:rF Zv:=fun D L (a0,a1)=>
 (JB D (a0,a1)).bind fun r1=>
 some (decide (0<=r1))
theorem QjK:OfF Zv zZ:=ofF 133
def Qmk:rF Qdm:=fun D L (a0,a1,a2,a3,a4,a5,a6,a7,a8,a9,a10,a11,a12,a13,a14,a15,a16,a17,a18,a19,a20,a21,a22,a23,a24,a25,a26,a27,a28,a29,a30)=>
 (Y3 D (a0,a1,a2,a3,a4,a5,a6,a7,a8,a9,a10,a11,a12,a13,a14,a15,a16,a17,a18)).bind fun r1=>
 (KA D (a0,a1,a2,a3,a4,a5,a6,a7,a8,a9,a10,a11,a12,a13,a14,a15,a16,a17,a18)).bind fun r2=>
 bif (!r2)then(some (n11T r1 ([],1)))
 else((zQ D (a19,a20,a21,a22,a23,a24,a25,a26,a27,a28,a29,a30)).bind fun r3=>
 bif (!r3)then(some (n11T r1 ([],1)))
 else(bif (!decide (a21=a0))then(some (n11T r1 ([],1)))
 else(bif (decide (a1<=a20))then(some (n11T r1 ([],1)))
 else(bif (!decide ((a26.length:Int)=a1))then(some (n11T r1 ([],1)))
 else(bif (decide (a19=0))then((VR D (n11T r1 (a19,a20,a21,a22,a23,a24,a25,a26,a27,a28,a29,a30))).bind fun r4=>
 (YF D (n11T r4 (1,a20,a22))).bind fun r5=>
 some (n11T r4 ([r5],0)))
 else(bif (decide (a19=1))then((ZE D (n11T r1 (a19,a20,a21,a22,a23,a24,a25,a26,a27,a28,a29,a30))).bind fun r6=>
 some (n11T r6 ([],0)))
 else(bif (decide (a19=2))then((yS D (n11T r1 (a19,a20,a21,a22,a23,a24,a25,a26,a27,a28,a29,a30))).bind fun r7=>
 some r7)
 else(bif (decide (a19=3))then((xL D (n11T r1 (a19,a20,a21,a22,a23,a24,a25,a26,a27,a28,a29,a30,false))).bind fun r8=>
 bif (!r8.2.2.2.2.2.2.2.2.2.2.2.2.2.2.2.2.2.2.2)then(some (r8.1,r8.2.1,r8.2.2.1,r8.2.2.2.1,r8.2.2.2.2.1,r8.2.2.2.2.2.1,r8.2.2.2.2.2.2.1,r8.2.2.2.2.2.2.2.1,r8.2.2.2.2.2.2.2.2.1,r8.2.2.2.2.2.2.2.2.2.1,r8.2.2.2.2.2.2.2.2.2.2.1,r8.2.2.2.2.2.2.2.2.2.2.2.1,r8.2.2.2.2.2.2.2.2.2.2.2.2.1,r8.2.2.2.2.2.2.2.2.2.2.2.2.2.1,r8.2.2.2.2.2.2.2.2.2.2.2.2.2.2.1,r8.2.2.2.2.2.2.2.2.2.2.2.2.2.2.2.1,r8.2.2.2.2.2.2.2.2.2.2.2.2.2.2.2.2.1,r8.2.2.2.2.2.2.2.2.2.2.2.2.2.2.2.2.2.1,r8.2.2.2.2.2.2.2.2.2.2.2.2.2.2.2.2.2.2.1,[],2))
 else((VR D (r8.1,r8.2.1,r8.2.2.1,r8.2.2.2.1,r8.2.2.2.2.1,r8.2.2.2.2.2.1,r8.2.2.2.2.2.2.1,r8.2.2.2.2.2.2.2.1,r8.2.2.2.2.2.2.2.2.1,r8.2.2.2.2.2.2.2.2.2.1,r8.2.2.2.2.2.2.2.2.2.2.1,r8.2.2.2.2.2.2.2.2.2.2.2.1,r8.2.2.2.2.2.2.2.2.2.2.2.2.1,r8.2.2.2.2.2.2.2.2.2.2.2.2.2.1,r8.2.2.2.2.2.2.2.2.2.2.2.2.2.2.1,r8.2.2.2.2.2.2.2.2.2.2.2.2.2.2.2.1,r8.2.2.2.2.2.2.2.2.2.2.2.2.2.2.2.2.1,r8.2.2.2.2.2.2.2.2.2.2.2.2.2.2.2.2.2.1,r8.2.2.2.2.2.2.2.2.2.2.2.2.2.2.2.2.2.2.1,a19,a20,a21,a22,a23,a24,a25,a26,a27,a28,a29,a30)).bind fun r9=>
 (YF D (n11T r9 (4,a20,a22))).bind fun r10=>
 (ZI D a27).bind fun r11=>
 (KD D (n11T r9 (a27,a19,a20,a21,a22,a23,a24,a25,a26,a27,a28,a29,a30))).bind fun r12=>
 some (n11T r9 ([(r10.1,r10.2.1,r10.2.2.1,r10.2.2.2.1,r10.2.2.2.2.1,r10.2.2.2.2.2.1,r10.2.2.2.2.2.2.1,r10.2.2.2.2.2.2.2.1,r11,r12.1,r12.2,r10.2.2.2.2.2.2.2.2.2.2.2)],0))))
 else(bif (decide (a19=4))then((xL D (n11T r1 (a19,a20,a21,a22,a23,a24,a25,a26,a27,a28,a29,a30,true))).bind fun r13=>
 bif (!r13.2.2.2.2.2.2.2.2.2.2.2.2.2.2.2.2.2.2.2)then(some (r13.1,r13.2.1,r13.2.2.1,r13.2.2.2.1,r13.2.2.2.2.1,r13.2.2.2.2.2.1,r13.2.2.2.2.2.2.1,r13.2.2.2.2.2.2.2.1,r13.2.2.2.2.2.2.2.2.1,r13.2.2.2.2.2.2.2.2.2.1,r13.2.2.2.2.2.2.2.2.2.2.1,r13.2.2.2.2.2.2.2.2.2.2.2.1,r13.2.2.2.2.2.2.2.2.2.2.2.2.1,r13.2.2.2.2.2.2.2.2.2.2.2.2.2.1,r13.2.2.2.2.2.2.2.2.2.2.2.2.2.2.1,r13.2.2.2.2.2.2.2.2.2.2.2.2.2.2.2.1,r13.2.2.2.2.2.2.2.2.2.2.2.2.2.2.2.2.1,r13.2.2.2.2.2.2.2.2.2.2.2.2.2.2.2.2.2.1,r13.2.2.2.2.2.2.2.2.2.2.2.2.2.2.2.2.2.2.1,[],2))
 else((VR D (r13.1,r13.2.1,r13.2.2.1,r13.2.2.2.1,r13.2.2.2.2.1,r13.2.2.2.2.2.1,r13.2.2.2.2.2.2.1,r13.2.2.2.2.2.2.2.1,r13.2.2.2.2.2.2.2.2.1,r13.2.2.2.2.2.2.2.2.2.1,r13.2.2.2.2.2.2.2.2.2.2.1,r13.2.2.2.2.2.2.2.2.2.2.2.1,r13.2.2.2.2.2.2.2.2.2.2.2.2.1,r13.2.2.2.2.2.2.2.2.2.2.2.2.2.1,r13.2.2.2.2.2.2.2.2.2.2.2.2.2.2.1,r13.2.2.2.2.2.2.2.2.2.2.2.2.2.2.2.1,r13.2.2.2.2.2.2.2.2.2.2.2.2.2.2.2.2.1,r13.2.2.2.2.2.2.2.2.2.2.2.2.2.2.2.2.2.1,r13.2.2.2.2.2.2.2.2.2.2.2.2.2.2.2.2.2.2.1,a19,a20,a21,a22,a23,a24,a25,a26,a27,a28,a29,a30)).bind fun r14=>
 some (n11T r14 ([],0))))
 else((xL D (n11T r1 (a19,a20,a21,a22,a23,a24,a25,a26,a27,a28,a29,a30,false))).bind fun r15=>
 bif (!r15.2.2.2.2.2.2.2.2.2.2.2.2.2.2.2.2.2.2.2)then(some (r15.1,r15.2.1,r15.2.2.1,r15.2.2.2.1,r15.2.2.2.2.1,r15.2.2.2.2.2.1,r15.2.2.2.2.2.2.1,r15.2.2.2.2.2.2.2.1,r15.2.2.2.2.2.2.2.2.1,r15.2.2.2.2.2.2.2.2.2.1,r15.2.2.2.2.2.2.2.2.2.2.1,r15.2.2.2.2.2.2.2.2.2.2.2.1,r15.2.2.2.2.2.2.2.2.2.2.2.2.1,r15.2.2.2.2.2.2.2.2.2.2.2.2.2.1,r15.2.2.2.2.2.2.2.2.2.2.2.2.2.2.1,r15.2.2.2.2.2.2.2.2.2.2.2.2.2.2.2.1,r15.2.2.2.2.2.2.2.2.2.2.2.2.2.2.2.2.1,r15.2.2.2.2.2.2.2.2.2.2.2.2.2.2.2.2.2.1,r15.2.2.2.2.2.2.2.2.2.2.2.2.2.2.2.2.2.2.1,[],2))
 else(some (r15.1,r15.2.1,r15.2.2.1,r15.2.2.2.1,r15.2.2.2.2.1,r15.2.2.2.2.2.1,r15.2.2.2.2.2.2.1,r15.2.2.2.2.2.2.2.1,r15.2.2.2.2.2.2.2.2.1,r15.2.2.2.2.2.2.2.2.2.1,r15.2.2.2.2.2.2.2.2.2.2.1,r15.2.2.2.2.2.2.2.2.2.2.2.1,r15.2.2.2.2.2.2.2.2.2.2.2.2.1,r15.2.2.2.2.2.2.2.2.2.2.2.2.2.1,r15.2.2.2.2.2.2.2.2.2.2.2.2.2.2.1,r15.2.2.2.2.2.2.2.2.2.2.2.2.2.2.2.1,r15.2.2.2.2.2.2.2.2.2.2.2.2.2.2.2.2.1,r15.2.2.2.2.2.2.2.2.2.2.2.2.2.2.2.2.2.1,r15.2.2.2.2.2.2.2.2.2.2.2.2.2.2.2.2.2.2.1,[],0))))))))))))
theorem Qwu:OfF Qdm Qmk:=ofF 134
def QlA:rF zd:=fun D L (a0,a1,a2)=>
 (Qdb D (a0,a2)).bind fun r1=>
 bif (decide (r1<0))then(some (-1))
 else((QaU D (a1,r1)).bind fun r2=>
 bif (decide (r2<0))then(some (-1))
 else(some r2))
theorem Qwp:OfF zd QlA:=ofF 135
def Qnd:rF QfY:=fun D L (a0,a1,a2)=>
 (qX D (a0,a2)).bind fun r1=>
 bif (decide (r1<0))then(some (-1))
 else(some r1)
theorem Qzd:OfF QfY Qnd:=ofF 136
def Qps:rF QjN:=fun D L (a0,a1,a2,a3)=>
 (QaZ D (a2,a3)).bind fun r1=>
 bif (decide (r1<0))then(some (-1))
 else(some r1)
theorem QAr:OfF QjN Qps:=ofF 137
def QmF:rF qX:=fun D L (a0,a1)=>
 bif (decide ((wR (a1 - (a0.length:Int)))<0))then(some (-1))
 else(some (wR (a1 - (a0.length:Int))))
theorem Qzb:OfF qX QmF:=ofF 138
def yT:rL qe:=fun D L (y0,y1,y2)=>
 bif (decide (y2<(y0.length:Int)))then(bif inb y2 y0.length then
 (qX D ((rd1 ([]:List Int) y0 y2),y1)).bind fun r1=>
 bif (decide (r1<0))then(some (Sum.inl (-1)))
 else(qe L (y0,r1,(wR (y2+1))))else none)
 else(some (Sum.inr y1))
theorem jJ:OfL qe yT:=ofL 139 0
def QkI:rF Qc8:=fun D L (a0,a1)=>
 bif (decide ((wR (a1 - (a0.length:Int)))<0))then(some (-1))
 else((qe L (a0,(wR (a1 - (a0.length:Int))),0)).bind fun z2=>
 Qn z2 (fun u3=>
 some u3)
 (fun z4=>
 some z4))
theorem QvJ:OfF Qc8 QkI:=ofF 139
def QkE:rF QcL:=fun D L (a0,a1)=>
 bif (decide ((wR (a1 - (a0.length:Int)))<0))then(some (-1))
 else(some (wR (a1 - (a0.length:Int))))
theorem QvN:OfF QcL QkE:=ofF 140
end
end Go.Proofs.YtiejfnbmficbmaaGreat.M
