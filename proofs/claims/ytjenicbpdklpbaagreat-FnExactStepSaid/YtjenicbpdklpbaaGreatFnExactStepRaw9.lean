/- Plain forms of the functions that FnExactStep reaches, part 9. No conditions. -/
import Derived.Test.YtjenicbpdklpbaaGreatFnExactStepTab
set_option linter.all false
namespace Go.Proofs.YtjenicbpdklpbaaGreat.M
open Go Go.Eng Go.Proofs
set_option linter.unusedVariables false
noncomputable section
def Qix:rF Qdb:=fun D L (a0,a1,a2,a3,a4,a5)=>
 bif (decide ((wR (a5 - ((ByteArray.size a4):Int)))<0))then(some (-1))
 else(some (wR (a5 - ((ByteArray.size a4):Int))))
theorem QuI:OfF Qdb Qix:=ofF 283
def Qbr:rL Yu:=fun D L (y0,y1,y2,y3,y4,y5)=>
 bif (decide (y1<(y2.length:Int)))then(bif inb y1 y2.length then
 let e1:=(rd1 XU y2 y1);
 (vi D e1.1).bind fun r2=>
 (QbO D (y0,r2)).bind fun r3=>
 bif r3 then(bif inb y1 y2.length then
 let e4:=(rd1 XU y2 y1);
 bif fits (y4.length+ [e4].length) 56 then
 Yu L (y0,(wR (y1+1)),y2,y3,(y4++[e4]),y5)else none else none)
 else(Yu L (y0,(wR (y1+1)),y2,y3,y4,y5))else none)
 else(some (y0,y2,y3,y4,y5))
theorem Qfa:OfL Yu Qbr:=ofL 284 0
def QcJ:rL YA:=fun D L (y0,y1,y2,y3,y4,y5)=>
 bif (decide (y1<(y3.length:Int)))then(bif inb y1 y3.length then
 let e6:=(rd1 XN y3 y1);
 (vi D e6.1).bind fun r7=>
 (QbO D (y0,r7)).bind fun r8=>
 bif r8 then(bif inb y1 y3.length then
 let e9:=(rd1 XN y3 y1);
 bif fits (y5.length+ [e9].length) 16 then
 YA L (y0,(wR (y1+1)),y2,y3,y4,(y5++[e9]))else none else none)
 else(YA L (y0,(wR (y1+1)),y2,y3,y4,y5))else none)
 else(some (y4,y5))
theorem Qf7:OfL YA QcJ:=ofL 284 2
def Qif:rF xp:=fun D L (a0,a1,a2)=>
 (Yu L (a2,0,a0,a1,[],[])).bind fun z5=>
 (YA L (z5.1,0,z5.2)).bind fun z10=>
 some z10
theorem QtX:OfF xp Qif:=ofF 284
def yO:rL xk:=fun D L (y0,y1)=>
 bif (decide (127<y0))then(bif decide ((128:Int)≠0)then
 bif fits (y1.length+ [(IntKind.wrap .u8 (wR ((Int.tmod y0 128)+128)))].length) 1 then
 bif decide ((128:Int)≠0)then
 xk L ((wR (Int.tdiv y0 128)),(y1++[(IntKind.wrap .u8 (wR ((Int.tmod y0 128)+128)))]))else none else none else none)
 else(some (y0,y1))
theorem QgN:OfL xk yO:=ofL 285 0
def Qlg:rF ZX:=fun D L a0=>
 (QE D (a0,0,2147483647)).bind fun r1=>
 bif (!r1)then(some [])
 else((xk L (a0,[])).bind fun z2=>
 bif fits (z2.2.length+ [(IntKind.wrap .u8 z2.1)].length) 1 then
 some (z2.2++[(IntKind.wrap .u8 z2.1)])else none)
theorem Qwj:OfF ZX Qlg:=ofF 285
def Qij:rF Qcv:=fun D L (a0,a1,a2,a3,a4)=>
 some (a0,a1,a2,a3,a4)
theorem QtH:OfF Qcv Qij:=ofF 286
def Qmb:rL ve:=fun D L (y0,y1,y2,y3)=>
 bif (decide (y3<y2))then(bif inb y3 y1.length then
 (qv L ((bits .xor .i64 y0 (wR (rd1 (0:Int) y1 y3))),y1,y2,y3,0)).bind fun z1=>
 ve L (z1.1,z1.2.1,z1.2.2.1,(wR (z1.2.2.2+1)))else none)
 else(some y0)
theorem QmQ:OfL ve Qmb:=ofL 287 0
def Qmf:rL qv:=fun D L (y0,y1,y2,y3,y4)=>
 bif (decide (y4<8))then(bif decide ((2:Int)≠0)then
 bif decide ((2:Int)≠0)then
 bif (decide ((Int.tmod y0 2)=1))then(qv L ((bits .xor .i64 (wR (Int.tdiv y0 2)) 3988292384),y1,y2,y3,(wR (y4+1))))
 else(qv L ((wR (Int.tdiv y0 2)),y1,y2,y3,(wR (y4+1))))else none else none)
 else(some (y0,y1,y2,y3))
theorem Qnd:OfL qv Qmf:=ofL 287 2
def Qpz:rF QdD:=fun D L a0=>
 (ve L (4294967295,a0,(a0.length:Int),0)).bind fun z2=>
 some (bits .xor .i64 z2 4294967295)
theorem QAs:OfF QdD Qpz:=ofF 287
def QgE:rL K4:=fun D L (y0,y1,y2,y3,y4,y5,y6,y7)=>
 bif (decide (y3<y2))then(bif inb y3 y1.length then
 let e2:=(rd1 XU y1 y3);
 (va D e2.1).bind fun r3=>
 (Z0 D (y0,r3)).bind fun r4=>
 bif r4 then(bif fits (y6.length+ [e2].length) 56 then
 K4 L (y0,y1,y2,(wR (y3+1)),y4,y5,(y6++[e2]),y7)else none)
 else(K4 L (y0,y1,y2,(wR (y3+1)),y4,y5,y6,y7))else none)
 else(some (y0,y4,y5,y6,y7))
theorem QiM:OfL K4 QgE:=ofL 288 0
def QgA:rL K1:=fun D L (y0,y1,y2,y3,y4,y5)=>
 bif (decide (y3<y2))then(bif inb y3 y1.length then
 let e6:=(rd1 XN y1 y3);
 (va D e6.1).bind fun r7=>
 (Z0 D (y0,r7)).bind fun r8=>
 bif r8 then(bif fits (y5.length+ [e6].length) 16 then
 K1 L (y0,y1,y2,(wR (y3+1)),y4,(y5++[e6]))else none)
 else(K1 L (y0,y1,y2,(wR (y3+1)),y4,y5))else none)
 else(some (y4,y5))
theorem QiG:OfL K1 QgA:=ofL 288 2
def Qm2:rF yP:=fun D L (a0,a1,a2)=>
 (Xp D (a0,a1)).bind fun r1=>
 bif (!r1)then(some ([],[]))
 else((K4 L (a2,a0,(a0.length:Int),0,a0,a1,[],[])).bind fun z5=>
 (K1 L (z5.1,z5.2.2.1,(z5.2.2.1.length:Int),0,z5.2.2.2)).bind fun z9=>
 some z9)
theorem Qxt:OfF yP Qm2:=ofF 288
def QmH:rF xV:=fun D L (a0,a1)=>
 bif (decide (a0<a1))then(some (-1))
 else((QaK D (decide (a1<a0))).bind fun r1=>
 some r1)
theorem Qxq:OfF xV QmH:=ofF 289
def Qv6:rF QaK:=fun D L a0=>
 bif a0 then(some 1)
 else(some 0)
theorem Qxx:OfF QaK Qv6:=ofF 290
def QpY:rL QfV:=fun D L (y0,y1,y2,y3)=>
 bif (decide (y3<y2))then(bif inb y3 y1.length then
 bif (!decide ((rd1 (0:Int) y1 y3)=y0))then(some (Sum.inl (rd1 (0:Int) y1 y3)))
 else(QfV L (y0,y1,y2,(wR (y3+1))))else none)
 else(some (Sum.inr y0))
theorem Qpt:OfL QfV QpY:=ofL 291 0
def QuM:rF Qti:=fun D L a0=>
 (QfV L (0,a0,(a0.length:Int),0)).bind fun z1=>
 Qn z1 (fun u2=>
 some u2)
 (fun z3=>
 some z3)
theorem QEu:OfF Qti QuM:=ofF 291
def Qlz:rF qp:=fun D L (a0,a1)=>
 (Qfv D a0).bind fun r1=>
 (Qfv D a1).bind fun r2=>
 bif r1 then(bif r2 then(some 0)
 else(some (-1)))
 else(bif r2 then(some 1)
 else(bif (decide (a0<a1))then(some (-1))
 else(bif (decide (a1<a0))then(some 1)
 else(some 0))))
theorem QvX:OfF qp Qlz:=ofF 292
def Qdg:rF zK:=fun D L (a0,a1)=>
 (Zv D (a0,a1)).bind fun r1=>
 some r1
theorem Qp3:OfF zK Qdg:=ofF 293
def Qj4:rF QbN:=fun D L a0=>
 (ZX D ((ByteArray.size a0):Int)).bind fun r1=>
 bif fits (r1.length+List.length (ofBytes a0)) 1 then
 some (r1++(ofBytes a0))else none
theorem Quy:OfF QbN Qj4:=ofF 294
def Qj3:rF QaZ:=fun D L a0=>
 (XW D ((ByteArray.size a0):Int)).bind fun r1=>
 (Kp D [r1,(ofBytes a0)]).bind fun r2=>
 some r2
theorem Quz:OfF QaZ Qj3:=ofF 297
def Qm1:rF QbH:=fun D L (a0,a1)=>
 bif (decide (a1<a0))then(some a0)
 else(some a1)
theorem QxV:OfF QbH Qm1:=ofF 298
def Qnj:rF QhP:=fun D L (a0,a1,a2,a3,a4,a5)=>
 (Qeo D (a0,a1,a2,a3,a4,a5)).bind fun r1=>
 some (r1.1,r1.2.1,0)
theorem QxP:OfF QhP Qnj:=ofF 299
def QoD:rF QkU:=fun D L (a0,a1,a2)=>
 (XA D (a0,a1)).bind fun r1=>
 bif (!r1)then(some (0,0,0,0,ByteArray.empty,1))
 else((Yo D a2).bind fun r2=>
 bif (!r2)then(some (0,0,0,0,ByteArray.empty,1))
 else((j9 D (a0,a1,a2)).bind fun r3=>
 bif (!r3.2.2.2.2.2)then(some (0,0,0,0,ByteArray.empty,3))
 else(some (r3.1,r3.2.1,r3.2.2.1,r3.2.2.2.1,r3.2.2.2.2.1,0))))
theorem QyH:OfF QkU QoD:=ofF 300
def Qku:rF j8:=fun D L (a0,a1,a2)=>
 (XA D (a0,a1)).bind fun r1=>
 bif (!r1)then(some 0)
 else((Yw D (a0,a1,a2)).bind fun r2=>
 bif (!r2.2.2.2.2.2)then((Kz D (a0,a1,a2)).bind fun r3=>
 some r3)
 else(bif (decide (r2.2.1=0))then(some (wR (r2.1 - 1)))
 else(some r2.1)))
theorem QvR:OfF j8 Qku:=ofF 301
def QdE:rL Ke:=fun D L (y0,y1,y2,y3)=>
 bif (decide (y3<(y0.length:Int)))then(bif inb y3 y0.length then
 (QE D (y1,0,(wR (((List.length (rd1 ([]:List Int) y0 y3)):Int) - 1)))).bind fun r1=>
 bif (!r1)then(some (Sum.inl 0))
 else(bif (decide (y3=0))then(bif inb y3 y0.length then
 bif inb y1 (List.length (rd1 ([]:List Int) y0 y3))then
 Ke L (y0,y1,(rd1 (0:Int) (rd1 ([]:List Int) y0 y3) y1),(wR (y3+1)))else none else none)
 else(bif inb y3 y0.length then
 bif inb y1 (List.length (rd1 ([]:List Int) y0 y3))then
 bif (decide ((rd1 (0:Int) (rd1 ([]:List Int) y0 y3) y1)<y2))then(bif inb y3 y0.length then
 bif inb y1 (List.length (rd1 ([]:List Int) y0 y3))then
 Ke L (y0,y1,(rd1 (0:Int) (rd1 ([]:List Int) y0 y3) y1),(wR (y3+1)))else none else none)
 else(Ke L (y0,y1,y2,(wR (y3+1))))else none else none))else none)
 else(some (Sum.inr y2))
theorem Qhe:OfL Ke QdE:=ofL 302 0
def Qkv:rF QeW:=fun D L (a0,a1)=>
 bif (decide ((a0.length:Int)=0))then(some 0)
 else((Ke L (a0,a1,0,0)).bind fun z2=>
 Qn z2 (fun u3=>
 some u3)
 (fun z4=>
 some z4))
theorem Qwb:OfF QeW Qkv:=ofF 302
def QgM:rF Jf:=fun D L (a0,a1,a2)=>
 bif fits (List.length ([]:List Int)+a0.length) 8 then
 (QE D (a1,0,(wR ((a0.length:Int) - 1)))).bind fun r1=>
 bif r1 then(bif inb a1 a0.length then
 bif (decide ((rd1 (0:Int) a0 a1)<a2))then(bif inb a1 (List.length (([]:List Int)++a0))then
 let l2:=List.set (([]:List Int)++a0) (Int.toNat a1) a2;
 some l2 else none)
 else(some (([]:List Int)++a0))else none)
 else(some (([]:List Int)++a0))else none
theorem QrS:OfF Jf QgM:=ofF 303
def QdR:rL Yc:=fun D L (y0,y1,y2,y3,y4,y5)=>
 bif (decide (y0<4))then(bif (!decide ((y1.length:Int)=4))then(bif fits (y5.length+ [y0].length) 8 then
 Yc L ((wR (y0+1)),y1,y2,y3,y4,(y5++[y0]))else none)
 else(bif (!decide ((y3.length:Int)=4))then(bif fits (y5.length+ [y0].length) 8 then
 Yc L ((wR (y0+1)),y1,y2,y3,y4,(y5++[y0]))else none)
 else(bif inb y0 y1.length then
 bif inb y0 y3.length then
 bif (!decide ((rd1 (0:Int) y1 y0)=(rd1 (0:Int) y3 y0)))then(bif fits (y5.length+ [y0].length) 8 then
 Yc L ((wR (y0+1)),y1,y2,y3,y4,(y5++[y0]))else none)
 else(Yc L ((wR (y0+1)),y1,y2,y3,y4,y5))else none else none)))
 else(some y5)
theorem QgQ:OfL Yc QdR:=ofL 304 0
def QkD:rF vk:=fun D L (a0,a1,a2,a3)=>
 bif (decide (a1=a3))then(some [])
 else((Yc L (0,a0,a1,a2,a3,[])).bind fun z1=>
 some z1)
theorem Qu3:OfF vk QkD:=ofF 304
def Qkn:rF Qcu:=fun D L (a0,a1,a2,a3,a4,a5,a6,a7,a8,a9,a10,a11,a12,a13,a14,a15,a16,a17,a18,a19)=>
 (x6 D (a6,a7,a8,a19)).bind fun r1=>
 bif r1.2.2 then(some (r1.1,r1.2.1,true))
 else((ZY D (a2,a3)).bind fun r2=>
 some (r2.1,r2.2,false))
theorem Qul:OfF Qcu Qkn:=ofF 305
def QiA:rF Qbq:=fun D L (a0,a1,a2)=>
 (Xp D (a0,a1)).bind fun r1=>
 bif (!r1)then(some (0,0,0,0,ByteArray.empty,1))
 else((Yq D a2).bind fun r2=>
 bif (!r2)then(some (0,0,0,0,ByteArray.empty,1))
 else((j6 D (a0,a1,a2)).bind fun r3=>
 bif (!r3.2.2.2.2.2)then(some (0,0,0,0,ByteArray.empty,3))
 else(some (r3.1,r3.2.1,r3.2.2.1,r3.2.2.2.1,r3.2.2.2.2.1,0))))
theorem QsM:OfF Qbq QiA:=ofF 306
def QsB:rF QeN:=fun D L (a0,a1,a2,a3,a4,a5)=>
 some ([(a0,a1,a2,a3,a4,a5)],[],0)
theorem Qu2:OfF QeN QsB:=ofF 307
def Ql7:rF vb:=fun D L (a0,a1,a2)=>
 (Xp D (a0,a1)).bind fun r1=>
 bif (!r1)then(some 0)
 else((VK D (a0,a1,a2)).bind fun r2=>
 bif (!r2.2.2.2.2.2)then((V3 D (a0,a1,a2)).bind fun r3=>
 some r3)
 else(bif (decide (r2.2.1=1))then(some r2.1)
 else(some (wR (r2.1 - 1)))))
theorem Qwd:OfF vb Ql7:=ofF 308
def QdG:rL Ki:=fun D L (y0,y1,y2,y3,y4)=>
 bif (decide (y4<y3))then(bif inb y4 y2.length then
 (QA D (y0,0,(wR (((List.length (rd1 ([]:List Int) y2 y4)):Int) - 1)))).bind fun r1=>
 bif (!r1)then(some (Sum.inl 0))
 else(bif (decide (y4=0))then(bif inb y0 (List.length (rd1 ([]:List Int) y2 y4))then
 Ki L (y0,(rd1 (0:Int) (rd1 ([]:List Int) y2 y4) y0),y2,y3,(wR (y4+1)))else none)
 else(bif inb y0 (List.length (rd1 ([]:List Int) y2 y4))then
 bif (decide ((rd1 (0:Int) (rd1 ([]:List Int) y2 y4) y0)<y1))then(bif inb y0 (List.length (rd1 ([]:List Int) y2 y4))then
 Ki L (y0,(rd1 (0:Int) (rd1 ([]:List Int) y2 y4) y0),y2,y3,(wR (y4+1)))else none)
 else(Ki L (y0,y1,y2,y3,(wR (y4+1))))else none))else none)
 else(some (Sum.inr y1))
theorem Qhl:OfL Ki QdG:=ofL 309 0
def QlS:rF Qez:=fun D L (a0,a1)=>
 (Ki L (a1,0,a0,(a0.length:Int),0)).bind fun z2=>
 Qn z2 (fun u3=>
 some u3)
 (fun z4=>
 some z4)
theorem QvH:OfF Qez QlS:=ofF 309
def Qlq:rF Vr:=fun D L (a0,a1,a2,a3,a4,a5,a6,a7,a8,a9,a10,a11,a12,a13,a14,a15,a16,a17,a18,a19,a20,a21,a22,a23,a24,a25,a26,a27,a28,a29,a30)=>
 (ZB D (a0,a1,a2,a3,a4,a5,a6,a7,a8,a9,a10,a11,a12,a13,a14,a15,a16,a17,a18,a19,a20,a21,a22,a23,a24,a25,a26,a27,a28,a29,a30)).bind fun r1=>
 (Qae D (r1.1,r1.2.1,r1.2.2.1,r1.2.2.2.1,r1.2.2.2.2.1,r1.2.2.2.2.2.1,r1.2.2.2.2.2.2.1,r1.2.2.2.2.2.2.2.1,r1.2.2.2.2.2.2.2.2.1,r1.2.2.2.2.2.2.2.2.2.1,r1.2.2.2.2.2.2.2.2.2.2.1,r1.2.2.2.2.2.2.2.2.2.2.2.1,r1.2.2.2.2.2.2.2.2.2.2.2.2.1,r1.2.2.2.2.2.2.2.2.2.2.2.2.2.1,r1.2.2.2.2.2.2.2.2.2.2.2.2.2.2.1,r1.2.2.2.2.2.2.2.2.2.2.2.2.2.2.2.1,r1.2.2.2.2.2.2.2.2.2.2.2.2.2.2.2.2.1,r1.2.2.2.2.2.2.2.2.2.2.2.2.2.2.2.2.2.1,r1.2.2.2.2.2.2.2.2.2.2.2.2.2.2.2.2.2.2,a28,a29)).bind fun r2=>
 (Jd D (r2.2.2.2.2.2.2.2.2.2.1,a20,a23)).bind fun r3=>
 some (r2.1,r2.2.1,r2.2.2.1,r2.2.2.2.1,r2.2.2.2.2.1,r2.2.2.2.2.2.1,r2.2.2.2.2.2.2.1,r2.2.2.2.2.2.2.2.1,r2.2.2.2.2.2.2.2.2.1,r3,r2.2.2.2.2.2.2.2.2.2.2.1,r2.2.2.2.2.2.2.2.2.2.2.2.1,r2.2.2.2.2.2.2.2.2.2.2.2.2.1,r2.2.2.2.2.2.2.2.2.2.2.2.2.2.1,r2.2.2.2.2.2.2.2.2.2.2.2.2.2.2.1,r2.2.2.2.2.2.2.2.2.2.2.2.2.2.2.2.1,r2.2.2.2.2.2.2.2.2.2.2.2.2.2.2.2.2.1,r2.2.2.2.2.2.2.2.2.2.2.2.2.2.2.2.2.2.1,r2.2.2.2.2.2.2.2.2.2.2.2.2.2.2.2.2.2.2.1)
theorem Qvf:OfF Vr Qlq:=ofF 310
def Qba:rF ZB:=fun D L (a0,a1,a2,a3,a4,a5,a6,a7,a8,a9,a10,a11,a12,a13,a14,a15,a16,a17,a18,a19,a20,a21,a22,a23,a24,a25,a26,a27,a28,a29,a30)=>
 bif inb a0 a26.length then
 (Vq D (a6,a7,a8)).bind fun r1=>
 (Jd D (a10,a20,(mnI (rd1 (0:Int) a26 a0) r1))).bind fun r2=>
 (K9 D (a11,a20,a30)).bind fun r3=>
 (Qae D (a0,a1,a2,a3,a4,a5,a6,a7,a8,a9,r2,r3,a12,a13,a14,a15,a16,a17,a18,[],[])).bind fun r4=>
 some (r4.1,r4.2.1,r4.2.2.1,r4.2.2.2.1,r4.2.2.2.2.1,r4.2.2.2.2.2.1,r4.2.2.2.2.2.2.1,r4.2.2.2.2.2.2.2.1,r4.2.2.2.2.2.2.2.2.1,r4.2.2.2.2.2.2.2.2.2.1,r4.2.2.2.2.2.2.2.2.2.2.1,r4.2.2.2.2.2.2.2.2.2.2.2.1,r4.2.2.2.2.2.2.2.2.2.2.2.2.1,r4.2.2.2.2.2.2.2.2.2.2.2.2.2.1,r4.2.2.2.2.2.2.2.2.2.2.2.2.2.2.1,r4.2.2.2.2.2.2.2.2.2.2.2.2.2.2.2.1,r4.2.2.2.2.2.2.2.2.2.2.2.2.2.2.2.2.1,r4.2.2.2.2.2.2.2.2.2.2.2.2.2.2.2.2.2.1,r4.2.2.2.2.2.2.2.2.2.2.2.2.2.2.2.2.2.2.1)else none
theorem QoT:OfF ZB Qba:=ofF 311
def Qdp:rF zI:=fun D L (a0,a1,a2,a3,a4,a5,a6,a7,a8,a9,a10,a11,a12,a13,a14,a15,a16,a17,a18,a19,a20,a21,a22,a23,a24,a25,a26,a27,a28,a29,a30)=>
 (xG D (a0,a1,a2,a3,a4,a5,a6,a7,a8,a9,a10,a11,a12,a13,a14,a15,a16,a17,a18,a20,true)).bind fun r1=>
 bif (decide (0<=r1))then(bif inb r1 a14.length then
 let e2:=(rd1 X7 a14 r1);
 let l3:=List.set a14 (Int.toNat r1) (e2.1,a22,e2.2.2);
 bif inb r1 l3.length then
 let e4:=(rd1 X7 l3 r1);
 let l5:=List.set l3 (Int.toNat r1) (e4.1,e4.2.1,e4.2.2.1,0);
 (ZB D (a0,a1,a2,a3,a4,a5,a6,a7,a8,a9,a10,a11,a12,a13,l5,a15,a16,a17,a18,a19,a20,a21,a22,a23,a24,a25,a26,a27,a28,a29,a30)).bind fun r6=>
 (ZC D (r6.1,r6.2.1,r6.2.2.1,r6.2.2.2.1,r6.2.2.2.2.1,r6.2.2.2.2.2.1,r6.2.2.2.2.2.2.1,r6.2.2.2.2.2.2.2.1,r6.2.2.2.2.2.2.2.2.1,r6.2.2.2.2.2.2.2.2.2.1,r6.2.2.2.2.2.2.2.2.2.2.1,r6.2.2.2.2.2.2.2.2.2.2.2.1,r6.2.2.2.2.2.2.2.2.2.2.2.2.1,r6.2.2.2.2.2.2.2.2.2.2.2.2.2.1,r6.2.2.2.2.2.2.2.2.2.2.2.2.2.2.1,r6.2.2.2.2.2.2.2.2.2.2.2.2.2.2.2.1,r6.2.2.2.2.2.2.2.2.2.2.2.2.2.2.2.2.1,r6.2.2.2.2.2.2.2.2.2.2.2.2.2.2.2.2.2.1,r6.2.2.2.2.2.2.2.2.2.2.2.2.2.2.2.2.2.2,3,a20,a22)).bind fun r7=>
 (Z4 D (r6.2.2.2.2.1,r6.2.2.2.2.2.1)).bind fun r8=>
 (vp D (r6.2.2.2.2.1,r6.2.2.2.2.2.1,a24,a25)).bind fun r9=>
 (Ky D (r6.1,r6.2.1,r6.2.2.1,r6.2.2.2.1,r6.2.2.2.2.1,r6.2.2.2.2.2.1,r6.2.2.2.2.2.2.1,r6.2.2.2.2.2.2.2.1,r6.2.2.2.2.2.2.2.2.1,r6.2.2.2.2.2.2.2.2.2.1,r6.2.2.2.2.2.2.2.2.2.2.1,r6.2.2.2.2.2.2.2.2.2.2.2.1,r6.2.2.2.2.2.2.2.2.2.2.2.2.1,r6.2.2.2.2.2.2.2.2.2.2.2.2.2.1,r6.2.2.2.2.2.2.2.2.2.2.2.2.2.2.1,r6.2.2.2.2.2.2.2.2.2.2.2.2.2.2.2.1,r6.2.2.2.2.2.2.2.2.2.2.2.2.2.2.2.2.1,r6.2.2.2.2.2.2.2.2.2.2.2.2.2.2.2.2.2.1,r6.2.2.2.2.2.2.2.2.2.2.2.2.2.2.2.2.2.2,r9,a19,a20,a21,a22,a23,a24,a25,a26,a27,a28,a29,a30)).bind fun r10=>
 some (r6.1,r6.2.1,r6.2.2.1,r6.2.2.2.1,r6.2.2.2.2.1,r6.2.2.2.2.2.1,r6.2.2.2.2.2.2.1,r6.2.2.2.2.2.2.2.1,r6.2.2.2.2.2.2.2.2.1,r6.2.2.2.2.2.2.2.2.2.1,r6.2.2.2.2.2.2.2.2.2.2.1,r6.2.2.2.2.2.2.2.2.2.2.2.1,r6.2.2.2.2.2.2.2.2.2.2.2.2.1,r6.2.2.2.2.2.2.2.2.2.2.2.2.2.1,r6.2.2.2.2.2.2.2.2.2.2.2.2.2.2.1,r6.2.2.2.2.2.2.2.2.2.2.2.2.2.2.2.1,r6.2.2.2.2.2.2.2.2.2.2.2.2.2.2.2.2.1,r6.2.2.2.2.2.2.2.2.2.2.2.2.2.2.2.2.2.1,r6.2.2.2.2.2.2.2.2.2.2.2.2.2.2.2.2.2.2,[(r7.1,r7.2.1,r7.2.2.1,r7.2.2.2.1,r7.2.2.2.2.1,r8.1,r8.2,r7.2.2.2.2.2.2.2.1,r9,r10.1,r10.2,r7.2.2.2.2.2.2.2.2.2.2.2)],0)else none else none)
 else(bif (decide (a13<=(a14.length:Int)))then((ZC D (a0,a1,a2,a3,a4,a5,a6,a7,a8,a9,a10,a11,a12,a13,a14,a15,a16,a17,a18,5,a20,a22)).bind fun r11=>
 some (a0,a1,a2,a3,a4,a5,a6,a7,a8,a9,a10,a11,a12,a13,a14,a15,a16,a17,a18,[r11],3))
 else(bif fits (a14.length+ [(a20,a22,true,0)].length) 32 then
 (ZB D (a0,a1,a2,a3,a4,a5,a6,a7,a8,a9,a10,a11,a12,a13,(a14++[(a20,a22,true,0)]),a15,a16,a17,a18,a19,a20,a21,a22,a23,a24,a25,a26,a27,a28,a29,a30)).bind fun r12=>
 (ZC D (r12.1,r12.2.1,r12.2.2.1,r12.2.2.2.1,r12.2.2.2.2.1,r12.2.2.2.2.2.1,r12.2.2.2.2.2.2.1,r12.2.2.2.2.2.2.2.1,r12.2.2.2.2.2.2.2.2.1,r12.2.2.2.2.2.2.2.2.2.1,r12.2.2.2.2.2.2.2.2.2.2.1,r12.2.2.2.2.2.2.2.2.2.2.2.1,r12.2.2.2.2.2.2.2.2.2.2.2.2.1,r12.2.2.2.2.2.2.2.2.2.2.2.2.2.1,r12.2.2.2.2.2.2.2.2.2.2.2.2.2.2.1,r12.2.2.2.2.2.2.2.2.2.2.2.2.2.2.2.1,r12.2.2.2.2.2.2.2.2.2.2.2.2.2.2.2.2.1,r12.2.2.2.2.2.2.2.2.2.2.2.2.2.2.2.2.2.1,r12.2.2.2.2.2.2.2.2.2.2.2.2.2.2.2.2.2.2,3,a20,a22)).bind fun r13=>
 (Z4 D (r12.2.2.2.2.1,r12.2.2.2.2.2.1)).bind fun r14=>
 (vp D (r12.2.2.2.2.1,r12.2.2.2.2.2.1,a24,a25)).bind fun r15=>
 (Ky D (r12.1,r12.2.1,r12.2.2.1,r12.2.2.2.1,r12.2.2.2.2.1,r12.2.2.2.2.2.1,r12.2.2.2.2.2.2.1,r12.2.2.2.2.2.2.2.1,r12.2.2.2.2.2.2.2.2.1,r12.2.2.2.2.2.2.2.2.2.1,r12.2.2.2.2.2.2.2.2.2.2.1,r12.2.2.2.2.2.2.2.2.2.2.2.1,r12.2.2.2.2.2.2.2.2.2.2.2.2.1,r12.2.2.2.2.2.2.2.2.2.2.2.2.2.1,r12.2.2.2.2.2.2.2.2.2.2.2.2.2.2.1,r12.2.2.2.2.2.2.2.2.2.2.2.2.2.2.2.1,r12.2.2.2.2.2.2.2.2.2.2.2.2.2.2.2.2.1,r12.2.2.2.2.2.2.2.2.2.2.2.2.2.2.2.2.2.1,r12.2.2.2.2.2.2.2.2.2.2.2.2.2.2.2.2.2.2,r15,a19,a20,a21,a22,a23,a24,a25,a26,a27,a28,a29,a30)).bind fun r16=>
 some (r12.1,r12.2.1,r12.2.2.1,r12.2.2.2.1,r12.2.2.2.2.1,r12.2.2.2.2.2.1,r12.2.2.2.2.2.2.1,r12.2.2.2.2.2.2.2.1,r12.2.2.2.2.2.2.2.2.1,r12.2.2.2.2.2.2.2.2.2.1,r12.2.2.2.2.2.2.2.2.2.2.1,r12.2.2.2.2.2.2.2.2.2.2.2.1,r12.2.2.2.2.2.2.2.2.2.2.2.2.1,r12.2.2.2.2.2.2.2.2.2.2.2.2.2.1,r12.2.2.2.2.2.2.2.2.2.2.2.2.2.2.1,r12.2.2.2.2.2.2.2.2.2.2.2.2.2.2.2.1,r12.2.2.2.2.2.2.2.2.2.2.2.2.2.2.2.2.1,r12.2.2.2.2.2.2.2.2.2.2.2.2.2.2.2.2.2.1,r12.2.2.2.2.2.2.2.2.2.2.2.2.2.2.2.2.2.2,[(r13.1,r13.2.1,r13.2.2.1,r13.2.2.2.1,r13.2.2.2.2.1,r14.1,r14.2,r13.2.2.2.2.2.2.2.1,r15,r16.1,r16.2,r13.2.2.2.2.2.2.2.2.2.2.2)],0)else none))
theorem QpW:OfF zI Qdp:=ofF 312
def QiY:rF xu:=fun D L (a0,a1,a2,a3,a4,a5,a6,a7,a8,a9,a10,a11,a12,a13,a14,a15,a16,a17,a18,a19,a20,a21,a22,a23,a24,a25,a26,a27,a28,a29,a30,a31)=>
 (xG D (a0,a1,a2,a3,a4,a5,a6,a7,a8,a9,a10,a11,a12,a13,a14,a15,a16,a17,a18,a20,a31)).bind fun r1=>
 bif (decide (r1<0))then(some (a0,a1,a2,a3,a4,a5,a6,a7,a8,a9,a10,a11,a12,a13,a14,a15,a16,a17,a18,false))
 else(bif inb r1 a14.length then
 let e2:=(rd1 X7 a14 r1);
 bif (!decide (e2.2.1=a22))then(some (a0,a1,a2,a3,a4,a5,a6,a7,a8,a9,a10,a11,a12,a13,a14,a15,a16,a17,a18,false))
 else(bif decide ((0:Int)<=0/\0<=(r1:Int)/\r1<=(a14.length:Int))then
 bif fits (List.length ([]:List Qz)+List.length (List.take (Int.toNat (r1 - 0)) (List.drop (Int.toNat 0) a14))) 32 then
 bif decide ((0:Int)<=(wR (r1+1))/\(wR (r1+1))<=((a14.length:Int):Int)/\(a14.length:Int)<=(a14.length:Int))then
 bif fits (List.length (([]:List Qz)++List.take (Int.toNat (r1 - 0)) (List.drop (Int.toNat 0) a14))+List.length (List.take (Int.toNat ((a14.length:Int) - (wR (r1+1)))) (List.drop (Int.toNat (wR (r1+1))) a14))) 32 then
 some (a0,a1,a2,a3,a4,a5,a6,a7,a8,a9,a10,a11,a12,a13,((([]:List Qz)++List.take (Int.toNat (r1 - 0)) (List.drop (Int.toNat 0) a14))++List.take (Int.toNat ((a14.length:Int) - (wR (r1+1)))) (List.drop (Int.toNat (wR (r1+1))) a14)),a15,a16,a17,a18,true)else none else none else none else none)else none)
theorem Qsw:OfF xu QiY:=ofF 313
def Qip:rF Ky:=fun D L (a0,a1,a2,a3,a4,a5,a6,a7,a8,a9,a10,a11,a12,a13,a14,a15,a16,a17,a18,a19,a20,a21,a22,a23,a24,a25,a26,a27,a28,a29,a30,a31)=>
 bif inb a0 a27.length then
 (Qlm D (a0,a1,a2,a3,a4,a5,a6,a7,a8,a9,a10,a11,a12,a13,a14,a15,a16,a17,a18,(rd1 (0:Int) a27 a0))).bind fun r1=>
 (yP D (a2,a3,a19)).bind fun r2=>
 (Zq D (r2.1,r2.2,r1.1,r1.2.1)).bind fun r3=>
 some r3 else none
theorem Qts:OfF Ky Qip:=ofF 314
def QgK:rL zg:=fun D L (y0,y1,y2)=>
 bif (decide (y2<(y0.length:Int)))then(bif inb y2 y0.length then
 bif (decide ((rd1 (0:Int) y0 y2)=y1))then(some (Sum.inl true))
 else(zg L (y0,y1,(wR (y2+1))))else none)
 else(some (Sum.inr ()))
theorem QjX:OfL zg QgK:=ofL 315 0
def Qm4:rF QbO:=fun D L (a0,a1)=>
 (zg L (a0,a1,0)).bind fun z1=>
 Qn z1 (fun u2=>
 some u2)
 (fun z3=>
 some false)
theorem Qxs:OfF QbO Qm4:=ofF 315
end
end Go.Proofs.YtjenicbpdklpbaaGreat.M
