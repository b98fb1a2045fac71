/- Plain forms of the functions that FnExactOnlyNews reaches, part 3. No conditions. -/
import Derived.Test.YtiejfnbmficbmaaGreatFnExactOnlyNewsTab
set_option linter.all false
namespace Go.Proofs.YtiejfnbmficbmaaGreat.M
open Go Go.Eng Go.Proofs
set_option linter.unusedVariables false
noncomputable section
def QdB:rF vf:=fun D L (a0,a1)=>
 bif (decide ((a0.length:Int)=0))then(some (decide (a1=0)))
 else(bif (decide ((a0.length:Int)=4))then((VD D (a0,4,1023)).bind fun r1=>
 bif r1 then((QA D (a1,0,1023)).bind fun r2=>
 some r2)
 else(some false))
 else(some false))
theorem QmR:OfF vf QdB:=ofF 157
def zJ:rL Kx:=fun D L (y0,y1,y2)=>
 bif (decide (y2<(y0.length:Int)))then(bif inb y2 y0.length then
 (QA D ((rd1 (0:Int) y0 y2),0,y1)).bind fun r1=>
 bif (!r1)then(some (Sum.inl false))
 else(Kx L (y0,y1,(wR (y2+1))))else none)
 else(some (Sum.inr ()))
theorem Qa0:OfL Kx zJ:=ofL 158 0
def QdM:rF VD:=fun D L (a0,a1,a2)=>
 bif (decide (a1<(a0.length:Int)))then(some false)
 else((Kx L (a0,a2,0)).bind fun z2=>
 Qp z2 (fun u3=>
 some u3)
 (fun z4=>
 some true))
theorem Qm6:OfF VD QdM:=ofF 158
def jK:rL Z6:=fun D L (y0,y1)=>
 bif (decide (y1<(y0.length:Int)))then(bif inb y1 y0.length then
 let e1:=(rd1 XB y0 y1);
 (ZL D e1.1).bind fun r2=>
 bif (!r2)then(some (Sum.inl false))
 else(bif (decide (0<y1))then(bif inb y1 y0.length then
 let e3:=(rd1 XB y0 y1);
 bif inb (wR (y1 - 1)) y0.length then
 let e4:=(rd1 XB y0 (wR (y1 - 1)));
 bif (decide (e3.1<=e4.1))then(some (Sum.inl false))
 else(bif inb y1 y0.length then
 let e5:=(rd1 XB y0 y1);
 (QA D (e5.2,1,1000)).bind fun r6=>
 bif (!r6)then(some (Sum.inl false))
 else(Z6 L (y0,(wR (y1+1))))else none)else none else none)
 else(bif inb y1 y0.length then
 let e7:=(rd1 XB y0 y1);
 (QA D (e7.2,1,1000)).bind fun r8=>
 bif (!r8)then(some (Sum.inl false))
 else(Z6 L (y0,(wR (y1+1))))else none))else none)
 else(some (Sum.inr ()))
theorem QbN:OfL Z6 jK:=ofL 159 0
def QeW:rF yS:=fun D L a0=>
 (Z6 L (a0,0)).bind fun z9=>
 Qp z9 (fun u10=>
 some u10)
 (fun z11=>
 some true)
theorem QmX:OfF yS QeW:=ofF 159
def Qe0:rF VG:=fun D L (a0,a1)=>
 (zP D a0).bind fun r1=>
 (xp D a1).bind fun r2=>
 some (r1,r2)
theorem QmQ:OfF VG Qe0:=ofF 160
def QfM:rF Qaz:=fun D L (a0,a1)=>
 (K1 D a0).bind fun r1=>
 some (r1,a1)
theorem Qoo:OfF Qaz QfM:=ofF 161
def QgH:rF QcS:=fun D L (a0,a1,a2)=>
 (xM D a2).bind fun r1=>
 some (a0,a1,r1)
theorem Qp3:OfF QcS QgH:=ofF 162
def yB:rL KB:=fun D L (y0,y1,y2)=>
 bif (decide (y1<(y0.length:Int)))then(bif inb y1 y0.length then
 (K1 D (rd1 ([]:List Int) y0 y1)).bind fun r1=>
 bif inb y1 y2.length then
 let l2:=List.set y2 (Int.toNat y1) r1;
 KB L (y0,(wR (y1+1)),l2)else none else none)
 else(some y2)
theorem QaX:OfL KB yB:=ofL 163 0
def Qdj:rF yM:=fun D L a0=>
 bif (decide ((0:Int)<=(a0.length:Int)/\((a0.length:Int):Int)=(a0.length:Int))&&fits (Int.toNat (a0.length:Int)) 24)then
 (KB L (a0,0,(List.replicate (Int.toNat (a0.length:Int)) []))).bind fun z3=>
 some z3 else none
theorem Qlm:OfF yM Qdj:=ofF 163
def zW:rL KJ:=fun D L (y0,y1,y2)=>
 bif (decide (y1<(y0.length:Int)))then(bif inb y1 y0.length then
 let e1:=(rd1 yx y0 y1);
 (QaI D e1).bind fun r2=>
 bif inb y1 y2.length then
 let l3:=List.set y2 (Int.toNat y1) r2;
 KJ L (y0,(wR (y1+1)),l3)else none else none)
 else(some y2)
theorem QbF:OfL KJ zW:=ofL 164 0
def QeJ:rF yC:=fun D L a0=>
 bif (decide ((0:Int)<=(a0.length:Int)/\((a0.length:Int):Int)=(a0.length:Int))&&fits (Int.toNat (a0.length:Int)) 32)then
 (KJ L (a0,0,(List.replicate (Int.toNat (a0.length:Int)) (0,0,false,0)))).bind fun z4=>
 some z4 else none
theorem Qnm:OfF yC QeJ:=ofF 164
def jX:rL Kf:=fun D L (y0,y1,y2)=>
 bif (decide (y1<(y0.length:Int)))then(bif inb y1 y0.length then
 let e1:=(rd1 JO y0 y1);
 (v7 D e1).bind fun r2=>
 bif inb y1 y2.length then
 let l3:=List.set y2 (Int.toNat y1) r2;
 Kf L (y0,(wR (y1+1)),l3)else none else none)
 else(some y2)
theorem QbI:OfL Kf jX:=ofL 165 0
def QeF:rF jQ:=fun D L a0=>
 bif (decide ((0:Int)<=(a0.length:Int)/\((a0.length:Int):Int)=(a0.length:Int))&&fits (Int.toNat (a0.length:Int)) 24)then
 (Kf L (a0,0,(List.replicate (Int.toNat (a0.length:Int)) (0,0,0)))).bind fun z4=>
 some z4 else none
theorem QmK:OfF jQ QeF:=ofF 165
def zU:rL KR:=fun D L (y0,y1,y2)=>
 bif (decide (y1<(y0.length:Int)))then(bif inb y1 y0.length then
 bif inb y1 y2.length then
 let l1:=List.set y2 (Int.toNat y1) (rd1 (0:Int) y0 y1);
 KR L (y0,(wR (y1+1)),l1)else none else none)
 else(some y2)
theorem Qbg:OfL KR zU:=ofL 166 0
def QeQ:rF yg:=fun D L a0=>
 bif (decide ((0:Int)<=(a0.length:Int)/\((a0.length:Int):Int)=(a0.length:Int))&&fits (Int.toNat (a0.length:Int)) 1)then
 (KR L (a0,0,(List.replicate (Int.toNat (a0.length:Int)) 0))).bind fun z2=>
 some z2 else none
theorem QlV:OfF yg QeQ:=ofF 166
def Yw:rL Xk:=fun D L (y0,y1,y2,y3)=>
 bif (decide (y3<5))then(bif (decide ((wR (y1+y3))<(y0.length:Int)))then(bif inb (wR (y1+y3)) y0.length then
 bif decide ((128:Int)≠0)then
 bif decide ((0:Int)<=(wR (7*y3)))then
 bif (decide (128<=(wR (rd1 (0:Int) y0 (wR (y1+y3))))))then(Xk L (y0,y1,(wR (y2+(x6 .i64 (Int.tmod (wR (rd1 (0:Int) y0 (wR (y1+y3)))) 128) (wR (7*y3))))),(wR (y3+1))))
 else(bif (decide (0<y3))then(bif (decide ((wR (rd1 (0:Int) y0 (wR (y1+y3))))=0))then(some (Sum.inl (0,0,false)))
 else(bif (decide (2147483647<(wR (y2+(x6 .i64 (Int.tmod (wR (rd1 (0:Int) y0 (wR (y1+y3)))) 128) (wR (7*y3)))))))then(some (Sum.inl (0,0,false)))
 else(some (Sum.inl ((wR (y2+(x6 .i64 (Int.tmod (wR (rd1 (0:Int) y0 (wR (y1+y3)))) 128) (wR (7*y3))))),(wR ((wR (y1+y3))+1)),true)))))
 else(bif (decide (2147483647<(wR (y2+(x6 .i64 (Int.tmod (wR (rd1 (0:Int) y0 (wR (y1+y3)))) 128) (wR (7*y3)))))))then(some (Sum.inl (0,0,false)))
 else(some (Sum.inl ((wR (y2+(x6 .i64 (Int.tmod (wR (rd1 (0:Int) y0 (wR (y1+y3)))) 128) (wR (7*y3))))),(wR ((wR (y1+y3))+1)),true)))))else none else none else none)
 else(some (Sum.inr ())))
 else(some (Sum.inr ()))
theorem Yj:OfL Xk Yw:=ofL 167 0
def Qft:rF xe:=fun D L (a0,a1)=>
 bif (decide (a1<0))then(some (0,0,false))
 else(bif (decide ((a0.length:Int)<=a1))then(some (0,0,false))
 else((Xk L (a0,a1,0,0)).bind fun z1=>
 Qp z1 (fun u2=>
 some u2)
 (fun z3=>
 some (0,0,false))))
theorem Qod:OfF xe Qft:=ofF 167
def vi:rF YH:=fun D L (a0,a1,a2)=>
 (jr D (a0,a1)).bind fun r1=>
 bif a2 then(some ((⟨#[]⟩:ByteArray),a1,true))
 else(bif (!r1.2.2)then(some ((⟨#[]⟩:ByteArray),a1,true))
 else(some (r1.1,r1.2.1,a2)))
theorem QiA:OfF YH vi:=ofF 168
def qv:rL Zj:=fun D L (y0,y1,y2,y3,y4,y5)=>
 bif (decide (y2<y1))then(bif inb y2 y0.length then
 let e3:=(rd1 VY y0 y2);
 (QM D e3.1).bind fun r4=>
 (QM D e3.2.1).bind fun r5=>
 (QM D e3.2.2.1).bind fun r6=>
 (QM D e3.2.2.2.1).bind fun r7=>
 (QM D e3.2.2.2.2.1).bind fun r8=>
 (j9 D e3.2.2.2.2.2).bind fun r9=>
 (XS D [y5,r4,r5,r6,r7,r8,r9]).bind fun r10=>
 Zj L (y0,y1,(wR (y2+1)),y3,y4,r10)else none)
 else(some (y3,y4,y5))
theorem zo:OfL Zj qv:=ofL 169 0
def ql:rL Zg:=fun D L (y0,y1,y2,y3)=>
 bif (decide (y2<y1))then(bif inb y2 y0.length then
 let e14:=(rd1 XB y0 y2);
 (QM D e14.1).bind fun r15=>
 (QM D e14.2).bind fun r16=>
 (XS D [y3,r15,r16]).bind fun r17=>
 Zg L (y0,y1,(wR (y2+1)),r17)else none)
 else(some y3)
theorem zk:OfL Zg ql:=ofL 169 2
def vx:rF ZY:=fun D L (a0,a1)=>
 (XK D (a0,a1)).bind fun r1=>
 bif (!r1)then(some [])
 else((QM D (a0.length:Int)).bind fun r2=>
 (Zj L (a0,(a0.length:Int),0,a0,a1,r2)).bind fun z11=>
 (QM D (z11.2.1.length:Int)).bind fun r12=>
 (XS D [z11.2.2,r12]).bind fun r13=>
 (Zg L (z11.2.1,(z11.2.1.length:Int),0,r13)).bind fun z18=>
 some z18)
theorem Qjn:OfF ZY vx:=ofF 169
def QfI:rF ZK:=fun D L a0=>
 (Qr D (a0,0,4)).bind fun r1=>
 some r1
theorem Qok:OfF ZK QfI:=ofF 170
def vB:rL VE:=fun D L (y0,y1,y2,y3,y4)=>
 bif (decide (y2<y1))then(bif inb y2 y0.length then
 (Qr D ((rd1 (0:Int) y0 y2),0,1023)).bind fun r1=>
 bif (!r1)then(some (Sum.inl false))
 else(VE L (y0,y1,(wR (y2+1)),y3,y4))else none)
 else(some (Sum.inr (y3,y4)))
theorem Qcq:OfL VE vB:=ofL 171 0
def QfG:rF QaL:=fun D L (a0,a1)=>
 bif (decide ((a0.length:Int)=0))then(some (decide (a1=0)))
 else((VE L (a0,(a0.length:Int),0,a0,a1)).bind fun z2=>
 Qp z2 (fun u3=>
 some u3)
 (fun z4=>
 bif (decide ((z4.1.length:Int)=4))then((Qr D (z4.2,0,1023)).bind fun r5=>
 some r5)
 else(some false)))
theorem Qny:OfF QaL QfG:=ofF 171
def ye:rL Yb:=fun D L (y0,y1,y2,y3)=>
 bif (decide (y3<y2))then(bif inb y3 y1.length then
 let e1:=(rd1 XB y1 y3);
 (ZK D e1.1).bind fun r2=>
 bif (!r2)then(some (Sum.inl false))
 else((Qr D (e1.2,1,1000)).bind fun r3=>
 bif (!r3)then(some (Sum.inl false))
 else(bif (decide (0<y3))then(bif inb (wR (y3 - 1)) y0.length then
 let e4:=(rd1 XB y0 (wR (y3 - 1)));
 bif (decide (e1.1<=e4.1))then(some (Sum.inl false))
 else(Yb L (y0,y1,y2,(wR (y3+1))))else none)
 else(Yb L (y0,y1,y2,(wR (y3+1))))))else none)
 else(some (Sum.inr ()))
theorem QaV:OfL Yb ye:=ofL 172 0
def QdE:rF ym:=fun D L a0=>
 (Yb L (a0,a0,(a0.length:Int),0)).bind fun z5=>
 Qp z5 (fun u6=>
 some u6)
 (fun z7=>
 some true)
theorem QmC:OfF ym QdE:=ofF 172
def vC:rL VH:=fun D L (y0,y1,y2,y3)=>
 bif (decide (y2<y1))then(bif inb y2 y0.length then
 bif fits (y3.length+List.length (rd1 ([]:List Int) y0 y2)) 1 then
 VH L (y0,y1,(wR (y2+1)),(y3++(rd1 ([]:List Int) y0 y2)))else none else none)
 else(some y3)
theorem Qce:OfL VH vC:=ofL 173 0
def QfL:rF XS:=fun D L a0=>
 (VH L (a0,(a0.length:Int),0,[])).bind fun z1=>
 some z1
theorem QnH:OfF XS QfL:=ofF 173
def qC:rL Vs:=fun D L (y0,y1)=>
 bif (decide (128<=y0))then(bif decide ((128:Int)≠0)then
 bif fits (y1.length+ [(IntKind.wrap .u8 (wR ((Int.tmod y0 128)+128)))].length) 1 then
 bif decide ((128:Int)≠0)then
 Vs L ((wR (Int.tdiv y0 128)),(y1++[(IntKind.wrap .u8 (wR ((Int.tmod y0 128)+128)))]))else none else none else none)
 else(some (y0,y1))
theorem Qcp:OfL Vs qC:=ofL 174 0
def Qf5:rF QM:=fun D L a0=>
 (Qr D (a0,0,2147483647)).bind fun r1=>
 bif (!r1)then(some [])
 else((Vs L (a0,[])).bind fun z2=>
 bif fits (z2.2.length+ [(IntKind.wrap .u8 z2.1)].length) 1 then
 some (z2.2++[(IntKind.wrap .u8 z2.1)])else none)
theorem Qox:OfF QM Qf5:=ofF 174
def ji:rL KD:=fun D L (y0,y1,y2,y3)=>
 bif (decide (y2<y1))then(bif inb y2 y0.length then
 (QM D (rd1 (0:Int) y0 y2)).bind fun r2=>
 (XS D [y3,r2]).bind fun r3=>
 KD L (y0,y1,(wR (y2+1)),r3)else none)
 else(some y3)
theorem QbE:OfL KD ji:=ofL 175 0
def Qee:rF Vu:=fun D L a0=>
 (QM D (a0.length:Int)).bind fun r1=>
 (KD L (a0,(a0.length:Int),0,r1)).bind fun z4=>
 some z4
theorem Qly:OfF Vu Qee:=ofF 175
def Qcm:rF xz:=fun D L a0=>
 (x7 D a0).bind fun r1=>
 bif decide ((0:Int)<=24)then
 bif decide ((0:Int)<=16)then
 bif decide ((0:Int)<=8)then
 some [(IntKind.wrap .u8 (bits .and .i64 (jW .i64 r1 24) 255)),(IntKind.wrap .u8 (bits .and .i64 (jW .i64 r1 16) 255)),(IntKind.wrap .u8 (bits .and .i64 (jW .i64 r1 8) 255)),(IntKind.wrap .u8 (bits .and .i64 r1 255))]else none else none else none
theorem QkO:OfF xz Qcm:=ofF 176
def Qcb:rF xu:=fun D L (a0,a1,a2,a3)=>
 (YX D (a0,a2)).bind fun r1=>
 bif r1 then(some (decide (a1=a3)))
 else(some false)
theorem QkZ:OfF xu Qcb:=ofF 177
def vS:rL Yv:=fun D L (y0,y1,y2,y3,y4)=>
 bif (decide (y0<4))then((yN D (y1,y2,y0)).bind fun r2=>
 bif fits (y3.length+ [r2].length) 8 then
 Yv L ((wR (y0+1)),y1,y2,(y3++[r2]),y4)else none)
 else(some (y3,y4))
theorem Qcg:OfL Yv vS:=ofL 178 0
def Qf6:rF Qac:=fun D L (a0,a1)=>
 (XK D (a0,a1)).bind fun r1=>
 bif (!r1)then(some ([],0))
 else((Yv L (0,a0,a1,[],0)).bind fun z3=>
 (Qad D z3.1).bind fun r4=>
 some (z3.1,r4))
theorem Qov:OfF Qac Qf6:=ofF 178
def Qfn:rF Qav:=fun D L (a0,a1,a2)=>
 (yT D (a0,a1,a2)).bind fun r1=>
 bif (!r1)then(some 0)
 else(some (wR (a1+(a2.length:Int))))
theorem Qn5:OfF Qav Qfn:=ofF 179
def QbR:rL Ji:=fun D L (y0,y1,y2,y3,y4,y5)=>
 bif (decide (y2<y1))then(bif inb y2 y0.length then
 let e1:=(rd1 Qgx y0 y2);
 (XK D e1).bind fun r2=>
 bif (!r2)then(some (Sum.inl false))
 else(Ji L (y0,y1,(wR (y2+1)),y3,y4,y5))else none)
 else(some (Sum.inr (y3,y4,y5)))
theorem Qex:OfL Ji QbR:=ofL 180 0
def QgM:rF yT:=fun D L (a0,a1,a2)=>
 (Ji L (a2,(a2.length:Int),0,a0,a1,a2)).bind fun z3=>
 Qp z3 (fun u4=>
 some u4)
 (fun z5=>
 (Qr D (z5.1,1,8)).bind fun r6=>
 bif r6 then(bif (decide ((z5.2.2.length:Int)<=z5.1))then((Qr D (z5.2.1,0,100000)).bind fun r7=>
 bif r7 then(some (decide ((wR (z5.2.1+(z5.2.2.length:Int)))<=100000)))
 else(some false))
 else(some false))
 else(some false))
theorem QpV:OfF yT QgM:=ofF 180
def QbZ:rL Jk:=fun D L (y0,y1,y2,y3,y4)=>
 bif (decide (y4<y3))then(bif inb y4 y2.length then
 (Qr D ((rd1 (0:Int) y2 y4),0,100000)).bind fun r1=>
 bif (!r1)then(some (Sum.inl false))
 else(Jk L (y0,y1,y2,y3,(wR (y4+1))))else none)
 else(some (Sum.inr (y0,y1)))
theorem Qdw:OfL Jk QbZ:=ofL 181 0
def QgW:rF jx:=fun D L (a0,a1)=>
 (Jk L (a0,a1,a0,(a0.length:Int),0)).bind fun z2=>
 Qp z2 (fun u3=>
 some u3)
 (fun z4=>
 (Qr D (z4.2,1,5)).bind fun r5=>
 bif r5 then(some (decide ((z4.1.length:Int)=z4.2)))
 else(some false))
theorem Qp2:OfF jx QgW:=ofF 181
def VQ:rL XT:=fun D L (y0,y1,y2)=>
 bif (decide (y2<(y0.length:Int)))then(bif inb y2 y0.length then
 XT L (y0,(mxI y1 (rd1 (0:Int) y0 y2)),(wR (y2+1)))else none)
 else(some y1)
theorem qN:OfL XT VQ:=ofL 182 0
def zx:rF Yi:=fun D L a0=>
 bif (decide ((a0.length:Int)<1))then(none)
 else(bif inb 0 a0.length then
 (XT L (a0,(rd1 (0:Int) a0 0),1)).bind fun z1=>
 some z1 else none)
theorem Qip:OfF Yi zx:=ofF 182
def yV:rL Y7:=fun D L (y0,y1,y2,y3,y4)=>
 bif (decide (y4<y3))then(bif inb y4 y2.length then
 (Z1 L (y0,y1,(rd1 ([]:List Int) y2 y4),y2,y3,y4,(rd1 ([]:List Int) y2 y4),((List.length (rd1 ([]:List Int) y2 y4)):Int),0)).bind fun z2=>
 Qp z2 (fun u3=>
 some (Sum.inl u3))
 (fun z4=>
 bif (!decide ((z4.2.2.1.length:Int)=5))then(some (Sum.inl false))
 else(Y7 L (z4.1,z4.2.1,z4.2.2.2.1,z4.2.2.2.2.1,(wR (z4.2.2.2.2.2+1)))))else none)
 else(some (Sum.inr (y0,y1)))
theorem QaT:OfL Y7 yV:=ofL 183 0
def zF:rL Z1:=fun D L (y0,y1,y2,y3,y4,y5,y6,y7,y8)=>
 bif (decide (y8<y7))then(bif inb y8 y6.length then
 (Qr D ((rd1 (0:Int) y6 y8),0,1000)).bind fun r1=>
 bif (!r1)then(some (Sum.inl false))
 else(Z1 L (y0,y1,y2,y3,y4,y5,y6,y7,(wR (y8+1))))else none)
 else(some (Sum.inr (y0,y1,y2,y3,y4,y5)))
theorem Qa5:OfL Z1 zF:=ofL 183 2
def QdH:rF jz:=fun D L (a0,a1)=>
 (Y7 L (a0,a1,a0,(a0.length:Int),0)).bind fun z5=>
 Qp z5 (fun u6=>
 some u6)
 (fun z7=>
 (Qr D (z7.2,1,5)).bind fun r8=>
 bif r8 then(some (decide ((z7.1.length:Int)=z7.2)))
 else(some false))
theorem Qlk:OfF jz QdH:=ofF 183
def vT:rL Vo:=fun D L (y0,y1,y2,y3,y4,y5,y6,y7,y8,y9,y10,y11,y12,y13,y14,y15,y16,y17,y18,y19,y20,y21)=>
 bif (decide (y2<y1))then(bif inb y2 y0.length then
 let e1:=(rd1 yx y0 y2);
 (Qag D (y3,y4,y5,y6,y7,y8,y9,y10,y11,y12,y13,y14,y15,y16,y17,y18,y19,y20,y21,e1.1)).bind fun r2=>
 bif (!r2)then(some (Sum.inl false))
 else((Qr D (e1.2.1,0,100000)).bind fun r3=>
 bif (!r3)then(some (Sum.inl false))
 else((Qr D (e1.2.2.2,0,y18)).bind fun r4=>
 bif (!r4)then(some (Sum.inl false))
 else((Qe9 D (y3,y4,y5,y6,y7,y8,y9,y10,y11,y12,y13,y14,y15,y16,y17,y18,y19,y20,y21,e1.1,e1.2.2.1)).bind fun r5=>
 bif (!decide (r5=y2))then(some (Sum.inl false))
 else(Vo L (y0,y1,(wR (y2+1)),y3,y4,y5,y6,y7,y8,y9,y10,y11,y12,y13,y14,y15,y16,y17,y18,y19,y20,y21)))))else none)
 else(some (Sum.inr (y3,y4,y5,y6,y7,y8,y9,y10,y11,y12,y13,y14,y15,y16,y17,y18,y19,y20,y21)))
theorem Qci:OfL Vo vT:=ofL 184 0
def Qf3:rF QaK:=fun D L (a0,a1,a2,a3,a4,a5,a6,a7,a8,a9,a10,a11,a12,a13,a14,a15,a16,a17,a18)=>
 (Vo L (a14,(a14.length:Int),0,a0,a1,a2,a3,a4,a5,a6,a7,a8,a9,a10,a11,a12,a13,a14,a15,a16,a17,a18)).bind fun z6=>
 Qp z6 (fun u7=>
 some u7)
 (fun z8=>
 (Qr D (z8.2.2.2.2.2.2.2.2.2.2.2.2.2.1,1,4)).bind fun r9=>
 bif r9 then(some (decide ((z8.2.2.2.2.2.2.2.2.2.2.2.2.2.2.1.length:Int)<=z8.2.2.2.2.2.2.2.2.2.2.2.2.2.1)))
 else(some false))
theorem Qop:OfF QaK Qf3:=ofF 184
def jk:rL Kc:=fun D L (y0,y1,y2,y3,y4,y5,y6,y7,y8,y9,y10,y11,y12,y13,y14,y15,y16,y17,y18,y19,y20,y21)=>
 bif (decide (y2<y1))then(bif inb y2 y0.length then
 let e1:=(rd1 JO y0 y2);
 (Qr D (e1.1,0,1000)).bind fun r2=>
 bif (!r2)then(some (Sum.inl false))
 else((Qr D (e1.2.1,0,100000)).bind fun r3=>
 bif (!r3)then(some (Sum.inl false))
 else((Qr D (e1.2.2,0,y20)).bind fun r4=>
 bif (!r4)then(some (Sum.inl false))
 else(Kc L (y0,y1,(wR (y2+1)),y3,y4,y5,y6,y7,y8,y9,y10,y11,y12,y13,y14,y15,y16,y17,y18,y19,y20,y21))))else none)
 else(some (Sum.inr (y3,y4,y5,y6,y7,y8,y9,y10,y11,y12,y13,y14,y15,y16,y17,y18,y19,y20,y21)))
theorem Qbm:OfL Kc jk:=ofL 185 0
def Qen:rF yW:=fun D L (a0,a1,a2,a3,a4,a5,a6,a7,a8,a9,a10,a11,a12,a13,a14,a15,a16,a17,a18)=>
 (Kc L (a18,(a18.length:Int),0,a0,a1,a2,a3,a4,a5,a6,a7,a8,a9,a10,a11,a12,a13,a14,a15,a16,a17,a18)).bind fun z5=>
 Qp z5 (fun u6=>
 some u6)
 (fun z7=>
 some (decide ((z7.2.2.2.2.2.2.2.2.2.2.2.2.2.2.2.2.2.2.length:Int)=5)))
theorem Qmf:OfF yW Qen:=ofF 185
def Qeb:rF J9:=fun D L (a0,a1,a2,a3,a4)=>
 (Qr D (a0,1,1000)).bind fun r1=>
 bif r1 then((Qr D (a1,0,1)).bind fun r2=>
 bif r2 then((Qr D (a2,0,100000)).bind fun r3=>
 bif r3 then((Qr D (a3,0,1000)).bind fun r4=>
 bif r4 then(some (decide (((ByteArray.size a4):Int)<=8)))
 else(some false))
 else(some false))
 else(some false))
 else(some false)
theorem Qnn:OfF J9 Qeb:=ofF 186
def j7:rL Kq:=fun D L (y0,y1,y2,y3)=>
 bif (decide (y3<y2))then(bif inb y3 y1.length then
 let e1:=(rd1 XB y1 y3);
 bif (decide (e1.1=y0))then(some (Sum.inl e1.2))
 else(Kq L (y0,y1,y2,(wR (y3+1))))else none)
 else(some (Sum.inr ()))
theorem Qbk:OfL Kq j7:=ofL 187 0
def QdX:rF yL:=fun D L (a0,a1,a2)=>
 (Kq L (a2,a1,(a1.length:Int),0)).bind fun z2=>
 Qp z2 (fun u3=>
 some u3)
 (fun z4=>
 some 0)
theorem Qnj:OfF yL QdX:=ofF 187
def Qey:rF Vw:=fun D L (a0,a1,a2,a3)=>
 (jJ D (a0,a2)).bind fun r1=>
 bif (!r1)then(some false)
 else((xE D (a1,a3)).bind fun r2=>
 bif (!r2)then(some false)
 else(some true))
theorem QlB:OfF Vw Qey:=ofF 188
def Qfw:rF Qay:=fun D L (a0,a1,a2,a3)=>
 (K2 D (a0,a2)).bind fun r1=>
 bif (!r1)then(some false)
 else(bif (!decide (a1=a3))then(some false)
 else(some true))
theorem Qn9:OfF Qay Qfw:=ofF 189
def QgZ:rF QcE:=fun D L (a0,a1,a2,a3,a4,a5)=>
 bif (!decide (a0=a3))then(some false)
 else(bif (!decide (a1=a4))then(some false)
 else((xG D (a2,a5)).bind fun r1=>
 bif (!r1)then(some false)
 else(some true)))
theorem QpQ:OfF QcE QgZ:=ofF 190
def vb:rL KM:=fun D L (y0,y1,y2)=>
 bif (decide (y2<(y0.length:Int)))then(bif inb y2 y0.length then
 bif inb y2 y1.length then
 (K2 D ((rd1 ([]:List Int) y0 y2),(rd1 ([]:List Int) y1 y2))).bind fun r1=>
 bif (!r1)then(some (Sum.inl false))
 else(KM L (y0,y1,(wR (y2+1))))else none else none)
 else(some (Sum.inr ()))
theorem QbJ:OfL KM vb:=ofL 191 0
def QeX:rF jC:=fun D L (a0,a1)=>
 bif (!decide ((a0.length:Int)=(a1.length:Int)))then(some false)
 else((KM L (a0,a1,0)).bind fun z2=>
 Qp z2 (fun u3=>
 some u3)
 (fun z4=>
 some true))
theorem QlZ:OfF jC QeX:=ofF 191
def yu:rL Ke:=fun D L (y0,y1,y2)=>
 bif (decide (y2<(y0.length:Int)))then(bif inb y2 y0.length then
 let e1:=(rd1 yx y0 y2);
 bif inb y2 y1.length then
 let e2:=(rd1 yx y1 y2);
 (QaJ D (e1.1,e1.2.1,e1.2.2.1,e1.2.2.2,e2)).bind fun r3=>
 bif (!r3)then(some (Sum.inl false))
 else(Ke L (y0,y1,(wR (y2+1))))else none else none)
 else(some (Sum.inr ()))
theorem QbP:OfL Ke yu:=ofL 192 0
def QeP:rF zR:=fun D L (a0,a1)=>
 bif (!decide ((a0.length:Int)=(a1.length:Int)))then(some false)
 else((Ke L (a0,a1,0)).bind fun z4=>
 Qp z4 (fun u5=>
 some u5)
 (fun z6=>
 some true))
theorem Qma:OfF zR QeP:=ofF 192
end
end Go.Proofs.YtiejfnbmficbmaaGreat.M
