/- Plain forms of the functions that FnExactOnlyNews reaches, part 4. No conditions. -/
import Derived.Test.YtiejfnbmficbmaaGreatFnExactOnlyNewsTab
set_option linter.all false
namespace Go.Proofs.YtiejfnbmficbmaaGreat.M
open Go Go.Eng Go.Proofs
set_option linter.unusedVariables false
noncomputable section
def zL:rL Kd:=fun D L (y0,y1,y2)=>
 bif (decide (y2<(y0.length:Int)))then(bif inb y2 y0.length then
 let e1:=(rd1 JO y0 y2);
 bif inb y2 y1.length then
 let e2:=(rd1 JO y1 y2);
 (Qar D (e1.1,e1.2.1,e1.2.2,e2)).bind fun r3=>
 bif (!r3)then(some (Sum.inl false))
 else(Kd L (y0,y1,(wR (y2+1))))else none else none)
 else(some (Sum.inr ()))
theorem Qbx:OfL Kd zL:=ofL 193 0
def Qdp:rF jP:=fun D L (a0,a1)=>
 bif (!decide ((a0.length:Int)=(a1.length:Int)))then(some false)
 else((Kd L (a0,a1,0)).bind fun z4=>
 Qp z4 (fun u5=>
 some u5)
 (fun z6=>
 some true))
theorem QlF:OfF jP Qdp:=ofF 193
def zN:rL KO:=fun D L (y0,y1,y2)=>
 bif (decide (y2<(y0.length:Int)))then(bif inb y2 y0.length then
 bif inb y2 y1.length then
 bif (!decide ((rd1 (0:Int) y0 y2)=(rd1 (0:Int) y1 y2)))then(some (Sum.inl false))
 else(KO L (y0,y1,(wR (y2+1))))else none else none)
 else(some (Sum.inr ()))
theorem Qa2:OfL KO zN:=ofL 194 0
def QdK:rF yp:=fun D L (a0,a1)=>
 bif (!decide ((a0.length:Int)=(a1.length:Int)))then(some false)
 else((KO L (a0,a1,0)).bind fun z1=>
 Qp z1 (fun u2=>
 some u2)
 (fun z3=>
 some true))
theorem Qln:OfF yp QdK:=ofF 194
def qF:rL Vl:=fun D L (y0,y1)=>
 bif (decide (127<y0))then(bif decide ((128:Int)≠0)then
 bif fits (y1.length+ [(IntKind.wrap .u8 (wR ((Int.tmod y0 128)+128)))].length) 1 then
 bif decide ((128:Int)≠0)then
 Vl L ((wR (Int.tdiv y0 128)),(y1++[(IntKind.wrap .u8 (wR ((Int.tmod y0 128)+128)))]))else none else none else none)
 else(some (y0,y1))
theorem Qcd:OfL Vl qF:=ofL 217 0
def Qfe:rF Q6:=fun D L a0=>
 (QA D (a0,0,2147483647)).bind fun r1=>
 bif (!r1)then(some [])
 else((Vl L (a0,[])).bind fun z2=>
 bif fits (z2.2.length+ [(IntKind.wrap .u8 z2.1)].length) 1 then
 some (z2.2++[(IntKind.wrap .u8 z2.1)])else none)
theorem QnA:OfF Q6 Qfe:=ofF 217
def zM:rL Ku:=fun D L (y0,y1,y2)=>
 bif (decide (y1<(y0.length:Int)))then(bif inb y1 y0.length then
 (Q6 D (rd1 (0:Int) y0 y1)).bind fun r2=>
 bif fits (y2.length+r2.length) 1 then
 Ku L (y0,(wR (y1+1)),(y2++r2))else none else none)
 else(some y2)
theorem Qa7:OfL Ku zM:=ofL 218 0
def Qe4:rF VI:=fun D L a0=>
 (Q6 D (a0.length:Int)).bind fun r1=>
 (Ku L (a0,0,r1)).bind fun z3=>
 some z3
theorem Qne:OfF VI Qe4:=ofF 218
def K5:rL Za:=fun D L (y0,y1,y2,y3)=>
 bif (decide (y3<y2))then(bif inb y3 y0.length then
 bif (decide (y1=(rd1 (0:Int) y0 y3)))then(some (Sum.inl y3))
 else(Za L (y0,y1,y2,(wR (y3+1))))else none)
 else(some (Sum.inr ()))
theorem JN:OfL Za K5:=ofL 228 0
def qM:rF YS:=fun D L (a0,a1)=>
 (Za L (a0,a1,(a0.length:Int),0)).bind fun z1=>
 Qp z1 (fun u2=>
 some u2)
 (fun z3=>
 some (-1))
theorem Qgg:OfF YS qM:=ofF 228
def JG:rL KQ:=fun D L (y0,y1,y2)=>
 bif (decide (y2<(y0.length:Int)))then(bif inb y2 y0.length then
 let e1:=(rd1 VY y0 y2);
 (Qan D (e1.1,e1.2.1,e1.2.2.1,e1.2.2.2.1,e1.2.2.2.2.1,e1.2.2.2.2.2,y1)).bind fun r2=>
 bif (decide (r2<0))then(some (Sum.inl (-1)))
 else(KQ L (y0,r2,(wR (y2+1))))else none)
 else(some (Sum.inr y1))
theorem qw:OfL KQ JG:=ofL 234 0
def QeH:rF yw:=fun D L (a0,a1)=>
 bif (decide ((wR (a1 - (a0.length:Int)))<0))then(some (-1))
 else((KQ L (a0,(wR (a1 - (a0.length:Int))),0)).bind fun z3=>
 Qp z3 (fun u4=>
 some u4)
 (fun z5=>
 some z5))
theorem QmH:OfF yw QeH:=ofF 234
def Qcr:rF xy:=fun D L (a0,a1)=>
 bif (decide ((wR (a1 - (a0.length:Int)))<0))then(some (-1))
 else(some (wR (a1 - (a0.length:Int))))
theorem QkV:OfF xy Qcr:=ofF 235
def VS:rL YP:=fun D L (y0,y1,y2)=>
 bif (decide (y2<(y0.length:Int)))then(bif inb y2 y0.length then
 let e1:=(rd1 Qgx y0 y2);
 (Vq D (e1.1,e1.2,y1)).bind fun r2=>
 bif (decide (r2<0))then(some (Sum.inl (-1)))
 else(YP L (y0,r2,(wR (y2+1))))else none)
 else(some (Sum.inr y1))
theorem JD:OfL YP VS:=ofL 236 0
def Qb7:rF xK:=fun D L (a0,a1)=>
 bif (decide ((wR (a1 - (a0.length:Int)))<0))then(some (-1))
 else((YP L (a0,(wR (a1 - (a0.length:Int))),0)).bind fun z3=>
 Qp z3 (fun u4=>
 some u4)
 (fun z5=>
 some z5))
theorem Qk6:OfF xK Qb7:=ofF 236
def qK:rL Vn:=fun D L (y0,y1,y2)=>
 bif (decide (y2<(y0.length:Int)))then(bif inb y2 y0.length then
 bif inb y2 y1.length then
 bif (!decide ((rd1 (0:Int) y0 y2)=(rd1 (0:Int) y1 y2)))then(some (Sum.inl false))
 else(Vn L (y0,y1,(wR (y2+1))))else none else none)
 else(some (Sum.inr ()))
theorem qT:OfL Vn qK:=ofL 237 0
def yD:rF Qae:=fun D L (a0,a1)=>
 bif (!decide ((a0.length:Int)=(a1.length:Int)))then(some false)
 else((Vn L (a0,a1,0)).bind fun z1=>
 Qp z1 (fun u2=>
 some u2)
 (fun z3=>
 some true))
theorem QoS:OfF Qae yD:=ofF 237
def Qeu:rF zX:=fun D L (a0,a1,a2)=>
 (X8 D (a0,a1)).bind fun r1=>
 bif (!r1)then(some 0)
 else((QA D (a2,0,3)).bind fun r2=>
 bif (!r2)then(some 0)
 else((zD D (a0,a1,[a2])).bind fun r3=>
 (VF D r3).bind fun r4=>
 (xQ D r4).bind fun r5=>
 bif decide ((1024:Int)≠0)then
 some (Int.tmod r5 1024)else none))
theorem Qns:OfF zX Qeu:=ofF 238
def vH:rL Vr:=fun D L (y0,y1,y2)=>
 bif (decide (y1<(y0.length:Int)))then(bif inb y1 y0.length then
 (Q6 D (rd1 (0:Int) y0 y1)).bind fun r1=>
 bif fits (y2.length+r1.length) 1 then
 Vr L (y0,(wR (y1+1)),(y2++r1))else none else none)
 else(some y2)
theorem Qcl:OfL Vr vH:=ofL 239 0
def Qfv:rF Qak:=fun D L a0=>
 (Vr L (a0,0,[])).bind fun z2=>
 (xQ D z2).bind fun r3=>
 bif decide ((1024:Int)≠0)then
 some (Int.tmod r3 1024)else none
theorem QnL:OfF Qak Qfv:=ofF 239
def Qe2:rF jB:=fun D L a0=>
 (Q6 D ((ByteArray.size a0):Int)).bind fun r1=>
 bif fits (r1.length+List.length (ofBytes a0)) 1 then
 some (r1++(ofBytes a0))else none
theorem QmN:OfF jB Qe2:=ofF 240
def yi:rL KA:=fun D L (y0,y1,y2)=>
 bif (decide (y1<(y0.length:Int)))then(bif inb y1 y0.length then
 let e1:=(rd1 VY y0 y1);
 (QaH D e1).bind fun r2=>
 bif inb y1 y2.length then
 let l3:=List.set y2 (Int.toNat y1) r2;
 KA L (y0,(wR (y1+1)),l3)else none else none)
 else(some y2)
theorem Qa8:OfL KA yi:=ofL 241 0
def QdT:rF zP:=fun D L a0=>
 bif (decide ((0:Int)<=(a0.length:Int)/\((a0.length:Int):Int)=(a0.length:Int))&&fits (Int.toNat (a0.length:Int)) 56)then
 (KA L (a0,0,(List.replicate (Int.toNat (a0.length:Int)) (0,0,0,0,0,ByteArray.empty)))).bind fun z4=>
 some z4 else none
theorem Ql9:OfF zP QdT:=ofF 241
def zd:rL YJ:=fun D L (y0,y1,y2)=>
 bif (decide (y1<(y0.length:Int)))then(bif inb y1 y0.length then
 let e1:=(rd1 XB y0 y1);
 (va D e1).bind fun r2=>
 bif inb y1 y2.length then
 let l3:=List.set y2 (Int.toNat y1) r2;
 YJ L (y0,(wR (y1+1)),l3)else none else none)
 else(some y2)
theorem vq:OfL YJ zd:=ofL 242 0
def Qca:rF xp:=fun D L a0=>
 bif (decide ((0:Int)<=(a0.length:Int)/\((a0.length:Int):Int)=(a0.length:Int))&&fits (Int.toNat (a0.length:Int)) 16)then
 (YJ L (a0,0,(List.replicate (Int.toNat (a0.length:Int)) (0,0)))).bind fun z4=>
 some z4 else none
theorem QkB:OfF xp Qca:=ofF 242
def xW:rL YN:=fun D L (y0,y1,y2)=>
 bif (decide (y1<(y0.length:Int)))then(bif inb y1 y0.length then
 let e1:=(rd1 Qgx y0 y1);
 (VG D e1).bind fun r2=>
 bif inb y1 y2.length then
 let l3:=List.set y2 (Int.toNat y1) r2;
 YN L (y0,(wR (y1+1)),l3)else none else none)
 else(some y2)
theorem vt:OfL YN xW:=ofL 243 0
def Qcc:rF xM:=fun D L a0=>
 bif (decide ((0:Int)<=(a0.length:Int)/\((a0.length:Int):Int)=(a0.length:Int))&&fits (Int.toNat (a0.length:Int)) 48)then
 (YN L (a0,0,(List.replicate (Int.toNat (a0.length:Int)) ([],[])))).bind fun z4=>
 some z4 else none
theorem QkT:OfF xM Qcc:=ofF 243
def Qfs:rF QaI:=fun D L (a0,a1,a2,a3)=>
 some (a0,a1,a2,a3)
theorem Qn4:OfF QaI Qfs:=ofF 244
def Qfb:rF v7:=fun D L (a0,a1,a2)=>
 some (a0,a1,a2)
theorem QnY:OfF v7 Qfb:=ofF 245
def QdZ:rF jr:=fun D L (a0,a1)=>
 (xe D (a0,a1)).bind fun r1=>
 bif (!r1.2.2)then(some ((⟨#[]⟩:ByteArray),0,false))
 else(bif (decide ((wR ((a0.length:Int) - r1.2.1))<r1.1))then(some ((⟨#[]⟩:ByteArray),0,false))
 else(bif decide ((0:Int)<=r1.2.1/\r1.2.1<=((wR (r1.2.1+r1.1)):Int)/\(wR (r1.2.1+r1.1))<=(a0.length:Int))then
 some ((QG (List.take (Int.toNat ((wR (r1.2.1+r1.1)) - r1.2.1)) (List.drop (Int.toNat r1.2.1) a0))),(wR (r1.2.1+r1.1)),true)else none))
theorem Qlp:OfF jr QdZ:=ofF 246
def Qel:rF j9:=fun D L a0=>
 (QM D ((ByteArray.size a0):Int)).bind fun r1=>
 (XS D [r1,(ofBytes a0)]).bind fun r2=>
 some r2
theorem Qlv:OfF j9 Qel:=ofF 247
def Qgl:rL xf:=fun D L (y0,y1,y2,y3)=>
 bif (decide (y3<y2))then(bif inb y3 y1.length then
 (K3 L ((bits .xor .i64 y0 (wR (rd1 (0:Int) y1 y3))),y1,y2,y3,0)).bind fun z1=>
 xf L (z1.1,z1.2.1,z1.2.2.1,(wR (z1.2.2.2+1)))else none)
 else(some y0)
theorem Qha:OfL xf Qgl:=ofL 248 0
def Qga:rL K3:=fun D L (y0,y1,y2,y3,y4)=>
 bif (decide (y4<8))then(bif decide ((2:Int)≠0)then
 bif decide ((2:Int)≠0)then
 bif (decide ((Int.tmod y0 2)=1))then(K3 L ((bits .xor .i64 (wR (Int.tdiv y0 2)) 3988292384),y1,y2,y3,(wR (y4+1))))
 else(K3 L ((wR (Int.tdiv y0 2)),y1,y2,y3,(wR (y4+1))))else none else none)
 else(some (y0,y1,y2,y3))
theorem Qhe:OfL K3 Qga:=ofL 248 2
def Qjj:rF x7:=fun D L a0=>
 (xf L (4294967295,a0,(a0.length:Int),0)).bind fun z2=>
 some (bits .xor .i64 z2 4294967295)
theorem Qsi:OfF x7 Qjj:=ofF 248
def ZJ:rL X9:=fun D L (y0,y1,y2,y3)=>
 bif (decide (y3<y2))then(bif inb y3 y0.length then
 bif inb y3 y1.length then
 bif (!decide ((rd1 (0:Int) y0 y3)=(rd1 (0:Int) y1 y3)))then(some (Sum.inl false))
 else(X9 L (y0,y1,y2,(wR (y3+1))))else none else none)
 else(some (Sum.inr ()))
theorem Yn:OfL X9 ZJ:=ofL 249 0
def Y1:rF YX:=fun D L (a0,a1)=>
 bif (!decide ((a0.length:Int)=(a1.length:Int)))then(some false)
 else((X9 L (a0,a1,(a0.length:Int),0)).bind fun z1=>
 Qp z1 (fun u2=>
 some u2)
 (fun z3=>
 some true))
theorem Qgi:OfF YX Y1:=ofF 249
def Qev:rF yN:=fun D L (a0,a1,a2)=>
 (XK D (a0,a1)).bind fun r1=>
 bif (!r1)then(some 0)
 else((Qr D (a2,0,3)).bind fun r2=>
 bif (!r2)then(some 0)
 else((QcF D (a0,a1,[a2])).bind fun r3=>
 (ZY D r3).bind fun r4=>
 (x7 D r4).bind fun r5=>
 bif decide ((1024:Int)≠0)then
 some (Int.tmod r5 1024)else none))
theorem Ql4:OfF yN Qev:=ofF 250
def vN:rL VB:=fun D L (y0,y1,y2,y3)=>
 bif (decide (y2<y1))then(bif inb y2 y0.length then
 (QM D (rd1 (0:Int) y0 y2)).bind fun r1=>
 (XS D [y3,r1]).bind fun r2=>
 VB L (y0,y1,(wR (y2+1)),r2)else none)
 else(some y3)
theorem Qck:OfL VB vN:=ofL 251 0
def QfA:rF Qad:=fun D L a0=>
 (VB L (a0,(a0.length:Int),0,[])).bind fun z3=>
 (x7 D z3).bind fun r4=>
 bif decide ((1024:Int)≠0)then
 some (Int.tmod r4 1024)else none
theorem QoH:OfF Qad QfA:=ofF 251
def Qed:rL Vp:=fun D L (y0,y1,y2,y3,y4)=>
 bif (decide (y4<y3))then(bif inb y4 y2.length then
 let e1:=(rd1 yx y2 y4);
 bif (decide (e1.1=y0))then(bif (e1.2.2.1==y1)then(some (Sum.inl y4))
 else(Vp L (y0,y1,y2,y3,(wR (y4+1)))))
 else(Vp L (y0,y1,y2,y3,(wR (y4+1))))else none)
 else(some (Sum.inr ()))
theorem QfT:OfL Vp Qed:=ofL 252 0
def Qir:rF Qe9:=fun D L (a0,a1,a2,a3,a4,a5,a6,a7,a8,a9,a10,a11,a12,a13,a14,a15,a16,a17,a18,a19,a20)=>
 (Vp L (a19,a20,a14,(a14.length:Int),0)).bind fun z2=>
 Qp z2 (fun u3=>
 some u3)
 (fun z4=>
 some (-1))
theorem QrY:OfF Qe9 Qir:=ofF 252
def zH:rL KU:=fun D L (y0,y1,y2)=>
 bif (decide (y2<(y0.length:Int)))then(bif inb y2 y0.length then
 let e1:=(rd1 VY y0 y2);
 bif inb y2 y1.length then
 let e2:=(rd1 VY y1 y2);
 (Qai D (e1.1,e1.2.1,e1.2.2.1,e1.2.2.2.1,e1.2.2.2.2.1,e1.2.2.2.2.2,e2)).bind fun r3=>
 bif (!r3)then(some (Sum.inl false))
 else(KU L (y0,y1,(wR (y2+1))))else none else none)
 else(some (Sum.inr ()))
theorem Qbq:OfL KU zH:=ofL 253 0
def QeN:rF jJ:=fun D L (a0,a1)=>
 bif (!decide ((a0.length:Int)=(a1.length:Int)))then(some false)
 else((KU L (a0,a1,0)).bind fun z4=>
 Qp z4 (fun u5=>
 some u5)
 (fun z6=>
 some true))
theorem QlM:OfF jJ QeN:=ofF 253
def xS:rL YD:=fun D L (y0,y1,y2)=>
 bif (decide (y2<(y0.length:Int)))then(bif inb y2 y0.length then
 let e1:=(rd1 XB y0 y2);
 bif inb y2 y1.length then
 let e2:=(rd1 XB y1 y2);
 (zC D (e1.1,e1.2,e2)).bind fun r3=>
 bif (!r3)then(some (Sum.inl false))
 else(YD L (y0,y1,(wR (y2+1))))else none else none)
 else(some (Sum.inr ()))
theorem vp:OfL YD xS:=ofL 254 0
def Qcf:rF xE:=fun D L (a0,a1)=>
 bif (!decide ((a0.length:Int)=(a1.length:Int)))then(some false)
 else((YD L (a0,a1,0)).bind fun z4=>
 Qp z4 (fun u5=>
 some u5)
 (fun z6=>
 some true))
theorem Qk2:OfF xE Qcf:=ofF 254
def zb:rL YK:=fun D L (y0,y1,y2)=>
 bif (decide (y2<(y0.length:Int)))then(bif inb y2 y0.length then
 let e1:=(rd1 Qgx y0 y2);
 bif inb y2 y1.length then
 let e2:=(rd1 Qgx y1 y2);
 (Vw D (e1.1,e1.2,e2)).bind fun r3=>
 bif (!r3)then(some (Sum.inl false))
 else(YK L (y0,y1,(wR (y2+1))))else none else none)
 else(some (Sum.inr ()))
theorem vr:OfL YK zb:=ofL 255 0
def Qcn:rF xG:=fun D L (a0,a1)=>
 bif (!decide ((a0.length:Int)=(a1.length:Int)))then(some false)
 else((YK L (a0,a1,0)).bind fun z4=>
 Qp z4 (fun u5=>
 some u5)
 (fun z6=>
 some true))
theorem QkH:OfF xG Qcn:=ofF 255
def Qfi:rF QaJ:=fun D L (a0,a1,a2,a3,a4,a5,a6,a7)=>
 bif (!decide (a0=a4))then(some false)
 else(bif (!decide (a1=a5))then(some false)
 else(bif (!(a2==a6))then(some false)
 else(bif (!decide (a3=a7))then(some false)
 else(some true))))
theorem QnT:OfF QaJ Qfi:=ofF 256
def QfY:rF Qar:=fun D L (a0,a1,a2,a3,a4,a5)=>
 bif (!decide (a0=a3))then(some false)
 else(bif (!decide (a1=a4))then(some false)
 else(bif (!decide (a2=a5))then(some false)
 else(some true)))
theorem Qn1:OfF Qar QfY:=ofF 257
def vd:rL Zw:=fun D L (y0,y1,y2,y3,y4,y5)=>
 bif (decide (y1<(y2.length:Int)))then(bif inb y1 y2.length then
 let e1:=(rd1 VY y2 y1);
 (xb D e1.1).bind fun r2=>
 (jV D (y0,r2)).bind fun r3=>
 bif r3 then(bif inb y1 y2.length then
 let e4:=(rd1 VY y2 y1);
 bif fits (y4.length+ [e4].length) 56 then
 Zw L (y0,(wR (y1+1)),y2,y3,(y4++[e4]),y5)else none else none)
 else(Zw L (y0,(wR (y1+1)),y2,y3,y4,y5))else none)
 else(some (y0,y2,y3,y4,y5))
theorem QaY:OfL Zw vd:=ofL 277 0
def yn:rL Zr:=fun D L (y0,y1,y2,y3,y4,y5)=>
 bif (decide (y1<(y3.length:Int)))then(bif inb y1 y3.length then
 let e6:=(rd1 XB y3 y1);
 (xb D e6.1).bind fun r7=>
 (jV D (y0,r7)).bind fun r8=>
 bif r8 then(bif inb y1 y3.length then
 let e9:=(rd1 XB y3 y1);
 bif fits (y5.length+ [e9].length) 16 then
 Zr L (y0,(wR (y1+1)),y2,y3,y4,(y5++[e9]))else none else none)
 else(Zr L (y0,(wR (y1+1)),y2,y3,y4,y5))else none)
 else(some (y4,y5))
theorem QaR:OfL Zr yn:=ofL 277 2
def QeR:rF zD:=fun D L (a0,a1,a2)=>
 (Zw L (a2,0,a0,a1,[],[])).bind fun z5=>
 (Zr L (z5.1,0,z5.2)).bind fun z10=>
 some z10
theorem Qm5:OfF zD QeR:=ofF 277
def QbW:rL Yg:=fun D L (y0,y1,y2,y3,y4,y5,y6,y7)=>
 bif (decide (y3<y2))then(bif inb y3 y1.length then
 let e2:=(rd1 VY y1 y3);
 (qX D e2.1).bind fun r3=>
 (Zb D (y0,r3)).bind fun r4=>
 bif r4 then(bif fits (y6.length+ [e2].length) 56 then
 Yg L (y0,y1,y2,(wR (y3+1)),y4,y5,(y6++[e2]),y7)else none)
 else(Yg L (y0,y1,y2,(wR (y3+1)),y4,y5,y6,y7))else none)
 else(some (y0,y4,y5,y6,y7))
theorem QdQ:OfL Yg QbW:=ofL 280 0
def Qb4:rL Yf:=fun D L (y0,y1,y2,y3,y4,y5)=>
 bif (decide (y3<y2))then(bif inb y3 y1.length then
 let e6:=(rd1 XB y1 y3);
 (qX D e6.1).bind fun r7=>
 (Zb D (y0,r7)).bind fun r8=>
 bif r8 then(bif fits (y5.length+ [e6].length) 16 then
 Yf L (y0,y1,y2,(wR (y3+1)),y4,(y5++[e6]))else none)
 else(Yf L (y0,y1,y2,(wR (y3+1)),y4,y5))else none)
 else(some (y4,y5))
theorem Qd5:OfL Yf Qb4:=ofL 280 2
def Qg9:rF QcF:=fun D L (a0,a1,a2)=>
 (XK D (a0,a1)).bind fun r1=>
 bif (!r1)then(some ([],[]))
 else((Yg L (a2,a0,(a0.length:Int),0,a0,a1,[],[])).bind fun z5=>
 (Yf L (z5.1,z5.2.2.1,(z5.2.2.1.length:Int),0,z5.2.2.2)).bind fun z9=>
 some z9)
theorem QpP:OfF QcF Qg9:=ofF 280
def Qf1:rF Qan:=fun D L (a0,a1,a2,a3,a4,a5,a6)=>
 (yj D (a1,a2,a3,a4,a5,a6)).bind fun r1=>
 bif (decide (r1<0))then(some (-1))
 else(some r1)
theorem Qon:OfF Qan Qf1:=ofF 281
def Qf0:rF QaH:=fun D L (a0,a1,a2,a3,a4,a5)=>
 (jg D (a1,a2,a3,a4,a5)).bind fun r1=>
 some (a0,r1)
theorem Qn0:OfF QaH Qf0:=ofF 282
def Qej:rF va:=fun D L (a0,a1)=>
 some (a0,a1)
theorem QlK:OfF va Qej:=ofF 283
def QfB:rF Qai:=fun D L (a0,a1,a2,a3,a4,a5,a6,a7,a8,a9,a10,a11)=>
 bif (!decide (a0=a6))then(some false)
 else((zY D (a1,a2,a3,a4,a5,a7,a8,a9,a10,a11)).bind fun r1=>
 bif (!r1)then(some false)
 else(some true))
theorem QnB:OfF Qai QfB:=ofF 284
def Qdf:rF zC:=fun D L (a0,a1,a2,a3)=>
 bif (!decide (a0=a2))then(some false)
 else(bif (!decide (a1=a3))then(some false)
 else(some true))
theorem Qmr:OfF zC Qdf:=ofF 285
def QfP:rF xb:=fun D L a0=>
 (ZL D a0).bind fun r1=>
 bif (!r1)then(some (-1))
 else((Q6 D a0).bind fun r2=>
 (xQ D r2).bind fun r3=>
 bif decide ((4:Int)≠0)then
 some (Int.tmod r3 4)else none)
theorem Qom:OfF xb QfP:=ofF 295
def Qfk:rF qX:=fun D L a0=>
 (ZK D a0).bind fun r1=>
 bif (!r1)then(some (-1))
 else((QM D a0).bind fun r2=>
 (x7 D r2).bind fun r3=>
 bif decide ((4:Int)≠0)then
 some (Int.tmod r3 4)else none)
theorem Qob:OfF qX Qfk:=ofF 296
def QeZ:rF yj:=fun D L (a0,a1,a2,a3,a4,a5)=>
 bif (decide ((wR (a5 - ((ByteArray.size a4):Int)))<0))then(some (-1))
 else(some (wR (a5 - ((ByteArray.size a4):Int))))
theorem Qlx:OfF yj QeZ:=ofF 297
def QeS:rF jg:=fun D L (a0,a1,a2,a3,a4)=>
 some (a0,a1,a2,a3,a4)
theorem QlI:OfF jg QeS:=ofF 298
def Qek:rF zY:=fun D L (a0,a1,a2,a3,a4,a5,a6,a7,a8,a9)=>
 bif (!decide (a0=a5))then(some false)
 else(bif (!decide (a1=a6))then(some false)
 else(bif (!decide (a2=a7))then(some false)
 else(bif (!decide (a3=a8))then(some false)
 else(bif (!XI a4 a9)then(some false)
 else(some true)))))
theorem Qnx:OfF zY Qek:=ofF 299
end
end Go.Proofs.YtiejfnbmficbmaaGreat.M
