/- Plain forms of the functions that FnExactNodeText reaches, part 3. No conditions. -/
import Derived.Test.YtameehmkoglkeaaGreatDoorFnExactNodeTextTab
set_option linter.all false
namespace Go.Proofs.YtameehmkoglkeaaGreatDoor.M
open Go Go.Eng Go.Proofs
set_option linter.unusedVariables false
noncomputable section
def Va:rL XC:=fun D L (y0,y1,y2,y3,y4,y5)=>
 bif (decide (y2<y1))then(bif inb y2 y0.length then
 let e3:=(rd1 Zi y0 y2);
 (Q0 D e3.1).bind fun r4=>
 (Q0 D e3.2.1).bind fun r5=>
 (Q0 D e3.2.2.1).bind fun r6=>
 (Q0 D e3.2.2.2.1).bind fun r7=>
 (Q0 D e3.2.2.2.2.1).bind fun r8=>
 (xn D e3.2.2.2.2.2).bind fun r9=>
 (ZA D [y5,r4,r5,r6,r7,r8,r9]).bind fun r10=>
 XC L (y0,y1,(wR (y2+1)),y3,y4,r10)else none)
 else(some (y3,y4,y5))
theorem JW:OfL XC Va:=ofL 153 0
def Vk:rL XE:=fun D L (y0,y1,y2,y3)=>
 bif (decide (y2<y1))then(bif inb y2 y0.length then
 let e14:=(rd1 Xx y0 y2);
 (Q0 D e14.1).bind fun r15=>
 (Q0 D e14.2).bind fun r16=>
 (ZA D [y3,r15,r16]).bind fun r17=>
 XE L (y0,y1,(wR (y2+1)),r17)else none)
 else(some y3)
theorem JV:OfL XE Vk:=ofL 153 2
def xM:rF K2:=fun D L (a0,a1)=>
 (XM D (a0,a1)).bind fun r1=>
 bif (!r1)then(some [])
 else((Q0 D (a0.length:Int)).bind fun r2=>
 (XC L (a0,(a0.length:Int),0,a0,a1,r2)).bind fun z11=>
 (Q0 D (z11.2.1.length:Int)).bind fun r12=>
 (ZA D [z11.2.2,r12]).bind fun r13=>
 (XE L (z11.2.1,(z11.2.1.length:Int),0,r13)).bind fun z18=>
 some z18)
theorem QdV:OfF K2 xM:=ofF 153
def zg:rL YX:=fun D L (y0,y1,y2,y3)=>
 bif (decide (y2<y1))then(bif inb y2 y0.length then
 bif fits (y3.length+List.length (rd1 ([]:List Int) y0 y2)) 1 then
 YX L (y0,y1,(wR (y2+1)),(y3++(rd1 ([]:List Int) y0 y2)))else none else none)
 else(some y3)
theorem jJ:OfL YX zg:=ofL 156 0
def QaW:rF ZA:=fun D L a0=>
 (YX L (a0,(a0.length:Int),0,[])).bind fun z1=>
 some z1
theorem Qit:OfF ZA QaW:=ofF 156
def VF:rL YH:=fun D L (y0,y1)=>
 bif (decide (128<=y0))then(bif decide ((128:Int)≠0)then
 bif fits (y1.length+ [(IntKind.wrap .u8 (wR ((Int.tmod y0 128)+128)))].length) 1 then
 bif decide ((128:Int)≠0)then
 YH L ((wR (Int.tdiv y0 128)),(y1++[(IntKind.wrap .u8 (wR ((Int.tmod y0 128)+128)))]))else none else none else none)
 else(some (y0,y1))
theorem jD:OfL YH VF:=ofL 157 0
def Qbt:rF Q0:=fun D L a0=>
 (Qw D (a0,0,2147483647)).bind fun r1=>
 bif (!r1)then(some [])
 else((YH L (a0,[])).bind fun z2=>
 bif fits (z2.2.length+ [(IntKind.wrap .u8 z2.1)].length) 1 then
 some (z2.2++[(IntKind.wrap .u8 z2.1)])else none)
theorem QiC:OfF Q0 Qbt:=ofF 157
def vJ:rF J0:=fun D L (a0,a1,a2,a3,a4,a5)=>
 bif (decide ((wR (a5 - ((ByteArray.size a4):Int)))<0))then(some (-1))
 else(some (wR (a5 - ((ByteArray.size a4):Int))))
theorem Qho:OfF J0 vJ:=ofF 161
def qD:rL XQ:=fun D L (y0,y1,y2,y3,y4,y5)=>
 bif (decide (y1<(y2.length:Int)))then(bif inb y1 y2.length then
 let e1:=(rd1 Zi y2 y1);
 (V8 D e1.1).bind fun r2=>
 (xL D (y0,r2)).bind fun r3=>
 bif r3 then(bif inb y1 y2.length then
 let e4:=(rd1 Zi y2 y1);
 bif fits (y4.length+ [e4].length) 56 then
 XQ L (y0,(wR (y1+1)),y2,y3,(y4++[e4]),y5)else none else none)
 else(XQ L (y0,(wR (y1+1)),y2,y3,y4,y5))else none)
 else(some (y0,y2,y3,y4,y5))
theorem yi:OfL XQ qD:=ofL 162 0
def qN:rL XN:=fun D L (y0,y1,y2,y3,y4,y5)=>
 bif (decide (y1<(y3.length:Int)))then(bif inb y1 y3.length then
 let e6:=(rd1 Xx y3 y1);
 (V8 D e6.1).bind fun r7=>
 (xL D (y0,r7)).bind fun r8=>
 bif r8 then(bif inb y1 y3.length then
 let e9:=(rd1 Xx y3 y1);
 bif fits (y5.length+ [e9].length) 16 then
 XN L (y0,(wR (y1+1)),y2,y3,y4,(y5++[e9]))else none else none)
 else(XN L (y0,(wR (y1+1)),y2,y3,y4,y5))else none)
 else(some (y4,y5))
theorem yJ:OfL XN qN:=ofL 162 2
def vr:rF qp:=fun D L (a0,a1,a2)=>
 (XQ L (a2,0,a0,a1,[],[])).bind fun z5=>
 (XN L (z5.1,0,z5.2)).bind fun z10=>
 some z10
theorem QgI:OfF qp vr:=ofF 162
def Vx:rL YZ:=fun D L (y0,y1)=>
 bif (decide (127<y0))then(bif decide ((128:Int)≠0)then
 bif fits (y1.length+ [(IntKind.wrap .u8 (wR ((Int.tmod y0 128)+128)))].length) 1 then
 bif decide ((128:Int)≠0)then
 YZ L ((wR (Int.tdiv y0 128)),(y1++[(IntKind.wrap .u8 (wR ((Int.tmod y0 128)+128)))]))else none else none else none)
 else(some (y0,y1))
theorem jy:OfL YZ Vx:=ofL 163 0
def Qa0:rF Xy:=fun D L a0=>
 (QC D (a0,0,2147483647)).bind fun r1=>
 bif (!r1)then(some [])
 else((YZ L (a0,[])).bind fun z2=>
 bif fits (z2.2.length+ [(IntKind.wrap .u8 z2.1)].length) 1 then
 some (z2.2++[(IntKind.wrap .u8 z2.1)])else none)
theorem QiE:OfF Xy Qa0:=ofF 163
def QaH:rF qB:=fun D L (a0,a1,a2,a3,a4)=>
 some (a0,a1,a2,a3,a4)
theorem Qhu:OfF qB QaH:=ofF 164
def Qb2:rL Jf:=fun D L (y0,y1,y2,y3)=>
 bif (decide (y3<y2))then(bif inb y3 y1.length then
 (Yx L ((bits .xor .i64 y0 (wR (rd1 (0:Int) y1 y3))),y1,y2,y3,0)).bind fun z1=>
 Jf L (z1.1,z1.2.1,z1.2.2.1,(wR (z1.2.2.2+1)))else none)
 else(some y0)
theorem QcP:OfL Jf Qb2:=ofL 165 0
def QbT:rL Yx:=fun D L (y0,y1,y2,y3,y4)=>
 bif (decide (y4<8))then(bif decide ((2:Int)≠0)then
 bif decide ((2:Int)≠0)then
 bif (decide ((Int.tmod y0 2)=1))then(Yx L ((bits .xor .i64 (wR (Int.tdiv y0 2)) 3988292384),y1,y2,y3,(wR (y4+1))))
 else(Yx L ((wR (Int.tdiv y0 2)),y1,y2,y3,(wR (y4+1))))else none else none)
 else(some (y0,y1,y2,y3))
theorem Qcc:OfL Yx QbT:=ofL 165 2
def Qd0:rF xY:=fun D L a0=>
 (Jf L (4294967295,a0,(a0.length:Int),0)).bind fun z2=>
 some (bits .xor .i64 z2 4294967295)
theorem QlF:OfF xY Qd0:=ofF 165
def jf:rL Zp:=fun D L (y0,y1,y2,y3,y4,y5,y6,y7)=>
 bif (decide (y3<y2))then(bif inb y3 y1.length then
 let e2:=(rd1 Zi y1 y3);
 (Je D e2.1).bind fun r3=>
 (Xw D (y0,r3)).bind fun r4=>
 bif r4 then(bif fits (y6.length+ [e2].length) 56 then
 Zp L (y0,y1,y2,(wR (y3+1)),y4,y5,(y6++[e2]),y7)else none)
 else(Zp L (y0,y1,y2,(wR (y3+1)),y4,y5,y6,y7))else none)
 else(some (y0,y4,y5,y6,y7))
theorem vI:OfL Zp jf:=ofL 166 0
def ja:rL Zo:=fun D L (y0,y1,y2,y3,y4,y5)=>
 bif (decide (y3<y2))then(bif inb y3 y1.length then
 let e6:=(rd1 Xx y1 y3);
 (Je D e6.1).bind fun r7=>
 (Xw D (y0,r7)).bind fun r8=>
 bif r8 then(bif fits (y5.length+ [e6].length) 16 then
 Zo L (y0,y1,y2,(wR (y3+1)),y4,(y5++[e6]))else none)
 else(Zo L (y0,y1,y2,(wR (y3+1)),y4,y5))else none)
 else(some (y4,y5))
theorem Qaa:OfL Zo ja:=ofL 166 2
def Qcr:rF j6:=fun D L (a0,a1,a2)=>
 (XM D (a0,a1)).bind fun r1=>
 bif (!r1)then(some ([],[]))
 else((Zp L (a2,a0,(a0.length:Int),0,a0,a1,[],[])).bind fun z5=>
 (Zo L (z5.1,z5.2.2.1,(z5.2.2.1.length:Int),0,z5.2.2.2)).bind fun z9=>
 some z9)
theorem Qjy:OfF j6 Qcr:=ofF 166
def vv:rF xz:=fun D L (a0,a1,a2,a3,a4,a5,a6,a7,a8,a9)=>
 bif (!decide (a0=a5))then(some false)
 else(bif (!decide (a1=a6))then(some false)
 else(bif (!decide (a2=a7))then(some false)
 else(bif (!decide (a3=a8))then(some false)
 else(bif (!ZG a4 a9)then(some false)
 else(some true)))))
theorem Qhc:OfF xz vv:=ofF 170
def vC:rF qY:=fun D L a0=>
 (Xy D ((ByteArray.size a0):Int)).bind fun r1=>
 bif fits (r1.length+List.length (ofBytes a0)) 1 then
 some (r1++(ofBytes a0))else none
theorem QhD:OfF qY vC:=ofF 171
def vA:rF xn:=fun D L a0=>
 (Q0 D ((ByteArray.size a0):Int)).bind fun r1=>
 (ZA D [r1,(ofBytes a0)]).bind fun r2=>
 some r2
theorem Qhj:OfF xn vA:=ofF 174
def jn:rL Kn:=fun D L (y0,y1,y2)=>
 bif (decide (y2<(y0.length:Int)))then(bif inb y2 y0.length then
 bif (decide ((rd1 (0:Int) y0 y2)=y1))then(some (Sum.inl true))
 else(Kn L (y0,y1,(wR (y2+1))))else none)
 else(some (Sum.inr ()))
theorem vD:OfL Kn jn:=ofL 175 0
def Qcx:rF xL:=fun D L (a0,a1)=>
 (Kn L (a0,a1,0)).bind fun z1=>
 Qr z1 (fun u2=>
 some u2)
 (fun z3=>
 some false)
theorem QjB:OfF xL Qcx:=ofF 175
def QbB:rF V8:=fun D L a0=>
 (Kv D a0).bind fun r1=>
 bif (!r1)then(some (-1))
 else((Xy D a0).bind fun r2=>
 (xX D r2).bind fun r3=>
 bif decide ((4:Int)≠0)then
 some (Int.tmod r3 4)else none)
theorem Qir:OfF V8 QbB:=ofF 176
def Kp:rF Xw:=fun D L (a0,a1)=>
 (ZX D (a0,a1)).bind fun r1=>
 some (decide (0<=r1))
theorem j7:OfF Xw Kp:=ofF 177
def QaR:rF Je:=fun D L a0=>
 (Kw D a0).bind fun r1=>
 bif (!r1)then(some (-1))
 else((Q0 D a0).bind fun r2=>
 (xY D r2).bind fun r3=>
 bif decide ((4:Int)≠0)then
 some (Int.tmod r3 4)else none)
theorem Qiq:OfF Je QaR:=ofF 178
def YE:rL Xv:=fun D L (y0,y1,y2,y3)=>
 bif (decide (y3<y2))then(bif inb y3 y0.length then
 bif (decide (y1=(rd1 (0:Int) y0 y3)))then(some (Sum.inl y3))
 else(Xv L (y0,y1,y2,(wR (y3+1))))else none)
 else(some (Sum.inr ()))
theorem KU:OfL Xv YE:=ofL 185 0
def VU:rF ZX:=fun D L (a0,a1)=>
 (Xv L (a0,a1,(a0.length:Int),0)).bind fun z1=>
 Qr z1 (fun u2=>
 some u2)
 (fun z3=>
 some (-1))
theorem QbR:OfF ZX VU:=ofF 185
end
end Go.Proofs.YtameehmkoglkeaaGreatDoor.M
