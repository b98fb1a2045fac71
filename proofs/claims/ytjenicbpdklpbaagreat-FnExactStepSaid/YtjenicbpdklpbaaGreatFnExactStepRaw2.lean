/- Plain forms of the functions that FnExactStep reaches, part 2. No conditions. -/
import Derived.Test.YtjenicbpdklpbaaGreatFnExactStepTab
set_option linter.all false
namespace Go.Proofs.YtjenicbpdklpbaaGreat.M
open Go Go.Eng Go.Proofs
set_option linter.unusedVariables false
noncomputable section
def jK:rL YN:=fun D L (y0,y1,y2)=>
 bif (decide (y2<(y0.length:Int)))then(bif inb y2 y0.length then
 let e1:=(rd1 Zo y0 y2);
 bif (!decide (e1.1=y1))then(some (Sum.inl (-1)))
 else(bif inb y2 y0.length then
 let e2:=(rd1 Zo y0 y2);
 bif (!decide (e2.2.1=(wR (y1+1))))then(some (Sum.inl (-1)))
 else(bif inb y2 y0.length then
 let e3:=(rd1 Zo y0 y2);
 bif (!decide (e3.2.2=(wR ((wR (y1+1))+1))))then(some (Sum.inl (-1)))
 else(YN L (y0,(wR ((wR ((wR (y1+1))+1))+1)),(wR (y2+1))))else none)else none)else none)
 else(some (Sum.inr y1))
theorem QcR:OfL YN jK:=ofL 109 0
def Qgm:rF yV:=fun D L (a0,a1)=>
 (YN L (a0,a1,0)).bind fun z4=>
 Qn z4 (fun u5=>
 some u5)
 (fun z6=>
 some z6)
theorem QqO:OfF yV Qgm:=ofF 109
def QoC:rF QE:=fun D L (a0,a1,a2)=>
 bif (decide (a1<=a0))then(some (decide (a0<=a2)))
 else(some false)
theorem QzT:OfF QE QoC:=ofF 110
def QjD:rL xg:=fun D L (y0,y1,y2,y3)=>
 bif (decide (y0<(y1.length:Int)))then(bif inb y0 y1.length then
 let e2:=(rd1 XU y1 y0);
 bif (decide (e2.2.2.1=0))then(bif inb y0 y1.length then
 let e3:=(rd1 XU y1 y0);
 bif fits (y3.length+ [e3].length) 56 then
 xg L ((wR (y0+1)),y1,y2,(y3++[e3]))else none else none)
 else(xg L ((wR (y0+1)),y1,y2,y3))else none)
 else(some y3)
theorem Qky:OfL xg QjD:=ofL 111 0
def QoM:rF QlB:=fun D L (a0,a1)=>
 (XA D (a0,a1)).bind fun r1=>
 bif (!r1)then(some [])
 else((xg L (0,a0,a1,[])).bind fun z4=>
 some z4)
theorem Qyk:OfF QlB QoM:=ofF 111
def QiW:rL xm:=fun D L (y0,y1,y2,y3)=>
 bif (decide (y2<y1))then(bif inb y2 y0.length then
 let e2:=(rd1 XU y0 y2);
 bif (decide (e2.2.2.1=0))then(bif fits (y3.length+ [e2].length) 56 then
 xm L (y0,y1,(wR (y2+1)),(y3++[e2]))else none)
 else(xm L (y0,y1,(wR (y2+1)),y3))else none)
 else(some y3)
theorem QkL:OfL xm QiW:=ofL 112 0
def QoQ:rF Qk6:=fun D L (a0,a1)=>
 (Xp D (a0,a1)).bind fun r1=>
 bif (!r1)then(some [])
 else((xm L (a0,(a0.length:Int),0,[])).bind fun z3=>
 some z3)
theorem QzJ:OfF Qk6 QoQ:=ofF 112
def Qk4:rF Qer:=fun D L (a0,a1,a2,a3,a4,a5,a6,a7,a8,a9,a10,a11)=>
 bif (!decide (a0=a6))then(some false)
 else((Qbm D (a1,a2,a3,a4,a5,a7,a8,a9,a10,a11)).bind fun r1=>
 bif (!r1)then(some false)
 else(some true))
theorem Qwe:OfF Qer Qk4:=ofF 113
def jJ:rL YM:=fun D L (y0,y1,y2)=>
 bif (decide (y1<(y2.length:Int)))then(bif inb y1 y2.length then
 let e1:=(rd1 Qv y2 y1);
 let l2:=List.set y2 (Int.toNat y1) (y0,e1.2);
 bif inb y1 l2.length then
 let e3:=(rd1 Qv l2 y1);
 let l4:=List.set l2 (Int.toNat y1) (e3.1,(wR (y0+1)),e3.2.2);
 bif inb y1 l4.length then
 let e5:=(rd1 Qv l4 y1);
 (Vw D ((rd1 Qv l4 y1).2.2.1,(wR ((wR (y0+1))+1)))).bind fun r6=>
 let e7:=(rd1 Qv l4 y1);
 let l8:=List.set l4 (Int.toNat y1) (e7.1,e7.2.1,r6.2,e7.2.2.2);
 bif inb y1 l8.length then
 let e9:=(rd1 Qv l8 y1);
 (KR D ((rd1 Qv l8 y1).2.2.2.1,r6.1)).bind fun r10=>
 let e11:=(rd1 Qv l8 y1);
 let l12:=List.set l8 (Int.toNat y1) (e11.1,e11.2.1,e11.2.2.1,r10.2,e11.2.2.2.2);
 bif inb y1 l12.length then
 let e13:=(rd1 Qv l12 y1);
 (K8 D ((rd1 Qv l12 y1).2.2.2.2.1,r10.1)).bind fun r14=>
 let e15:=(rd1 Qv l12 y1);
 let l16:=List.set l12 (Int.toNat y1) (e15.1,e15.2.1,e15.2.2.1,e15.2.2.2.1,r14.2,e15.2.2.2.2.2);
 bif inb y1 l16.length then
 let e17:=(rd1 Qv l16 y1);
 let l18:=List.set l16 (Int.toNat y1) (e17.1,e17.2.1,e17.2.2.1,e17.2.2.2.1,e17.2.2.2.2.1,r14.1,e17.2.2.2.2.2.2);
 bif inb y1 l18.length then
 let e19:=(rd1 Qv l18 y1);
 let l20:=List.set l18 (Int.toNat y1) (e19.1,e19.2.1,e19.2.2.1,e19.2.2.2.1,e19.2.2.2.2.1,e19.2.2.2.2.2.1,(wR (r14.1+1)),e19.2.2.2.2.2.2.2);
 bif inb y1 l20.length then
 let e21:=(rd1 Qv l20 y1);
 let l22:=List.set l20 (Int.toNat y1) (e21.1,e21.2.1,e21.2.2.1,e21.2.2.2.1,e21.2.2.2.2.1,e21.2.2.2.2.2.1,e21.2.2.2.2.2.2.1,(wR ((wR (r14.1+1))+1)),e21.2.2.2.2.2.2.2.2);
 bif inb y1 l22.length then
 let e23:=(rd1 Qv l22 y1);
 (zP D ((rd1 Qv l22 y1).2.2.2.2.2.2.2.2.1,(wR ((wR ((wR (r14.1+1))+1))+1)))).bind fun r24=>
 let e25:=(rd1 Qv l22 y1);
 let l26:=List.set l22 (Int.toNat y1) (e25.1,e25.2.1,e25.2.2.1,e25.2.2.2.1,e25.2.2.2.2.1,e25.2.2.2.2.2.1,e25.2.2.2.2.2.2.1,e25.2.2.2.2.2.2.2.1,r24.2,e25.2.2.2.2.2.2.2.2.2);
 bif inb y1 l26.length then
 let e27:=(rd1 Qv l26 y1);
 (K8 D ((rd1 Qv l26 y1).2.2.2.2.2.2.2.2.2.1,r24.1)).bind fun r28=>
 let e29:=(rd1 Qv l26 y1);
 let l30:=List.set l26 (Int.toNat y1) (e29.1,e29.2.1,e29.2.2.1,e29.2.2.2.1,e29.2.2.2.2.1,e29.2.2.2.2.2.1,e29.2.2.2.2.2.2.1,e29.2.2.2.2.2.2.2.1,e29.2.2.2.2.2.2.2.2.1,r28.2,e29.2.2.2.2.2.2.2.2.2.2);
 bif inb y1 l30.length then
 let e31:=(rd1 Qv l30 y1);
 (K8 D ((rd1 Qv l30 y1).2.2.2.2.2.2.2.2.2.2.1,r28.1)).bind fun r32=>
 let e33:=(rd1 Qv l30 y1);
 let l34:=List.set l30 (Int.toNat y1) (e33.1,e33.2.1,e33.2.2.1,e33.2.2.2.1,e33.2.2.2.2.1,e33.2.2.2.2.2.1,e33.2.2.2.2.2.2.1,e33.2.2.2.2.2.2.2.1,e33.2.2.2.2.2.2.2.2.1,e33.2.2.2.2.2.2.2.2.2.1,r32.2,e33.2.2.2.2.2.2.2.2.2.2.2);
 bif inb y1 l34.length then
 let e35:=(rd1 Qv l34 y1);
 (yW D ((rd1 Qv l34 y1).2.2.2.2.2.2.2.2.2.2.2.1,r32.1)).bind fun r36=>
 let e37:=(rd1 Qv l34 y1);
 let l38:=List.set l34 (Int.toNat y1) (e37.1,e37.2.1,e37.2.2.1,e37.2.2.2.1,e37.2.2.2.2.1,e37.2.2.2.2.2.1,e37.2.2.2.2.2.2.1,e37.2.2.2.2.2.2.2.1,e37.2.2.2.2.2.2.2.2.1,e37.2.2.2.2.2.2.2.2.2.1,e37.2.2.2.2.2.2.2.2.2.2.1,r36.2,e37.2.2.2.2.2.2.2.2.2.2.2.2);
 bif inb y1 l38.length then
 let e39:=(rd1 Qv l38 y1);
 let l40:=List.set l38 (Int.toNat y1) (e39.1,e39.2.1,e39.2.2.1,e39.2.2.2.1,e39.2.2.2.2.1,e39.2.2.2.2.2.1,e39.2.2.2.2.2.2.1,e39.2.2.2.2.2.2.2.1,e39.2.2.2.2.2.2.2.2.1,e39.2.2.2.2.2.2.2.2.2.1,e39.2.2.2.2.2.2.2.2.2.2.1,e39.2.2.2.2.2.2.2.2.2.2.2.1,r36.1,e39.2.2.2.2.2.2.2.2.2.2.2.2.2);
 bif inb y1 l40.length then
 let e41:=(rd1 Qv l40 y1);
 let l42:=List.set l40 (Int.toNat y1) (e41.1,e41.2.1,e41.2.2.1,e41.2.2.2.1,e41.2.2.2.2.1,e41.2.2.2.2.2.1,e41.2.2.2.2.2.2.1,e41.2.2.2.2.2.2.2.1,e41.2.2.2.2.2.2.2.2.1,e41.2.2.2.2.2.2.2.2.2.1,e41.2.2.2.2.2.2.2.2.2.2.1,e41.2.2.2.2.2.2.2.2.2.2.2.1,e41.2.2.2.2.2.2.2.2.2.2.2.2.1,(wR (r36.1+1)),e41.2.2.2.2.2.2.2.2.2.2.2.2.2.2);
 bif inb y1 l42.length then
 let e43:=(rd1 Qv l42 y1);
 (yR D ((rd1 Qv l42 y1).2.2.2.2.2.2.2.2.2.2.2.2.2.2.1,(wR ((wR (r36.1+1))+1)))).bind fun r44=>
 let e45:=(rd1 Qv l42 y1);
 let l46:=List.set l42 (Int.toNat y1) (e45.1,e45.2.1,e45.2.2.1,e45.2.2.2.1,e45.2.2.2.2.1,e45.2.2.2.2.2.1,e45.2.2.2.2.2.2.1,e45.2.2.2.2.2.2.2.1,e45.2.2.2.2.2.2.2.2.1,e45.2.2.2.2.2.2.2.2.2.1,e45.2.2.2.2.2.2.2.2.2.2.1,e45.2.2.2.2.2.2.2.2.2.2.2.1,e45.2.2.2.2.2.2.2.2.2.2.2.2.1,e45.2.2.2.2.2.2.2.2.2.2.2.2.2.1,r44.2,e45.2.2.2.2.2.2.2.2.2.2.2.2.2.2.2);
 bif inb y1 l46.length then
 let e47:=(rd1 Qv l46 y1);
 let l48:=List.set l46 (Int.toNat y1) (e47.1,e47.2.1,e47.2.2.1,e47.2.2.2.1,e47.2.2.2.2.1,e47.2.2.2.2.2.1,e47.2.2.2.2.2.2.1,e47.2.2.2.2.2.2.2.1,e47.2.2.2.2.2.2.2.2.1,e47.2.2.2.2.2.2.2.2.2.1,e47.2.2.2.2.2.2.2.2.2.2.1,e47.2.2.2.2.2.2.2.2.2.2.2.1,e47.2.2.2.2.2.2.2.2.2.2.2.2.1,e47.2.2.2.2.2.2.2.2.2.2.2.2.2.1,e47.2.2.2.2.2.2.2.2.2.2.2.2.2.2.1,r44.1,e47.2.2.2.2.2.2.2.2.2.2.2.2.2.2.2.2);
 bif inb y1 l48.length then
 let e49:=(rd1 Qv l48 y1);
 let l50:=List.set l48 (Int.toNat y1) (e49.1,e49.2.1,e49.2.2.1,e49.2.2.2.1,e49.2.2.2.2.1,e49.2.2.2.2.2.1,e49.2.2.2.2.2.2.1,e49.2.2.2.2.2.2.2.1,e49.2.2.2.2.2.2.2.2.1,e49.2.2.2.2.2.2.2.2.2.1,e49.2.2.2.2.2.2.2.2.2.2.1,e49.2.2.2.2.2.2.2.2.2.2.2.1,e49.2.2.2.2.2.2.2.2.2.2.2.2.1,e49.2.2.2.2.2.2.2.2.2.2.2.2.2.1,e49.2.2.2.2.2.2.2.2.2.2.2.2.2.2.1,e49.2.2.2.2.2.2.2.2.2.2.2.2.2.2.2.1,(wR (r44.1+1)),e49.2.2.2.2.2.2.2.2.2.2.2.2.2.2.2.2.2);
 bif inb y1 l50.length then
 let e51:=(rd1 Qv l50 y1);
 let l52:=List.set l50 (Int.toNat y1) (e51.1,e51.2.1,e51.2.2.1,e51.2.2.2.1,e51.2.2.2.2.1,e51.2.2.2.2.2.1,e51.2.2.2.2.2.2.1,e51.2.2.2.2.2.2.2.1,e51.2.2.2.2.2.2.2.2.1,e51.2.2.2.2.2.2.2.2.2.1,e51.2.2.2.2.2.2.2.2.2.2.1,e51.2.2.2.2.2.2.2.2.2.2.2.1,e51.2.2.2.2.2.2.2.2.2.2.2.2.1,e51.2.2.2.2.2.2.2.2.2.2.2.2.2.1,e51.2.2.2.2.2.2.2.2.2.2.2.2.2.2.1,e51.2.2.2.2.2.2.2.2.2.2.2.2.2.2.2.1,e51.2.2.2.2.2.2.2.2.2.2.2.2.2.2.2.2.1,(wR ((wR (r44.1+1))+1)),e51.2.2.2.2.2.2.2.2.2.2.2.2.2.2.2.2.2.2);
 bif inb y1 l52.length then
 let e53:=(rd1 Qv l52 y1);
 (jq D ((rd1 Qv l52 y1).2.2.2.2.2.2.2.2.2.2.2.2.2.2.2.2.2.2,(wR ((wR ((wR (r44.1+1))+1))+1)))).bind fun r54=>
 let e55:=(rd1 Qv l52 y1);
 let l56:=List.set l52 (Int.toNat y1) (e55.1,e55.2.1,e55.2.2.1,e55.2.2.2.1,e55.2.2.2.2.1,e55.2.2.2.2.2.1,e55.2.2.2.2.2.2.1,e55.2.2.2.2.2.2.2.1,e55.2.2.2.2.2.2.2.2.1,e55.2.2.2.2.2.2.2.2.2.1,e55.2.2.2.2.2.2.2.2.2.2.1,e55.2.2.2.2.2.2.2.2.2.2.2.1,e55.2.2.2.2.2.2.2.2.2.2.2.2.1,e55.2.2.2.2.2.2.2.2.2.2.2.2.2.1,e55.2.2.2.2.2.2.2.2.2.2.2.2.2.2.1,e55.2.2.2.2.2.2.2.2.2.2.2.2.2.2.2.1,e55.2.2.2.2.2.2.2.2.2.2.2.2.2.2.2.2.1,e55.2.2.2.2.2.2.2.2.2.2.2.2.2.2.2.2.2.1,r54.2);
 YM L (r54.1,(wR (y1+1)),l56)else none else none else none else none else none else none else none else none else none else none else none else none else none else none else none else none else none else none else none)
 else(some (y0,y2))
theorem Qbb:OfL YM jJ:=ofL 114 0
def Qfl:rF yK:=fun D L (a0,a1)=>
 (YM L (a1,0,a0)).bind fun z57=>
 some z57
theorem QqA:OfF yK Qfl:=ofF 114
def jR:rL YX:=fun D L (y0,y1,y2)=>
 bif (decide (y1<(y2.length:Int)))then(bif inb y1 y2.length then
 let e1:=(rd1 qG y2 y1);
 let l2:=List.set y2 (Int.toNat y1) (y0,e1.2);
 bif inb y1 l2.length then
 let e3:=(rd1 qG l2 y1);
 (yU D ((rd1 qG l2 y1).2.1,(wR (y0+1)))).bind fun r4=>
 let e5:=(rd1 qG l2 y1);
 let l6:=List.set l2 (Int.toNat y1) (e5.1,r4.2,e5.2.2);
 bif decide ((3:Int)≠0)then
 bif inb y1 l6.length then
 let e7:=(rd1 qG l6 y1);
 let l8:=List.set l6 (Int.toNat y1) (e7.1,e7.2.1,(decide ((Int.tmod r4.1 3)=0)));
 YX L ((wR (r4.1+1)),(wR (y1+1)),l8)else none else none else none else none)
 else(some (y0,y2))
theorem QaA:OfL YX jR:=ofL 115 0
def Qfj:rF ja:=fun D L (a0,a1)=>
 (YX L (a1,0,a0)).bind fun z9=>
 some z9
theorem QqI:OfF ja Qfj:=ofF 115
def jX:rL YO:=fun D L (y0,y1,y2)=>
 bif (decide (y1<(y2.length:Int)))then(bif inb y1 y2.length then
 let e1:=(rd1 KH y2 y1);
 let l2:=List.set y2 (Int.toNat y1) (y0,e1.2);
 bif inb y1 l2.length then
 let e3:=(rd1 KH l2 y1);
 (Vw D ((rd1 KH l2 y1).2.1,(wR (y0+1)))).bind fun r4=>
 let e5:=(rd1 KH l2 y1);
 let l6:=List.set l2 (Int.toNat y1) (e5.1,r4.2,e5.2.2);
 bif inb y1 l6.length then
 let e7:=(rd1 KH l6 y1);
 (KR D ((rd1 KH l6 y1).2.2,r4.1)).bind fun r8=>
 let e9:=(rd1 KH l6 y1);
 let l10:=List.set l6 (Int.toNat y1) (e9.1,e9.2.1,r8.2);
 YO L (r8.1,(wR (y1+1)),l10)else none else none else none)
 else(some (y0,y2))
theorem Qce:OfL YO jX:=ofL 116 0
def Qgc:rF yZ:=fun D L (a0,a1)=>
 (YO L (a1,0,a0)).bind fun z11=>
 some z11
theorem QqR:OfF yZ Qgc:=ofF 116
def xW:rL VO:=fun D L (y0,y1)=>
 bif (decide (0<y0))then(bif decide ((10:Int)≠0)then
 bif fits (ByteArray.size (jg [(IntKind.wrap .u8 (wR (48+(Int.tmod y0 10))))])+ByteArray.size y1) 1 then
 bif decide ((10:Int)≠0)then
 VO L ((wR (Int.tdiv y0 10)),((jg [(IntKind.wrap .u8 (wR (48+(Int.tmod y0 10))))])++y1))else none else none else none)
 else(some y1)
theorem zz:OfL VO xW:=ofL 117 0
def QgZ:rF K5:=fun D L a0=>
 bif (decide (a0<=0))then(some (⟨#[109,48]⟩:ByteArray))
 else((VO L (a0,(⟨#[]⟩:ByteArray))).bind fun z1=>
 bif fits (ByteArray.size (⟨#[109]⟩:ByteArray)+ByteArray.size z1) 1 then
 some ((⟨#[109]⟩:ByteArray)++z1)else none)
theorem Qsl:OfF K5 QgZ:=ofF 117
def QlF:rF j9:=fun D L (a0,a1,a2)=>
 (QlB D (a0,a1)).bind fun r1=>
 (Yw D (r1,[],a2)).bind fun r2=>
 some r2
theorem QvL:OfF j9 QlF:=ofF 118
def Ql0:rF j6:=fun D L (a0,a1,a2)=>
 (Qk6 D (a0,a1)).bind fun r1=>
 (VK D (r1,[],a2)).bind fun r2=>
 some r2
theorem Qvr:OfF j6 Ql0:=ofF 119
def Qcm:rL J0:=fun D L (y0,y1,y2,y3,y4,y5,y6)=>
 bif (decide (y0<(y1.length:Int)))then(bif inb y0 y1.length then
 let e1:=(rd1 Qv y1 y0);
 (Xq D e1).bind fun r2=>
 bif fits (y4.length+ [r2].length) 296 then
 J0 L ((wR (y0+1)),y1,y2,y3,(y4++[r2]),y5,y6)else none else none)
 else(some (y1,y2,y3,y4,y5,y6))
theorem QfC:OfL J0 Qcm:=ofL 124 0
def Qbo:rL JF:=fun D L (y0,y1,y2,y3,y4,y5,y6)=>
 bif (decide (y0<(y2.length:Int)))then(bif inb y0 y2.length then
 let e4:=(rd1 qG y2 y0);
 (Qcy D e4).bind fun r5=>
 bif fits (y5.length+ [r5].length) 40 then
 JF L ((wR (y0+1)),y1,y2,y3,y4,(y5++[r5]),y6)else none else none)
 else(some (y1,y2,y3,y4,y5,y6))
theorem Qgg:OfL JF Qbo:=ofL 124 2
def QcX:rL J1:=fun D L (y0,y1,y2,y3,y4,y5,y6)=>
 bif (decide (y0<(y3.length:Int)))then(bif inb y0 y3.length then
 let e7:=(rd1 KH y3 y0);
 bif inb y0 y3.length then
 let e8:=(rd1 KH y3 y0);
 (ZY D e8.2).bind fun r9=>
 bif fits (y6.length+ [(e7.1,r9)].length) 56 then
 J1 L ((wR (y0+1)),y1,y2,y3,y4,y5,(y6++[(e7.1,r9)]))else none else none else none)
 else(some (y4,y5,y6))
theorem Qfw:OfL J1 QcX:=ofL 124 4
def QiO:rF xA:=fun D L (a0,a1,a2)=>
 (J0 L (0,a0,a1,a2,[],[],[])).bind fun z3=>
 (JF L (0,z3)).bind fun z6=>
 (J1 L (0,z6)).bind fun z10=>
 some z10
theorem Qta:OfF xA QiO:=ofF 124
def jS:rL Vc:=fun D L (y0,y1,y2,y3,y4,y5,y6,y7,y8)=>
 bif (decide (y2<y1))then(bif inb y2 y0.length then
 let e1:=(rd1 Qv y0 y2);
 (ZH D e1).bind fun r2=>
 bif fits (y6.length+ [r2].length) 296 then
 Vc L (y0,y1,(wR (y2+1)),y3,y4,y5,(y6++[r2]),y7,y8)else none else none)
 else(some (y3,y4,y5,y6,y7,y8))
theorem Qbs:OfL Vc jS:=ofL 125 0
def jO:rL Vd:=fun D L (y0,y1,y2,y3,y4,y5,y6,y7,y8)=>
 bif (decide (y2<y1))then(bif inb y2 y0.length then
 let e4:=(rd1 qG y0 y2);
 (vG D e4).bind fun r5=>
 bif fits (y7.length+ [r5].length) 40 then
 Vd L (y0,y1,(wR (y2+1)),y3,y4,y5,y6,(y7++[r5]),y8)else none else none)
 else(some (y3,y4,y5,y6,y7,y8))
theorem QbA:OfL Vd jO:=ofL 125 2
def jL:rL Vf:=fun D L (y0,y1,y2,y3,y4,y5)=>
 bif (decide (y2<y1))then(bif inb y2 y0.length then
 let e7:=(rd1 KH y0 y2);
 (X4 D e7.2).bind fun r8=>
 bif fits (y5.length+ [(e7.1,r8)].length) 56 then
 Vf L (y0,y1,(wR (y2+1)),y3,y4,(y5++[(e7.1,r8)]))else none else none)
 else(some (y3,y4,y5))
theorem Qcg:OfL Vf jL:=ofL 125 4
def Qfq:rF Vz:=fun D L (a0,a1,a2)=>
 (Vc L (a0,(a0.length:Int),0,a0,a1,a2,[],[],[])).bind fun z3=>
 (Vd L (z3.2.1,(z3.2.1.length:Int),0,z3)).bind fun z6=>
 (Vf L (z6.2.2.1,(z6.2.2.1.length:Int),0,z6.2.2.2)).bind fun z9=>
 some z9
theorem QqM:OfF Vz Qfq:=ofF 125
def jP:rL YY:=fun D L (y0,y1,y2)=>
 bif (decide (y2<(y0.length:Int)))then(bif inb y2 y0.length then
 let e1:=(rd1 Qv y0 y2);
 bif (!decide (e1.1=y1))then(some (Sum.inl (-1)))
 else(bif inb y2 y0.length then
 let e2:=(rd1 Qv y0 y2);
 bif (!decide (e2.2.1=(wR (y1+1))))then(some (Sum.inl (-1)))
 else(bif inb y2 y0.length then
 let e3:=(rd1 Qv y0 y2);
 (Vy D (e3.2.2.1,(wR ((wR (y1+1))+1)))).bind fun r4=>
 bif (decide (r4<0))then(some (Sum.inl (-1)))
 else(bif inb y2 y0.length then
 let e5:=(rd1 Qv y0 y2);
 (KT D (e5.2.2.2.1,r4)).bind fun r6=>
 bif (decide (r6<0))then(some (Sum.inl (-1)))
 else(bif inb y2 y0.length then
 let e7:=(rd1 Qv y0 y2);
 (K7 D (e7.2.2.2.2.1,r6)).bind fun r8=>
 bif (decide (r8<0))then(some (Sum.inl (-1)))
 else(bif inb y2 y0.length then
 let e9:=(rd1 Qv y0 y2);
 bif (!decide (e9.2.2.2.2.2.1=r8))then(some (Sum.inl (-1)))
 else(bif inb y2 y0.length then
 let e10:=(rd1 Qv y0 y2);
 bif (!decide (e10.2.2.2.2.2.2.1=(wR (r8+1))))then(some (Sum.inl (-1)))
 else(bif inb y2 y0.length then
 let e11:=(rd1 Qv y0 y2);
 bif (!decide (e11.2.2.2.2.2.2.2.1=(wR ((wR (r8+1))+1))))then(some (Sum.inl (-1)))
 else(bif inb y2 y0.length then
 let e12:=(rd1 Qv y0 y2);
 (zV D (e12.2.2.2.2.2.2.2.2.1,(wR ((wR ((wR (r8+1))+1))+1)))).bind fun r13=>
 bif (decide (r13<0))then(some (Sum.inl (-1)))
 else(bif inb y2 y0.length then
 let e14:=(rd1 Qv y0 y2);
 (K7 D (e14.2.2.2.2.2.2.2.2.2.1,r13)).bind fun r15=>
 bif (decide (r15<0))then(some (Sum.inl (-1)))
 else(bif inb y2 y0.length then
 let e16:=(rd1 Qv y0 y2);
 (K7 D (e16.2.2.2.2.2.2.2.2.2.2.1,r15)).bind fun r17=>
 bif (decide (r17<0))then(some (Sum.inl (-1)))
 else(bif inb y2 y0.length then
 let e18:=(rd1 Qv y0 y2);
 (yL D (e18.2.2.2.2.2.2.2.2.2.2.2.1,r17)).bind fun r19=>
 bif (decide (r19<0))then(some (Sum.inl (-1)))
 else(bif inb y2 y0.length then
 let e20:=(rd1 Qv y0 y2);
 bif (!decide (e20.2.2.2.2.2.2.2.2.2.2.2.2.1=r19))then(some (Sum.inl (-1)))
 else(bif inb y2 y0.length then
 let e21:=(rd1 Qv y0 y2);
 bif (!decide (e21.2.2.2.2.2.2.2.2.2.2.2.2.2.1=(wR (r19+1))))then(some (Sum.inl (-1)))
 else(bif inb y2 y0.length then
 let e22:=(rd1 Qv y0 y2);
 (jo D (e22.2.2.2.2.2.2.2.2.2.2.2.2.2.2.1,(wR ((wR (r19+1))+1)))).bind fun r23=>
 bif (decide (r23<0))then(some (Sum.inl (-1)))
 else(bif inb y2 y0.length then
 let e24:=(rd1 Qv y0 y2);
 bif (!decide (e24.2.2.2.2.2.2.2.2.2.2.2.2.2.2.2.1=r23))then(some (Sum.inl (-1)))
 else(bif inb y2 y0.length then
 let e25:=(rd1 Qv y0 y2);
 bif (!decide (e25.2.2.2.2.2.2.2.2.2.2.2.2.2.2.2.2.1=(wR (r23+1))))then(some (Sum.inl (-1)))
 else(bif inb y2 y0.length then
 let e26:=(rd1 Qv y0 y2);
 bif (!decide (e26.2.2.2.2.2.2.2.2.2.2.2.2.2.2.2.2.2.1=(wR ((wR (r23+1))+1))))then(some (Sum.inl (-1)))
 else(bif inb y2 y0.length then
 let e27:=(rd1 Qv y0 y2);
 (yV D (e27.2.2.2.2.2.2.2.2.2.2.2.2.2.2.2.2.2.2,(wR ((wR ((wR (r23+1))+1))+1)))).bind fun r28=>
 bif (decide (r28<0))then(some (Sum.inl (-1)))
 else(YY L (y0,r28,(wR (y2+1))))else none)else none)else none)else none)else none)else none)else none)else none)else none)else none)else none)else none)else none)else none)else none)else none)else none)else none)else none)
 else(some (Sum.inr y1))
theorem QcN:OfL YY jP:=ofL 126 0
def QfJ:rF jn:=fun D L (a0,a1)=>
 (YY L (a0,a1,0)).bind fun z29=>
 Qn z29 (fun u30=>
 some u30)
 (fun z31=>
 some z31)
theorem QqT:OfF jn QfJ:=ofF 126
def jM:rL YT:=fun D L (y0,y1,y2)=>
 bif (decide (y2<(y0.length:Int)))then(bif inb y2 y0.length then
 let e1:=(rd1 qG y0 y2);
 bif (!decide (e1.1=y1))then(some (Sum.inl (-1)))
 else(bif inb y2 y0.length then
 let e2:=(rd1 qG y0 y2);
 (je D (e2.2.1,(wR (y1+1)))).bind fun r3=>
 bif (decide (r3<0))then(some (Sum.inl (-1)))
 else(bif inb y2 y0.length then
 let e4:=(rd1 qG y0 y2);
 bif decide ((3:Int)≠0)then
 bif (!(e4.2.2==(decide ((Int.tmod r3 3)=0))))then(some (Sum.inl (-1)))
 else(YT L (y0,(wR (r3+1)),(wR (y2+1))))else none else none)else none)else none)
 else(some (Sum.inr y1))
theorem QcO:OfL YT jM:=ofL 127 0
def Qgu:rF yT:=fun D L (a0,a1)=>
 (YT L (a0,a1,0)).bind fun z5=>
 Qn z5 (fun u6=>
 some u6)
 (fun z7=>
 some z7)
theorem QqF:OfF yT Qgu:=ofF 127
def jD:rL YS:=fun D L (y0,y1,y2)=>
 bif (decide (y2<(y0.length:Int)))then(bif inb y2 y0.length then
 let e1:=(rd1 KH y0 y2);
 bif (!decide (e1.1=y1))then(some (Sum.inl (-1)))
 else(bif inb y2 y0.length then
 let e2:=(rd1 KH y0 y2);
 (Vy D (e2.2.1,(wR (y1+1)))).bind fun r3=>
 bif (decide (r3<0))then(some (Sum.inl (-1)))
 else(bif inb y2 y0.length then
 let e4:=(rd1 KH y0 y2);
 (KT D (e4.2.2,r3)).bind fun r5=>
 bif (decide (r5<0))then(some (Sum.inl (-1)))
 else(YS L (y0,r5,(wR (y2+1))))else none)else none)else none)
 else(some (Sum.inr y1))
theorem QbR:OfL YS jD:=ofL 128 0
def QfN:rF yJ:=fun D L (a0,a1)=>
 (YS L (a0,a1,0)).bind fun z6=>
 Qn z6 (fun u7=>
 some u7)
 (fun z8=>
 some z8)
theorem QqC:OfF yJ QfN:=ofF 128
def Qi5:rL qW:=fun D L (y0,y1,y2,y3,y4,y5,y6,y7,y8,y9,y10,y11,y12,y13,y14,y15,y16,y17,y18,y19,y20,y21,y22,y23,y24,y25,y26,y27,y28,y29,y30,y31,y32,y33,y34,y35,y36,y37,y38)=>
 bif (decide (y0<(y15.length:Int)))then(bif inb y0 y15.length then
 let e3:=(rd1 X7 y15 y0);
 bif (decide ((wR (e3.2.2.2+1))<=y16))then(bif fits (y34.length+ [(e3.1,e3.2.1,e3.2.2.1,(wR (e3.2.2.2+1)))].length) 32 then
 qW L ((wR (y0+1)),y1,y2,y3,y4,y5,y6,y7,y8,y9,y10,y11,y12,y13,y14,y15,y16,y17,y18,y19,y20,y21,y22,y23,y24,y25,y26,y27,y28,y29,y30,y31,y32,y33,(y34++[(e3.1,e3.2.1,e3.2.2.1,(wR (e3.2.2.2+1)))]),y35,y36,y37,y38)else none)
 else(qW L ((wR (y0+1)),y1,y2,y3,y4,y5,y6,y7,y8,y9,y10,y11,y12,y13,y14,y15,y16,y17,y18,y19,y20,y21,y22,y23,y24,y25,y26,y27,y28,y29,y30,y31,y32,y33,y34,y35,y36,y37,y38))else none)
 else(some (y20,y21,y22,y23,y24,y25,y26,y27,y28,y29,y30,y31,y32,y33,y34,y35,y36,y37,y38))
theorem Qlk:OfL qW Qi5:=ofL 129 0
def QoB:rF QfD:=fun D L (a0,a1,a2,a3,a4,a5,a6,a7,a8,a9,a10,a11,a12,a13,a14,a15,a16,a17,a18)=>
 (Xq D (a0,a1,a2,a3,a4,a5,a6,a7,a8,a9,a10,a11,a12,a13,a14,a15,a16,a17,a18)).bind fun r1=>
 (Yp D (a0,a1,a2,a3,a4,a5,a6,a7,a8,a9,a10,a11,a12,a13,a14,a15,a16,a17,a18)).bind fun r2=>
 bif (!r2)then(some r1)
 else(bif (decide (a17=100000))then(some r1)
 else((qW L (0,a0,a1,a2,a3,a4,a5,a6,a7,a8,a9,a10,a11,a12,a13,a14,a15,a16,a17,a18,r1.1,r1.2.1,r1.2.2.1,r1.2.2.2.1,r1.2.2.2.2.1,r1.2.2.2.2.2.1,r1.2.2.2.2.2.2.1,r1.2.2.2.2.2.2.2.1,r1.2.2.2.2.2.2.2.2.1,r1.2.2.2.2.2.2.2.2.2.1,r1.2.2.2.2.2.2.2.2.2.2.1,r1.2.2.2.2.2.2.2.2.2.2.2.1,r1.2.2.2.2.2.2.2.2.2.2.2.2.1,r1.2.2.2.2.2.2.2.2.2.2.2.2.2.1,[],r1.2.2.2.2.2.2.2.2.2.2.2.2.2.2.2.1,r1.2.2.2.2.2.2.2.2.2.2.2.2.2.2.2.2.1,(wR (r1.2.2.2.2.2.2.2.2.2.2.2.2.2.2.2.2.2.1+1)),r1.2.2.2.2.2.2.2.2.2.2.2.2.2.2.2.2.2.2)).bind fun z4=>
 some z4))
theorem Qz9:OfF QfD QoB:=ofF 129
end
end Go.Proofs.YtjenicbpdklpbaaGreat.M
