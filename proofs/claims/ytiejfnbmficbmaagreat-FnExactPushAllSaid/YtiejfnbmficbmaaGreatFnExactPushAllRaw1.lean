/- Plain forms of the functions that FnExactPushAll reaches, part 1. No conditions. -/
import Derived.Test.YtiejfnbmficbmaaGreatFnExactPushAllTab
set_option linter.all false
namespace Go.Proofs.YtiejfnbmficbmaaGreat.M
open Go Go.Eng Go.Proofs
set_option linter.unusedVariables false
noncomputable section
def yc:rL Z9:=fun D L (y0,y1,y2)=>
 bif (decide (y1<(y2.length:Int)))then(bif inb y1 y2.length then
 let e1:=(rd1 QO y2 y1);
 let l2:=List.set y2 (Int.toNat y1) (y0,e1.2);
 bif inb y1 l2.length then
 let e3:=(rd1 QO l2 y1);
 let l4:=List.set l2 (Int.toNat y1) (e3.1,(wR (y0+1)),e3.2.2);
 bif inb y1 l4.length then
 let e5:=(rd1 QO l4 y1);
 (KM D ((rd1 QO l4 y1).2.2.1,(wR ((wR (y0+1))+1)))).bind fun r6=>
 let e7:=(rd1 QO l4 y1);
 let l8:=List.set l4 (Int.toNat y1) (e7.1,e7.2.1,r6.2,e7.2.2.2);
 bif inb y1 l8.length then
 let e9:=(rd1 QO l8 y1);
 (YX D ((rd1 QO l8 y1).2.2.2.1,r6.1)).bind fun r10=>
 let e11:=(rd1 QO l8 y1);
 let l12:=List.set l8 (Int.toNat y1) (e11.1,e11.2.1,e11.2.2.1,r10.2,e11.2.2.2.2);
 bif inb y1 l12.length then
 let e13:=(rd1 QO l12 y1);
 (Kg D ((rd1 QO l12 y1).2.2.2.2.1,r10.1)).bind fun r14=>
 let e15:=(rd1 QO l12 y1);
 let l16:=List.set l12 (Int.toNat y1) (e15.1,e15.2.1,e15.2.2.1,e15.2.2.2.1,r14.2,e15.2.2.2.2.2);
 bif inb y1 l16.length then
 let e17:=(rd1 QO l16 y1);
 let l18:=List.set l16 (Int.toNat y1) (e17.1,e17.2.1,e17.2.2.1,e17.2.2.2.1,e17.2.2.2.2.1,r14.1,e17.2.2.2.2.2.2);
 bif inb y1 l18.length then
 let e19:=(rd1 QO l18 y1);
 let l20:=List.set l18 (Int.toNat y1) (e19.1,e19.2.1,e19.2.2.1,e19.2.2.2.1,e19.2.2.2.2.1,e19.2.2.2.2.2.1,(wR (r14.1+1)),e19.2.2.2.2.2.2.2);
 bif inb y1 l20.length then
 let e21:=(rd1 QO l20 y1);
 let l22:=List.set l20 (Int.toNat y1) (e21.1,e21.2.1,e21.2.2.1,e21.2.2.2.1,e21.2.2.2.2.1,e21.2.2.2.2.2.1,e21.2.2.2.2.2.2.1,(wR ((wR (r14.1+1))+1)),e21.2.2.2.2.2.2.2.2);
 bif inb y1 l22.length then
 let e23:=(rd1 QO l22 y1);
 (xL D ((rd1 QO l22 y1).2.2.2.2.2.2.2.2.1,(wR ((wR ((wR (r14.1+1))+1))+1)))).bind fun r24=>
 let e25:=(rd1 QO l22 y1);
 let l26:=List.set l22 (Int.toNat y1) (e25.1,e25.2.1,e25.2.2.1,e25.2.2.2.1,e25.2.2.2.2.1,e25.2.2.2.2.2.1,e25.2.2.2.2.2.2.1,e25.2.2.2.2.2.2.2.1,r24.2,e25.2.2.2.2.2.2.2.2.2);
 bif inb y1 l26.length then
 let e27:=(rd1 QO l26 y1);
 (Kg D ((rd1 QO l26 y1).2.2.2.2.2.2.2.2.2.1,r24.1)).bind fun r28=>
 let e29:=(rd1 QO l26 y1);
 let l30:=List.set l26 (Int.toNat y1) (e29.1,e29.2.1,e29.2.2.1,e29.2.2.2.1,e29.2.2.2.2.1,e29.2.2.2.2.2.1,e29.2.2.2.2.2.2.1,e29.2.2.2.2.2.2.2.1,e29.2.2.2.2.2.2.2.2.1,r28.2,e29.2.2.2.2.2.2.2.2.2.2);
 bif inb y1 l30.length then
 let e31:=(rd1 QO l30 y1);
 (Kg D ((rd1 QO l30 y1).2.2.2.2.2.2.2.2.2.2.1,r28.1)).bind fun r32=>
 let e33:=(rd1 QO l30 y1);
 let l34:=List.set l30 (Int.toNat y1) (e33.1,e33.2.1,e33.2.2.1,e33.2.2.2.1,e33.2.2.2.2.1,e33.2.2.2.2.2.1,e33.2.2.2.2.2.2.1,e33.2.2.2.2.2.2.2.1,e33.2.2.2.2.2.2.2.2.1,e33.2.2.2.2.2.2.2.2.2.1,r32.2,e33.2.2.2.2.2.2.2.2.2.2.2);
 bif inb y1 l34.length then
 let e35:=(rd1 QO l34 y1);
 (zM D ((rd1 QO l34 y1).2.2.2.2.2.2.2.2.2.2.2.1,r32.1)).bind fun r36=>
 let e37:=(rd1 QO l34 y1);
 let l38:=List.set l34 (Int.toNat y1) (e37.1,e37.2.1,e37.2.2.1,e37.2.2.2.1,e37.2.2.2.2.1,e37.2.2.2.2.2.1,e37.2.2.2.2.2.2.1,e37.2.2.2.2.2.2.2.1,e37.2.2.2.2.2.2.2.2.1,e37.2.2.2.2.2.2.2.2.2.1,e37.2.2.2.2.2.2.2.2.2.2.1,r36.2,e37.2.2.2.2.2.2.2.2.2.2.2.2);
 bif inb y1 l38.length then
 let e39:=(rd1 QO l38 y1);
 let l40:=List.set l38 (Int.toNat y1) (e39.1,e39.2.1,e39.2.2.1,e39.2.2.2.1,e39.2.2.2.2.1,e39.2.2.2.2.2.1,e39.2.2.2.2.2.2.1,e39.2.2.2.2.2.2.2.1,e39.2.2.2.2.2.2.2.2.1,e39.2.2.2.2.2.2.2.2.2.1,e39.2.2.2.2.2.2.2.2.2.2.1,e39.2.2.2.2.2.2.2.2.2.2.2.1,r36.1,e39.2.2.2.2.2.2.2.2.2.2.2.2.2);
 bif inb y1 l40.length then
 let e41:=(rd1 QO l40 y1);
 let l42:=List.set l40 (Int.toNat y1) (e41.1,e41.2.1,e41.2.2.1,e41.2.2.2.1,e41.2.2.2.2.1,e41.2.2.2.2.2.1,e41.2.2.2.2.2.2.1,e41.2.2.2.2.2.2.2.1,e41.2.2.2.2.2.2.2.2.1,e41.2.2.2.2.2.2.2.2.2.1,e41.2.2.2.2.2.2.2.2.2.2.1,e41.2.2.2.2.2.2.2.2.2.2.2.1,e41.2.2.2.2.2.2.2.2.2.2.2.2.1,(wR (r36.1+1)),e41.2.2.2.2.2.2.2.2.2.2.2.2.2.2);
 bif inb y1 l42.length then
 let e43:=(rd1 QO l42 y1);
 (zS D ((rd1 QO l42 y1).2.2.2.2.2.2.2.2.2.2.2.2.2.2.1,(wR ((wR (r36.1+1))+1)))).bind fun r44=>
 let e45:=(rd1 QO l42 y1);
 let l46:=List.set l42 (Int.toNat y1) (e45.1,e45.2.1,e45.2.2.1,e45.2.2.2.1,e45.2.2.2.2.1,e45.2.2.2.2.2.1,e45.2.2.2.2.2.2.1,e45.2.2.2.2.2.2.2.1,e45.2.2.2.2.2.2.2.2.1,e45.2.2.2.2.2.2.2.2.2.1,e45.2.2.2.2.2.2.2.2.2.2.1,e45.2.2.2.2.2.2.2.2.2.2.2.1,e45.2.2.2.2.2.2.2.2.2.2.2.2.1,e45.2.2.2.2.2.2.2.2.2.2.2.2.2.1,r44.2,e45.2.2.2.2.2.2.2.2.2.2.2.2.2.2.2);
 bif inb y1 l46.length then
 let e47:=(rd1 QO l46 y1);
 let l48:=List.set l46 (Int.toNat y1) (e47.1,e47.2.1,e47.2.2.1,e47.2.2.2.1,e47.2.2.2.2.1,e47.2.2.2.2.2.1,e47.2.2.2.2.2.2.1,e47.2.2.2.2.2.2.2.1,e47.2.2.2.2.2.2.2.2.1,e47.2.2.2.2.2.2.2.2.2.1,e47.2.2.2.2.2.2.2.2.2.2.1,e47.2.2.2.2.2.2.2.2.2.2.2.1,e47.2.2.2.2.2.2.2.2.2.2.2.2.1,e47.2.2.2.2.2.2.2.2.2.2.2.2.2.1,e47.2.2.2.2.2.2.2.2.2.2.2.2.2.2.1,r44.1,e47.2.2.2.2.2.2.2.2.2.2.2.2.2.2.2.2);
 bif inb y1 l48.length then
 let e49:=(rd1 QO l48 y1);
 let l50:=List.set l48 (Int.toNat y1) (e49.1,e49.2.1,e49.2.2.1,e49.2.2.2.1,e49.2.2.2.2.1,e49.2.2.2.2.2.1,e49.2.2.2.2.2.2.1,e49.2.2.2.2.2.2.2.1,e49.2.2.2.2.2.2.2.2.1,e49.2.2.2.2.2.2.2.2.2.1,e49.2.2.2.2.2.2.2.2.2.2.1,e49.2.2.2.2.2.2.2.2.2.2.2.1,e49.2.2.2.2.2.2.2.2.2.2.2.2.1,e49.2.2.2.2.2.2.2.2.2.2.2.2.2.1,e49.2.2.2.2.2.2.2.2.2.2.2.2.2.2.1,e49.2.2.2.2.2.2.2.2.2.2.2.2.2.2.2.1,(wR (r44.1+1)),e49.2.2.2.2.2.2.2.2.2.2.2.2.2.2.2.2.2);
 bif inb y1 l50.length then
 let e51:=(rd1 QO l50 y1);
 let l52:=List.set l50 (Int.toNat y1) (e51.1,e51.2.1,e51.2.2.1,e51.2.2.2.1,e51.2.2.2.2.1,e51.2.2.2.2.2.1,e51.2.2.2.2.2.2.1,e51.2.2.2.2.2.2.2.1,e51.2.2.2.2.2.2.2.2.1,e51.2.2.2.2.2.2.2.2.2.1,e51.2.2.2.2.2.2.2.2.2.2.1,e51.2.2.2.2.2.2.2.2.2.2.2.1,e51.2.2.2.2.2.2.2.2.2.2.2.2.1,e51.2.2.2.2.2.2.2.2.2.2.2.2.2.1,e51.2.2.2.2.2.2.2.2.2.2.2.2.2.2.1,e51.2.2.2.2.2.2.2.2.2.2.2.2.2.2.2.1,e51.2.2.2.2.2.2.2.2.2.2.2.2.2.2.2.2.1,(wR ((wR (r44.1+1))+1)),e51.2.2.2.2.2.2.2.2.2.2.2.2.2.2.2.2.2.2);
 bif inb y1 l52.length then
 let e53:=(rd1 QO l52 y1);
 (zL D ((rd1 QO l52 y1).2.2.2.2.2.2.2.2.2.2.2.2.2.2.2.2.2.2,(wR ((wR ((wR (r44.1+1))+1))+1)))).bind fun r54=>
 let e55:=(rd1 QO l52 y1);
 let l56:=List.set l52 (Int.toNat y1) (e55.1,e55.2.1,e55.2.2.1,e55.2.2.2.1,e55.2.2.2.2.1,e55.2.2.2.2.2.1,e55.2.2.2.2.2.2.1,e55.2.2.2.2.2.2.2.1,e55.2.2.2.2.2.2.2.2.1,e55.2.2.2.2.2.2.2.2.2.1,e55.2.2.2.2.2.2.2.2.2.2.1,e55.2.2.2.2.2.2.2.2.2.2.2.1,e55.2.2.2.2.2.2.2.2.2.2.2.2.1,e55.2.2.2.2.2.2.2.2.2.2.2.2.2.1,e55.2.2.2.2.2.2.2.2.2.2.2.2.2.2.1,e55.2.2.2.2.2.2.2.2.2.2.2.2.2.2.2.1,e55.2.2.2.2.2.2.2.2.2.2.2.2.2.2.2.2.1,e55.2.2.2.2.2.2.2.2.2.2.2.2.2.2.2.2.2.1,r54.2);
 Z9 L (r54.1,(wR (y1+1)),l56)else none else none else none else none else none else none else none else none else none else none else none else none else none else none else none else none else none else none else none)
 else(some (y0,y2))
theorem jX:OfL Z9 yc:=ofL 43 0
def QdI:rF zp:=fun D L (a0,a1)=>
 (Z9 L (a1,0,a0)).bind fun z57=>
 some z57
theorem QnU:OfF zp QdI:=ofF 43
def yo:rL Ye:=fun D L (y0,y1,y2)=>
 bif (decide (y1<(y2.length:Int)))then(bif inb y1 y2.length then
 let e1:=(rd1 Jg y2 y1);
 let l2:=List.set y2 (Int.toNat y1) (y0,e1.2);
 bif inb y1 l2.length then
 let e3:=(rd1 Jg l2 y1);
 (zx D ((rd1 Jg l2 y1).2.1,(wR (y0+1)))).bind fun r4=>
 let e5:=(rd1 Jg l2 y1);
 let l6:=List.set l2 (Int.toNat y1) (e5.1,r4.2,e5.2.2);
 bif decide ((3:Int)≠0)then
 bif inb y1 l6.length then
 let e7:=(rd1 Jg l6 y1);
 let l8:=List.set l6 (Int.toNat y1) (e7.1,e7.2.1,(decide ((Int.tmod r4.1 3)=0)));
 Ye L ((wR (r4.1+1)),(wR (y1+1)),l8)else none else none else none else none)
 else(some (y0,y2))
theorem QbG:OfL Ye yo:=ofL 44 0
def QeX:rF zq:=fun D L (a0,a1)=>
 (Ye L (a1,0,a0)).bind fun z9=>
 some z9
theorem QnL:OfF zq QeX:=ofF 44
def ye:rL Z2:=fun D L (y0,y1,y2)=>
 bif (decide (y1<(y2.length:Int)))then(bif inb y1 y2.length then
 let e1:=(rd1 YT y2 y1);
 let l2:=List.set y2 (Int.toNat y1) (y0,e1.2);
 bif inb y1 l2.length then
 let e3:=(rd1 YT l2 y1);
 (KM D ((rd1 YT l2 y1).2.1,(wR (y0+1)))).bind fun r4=>
 let e5:=(rd1 YT l2 y1);
 let l6:=List.set l2 (Int.toNat y1) (e5.1,r4.2,e5.2.2);
 bif inb y1 l6.length then
 let e7:=(rd1 YT l6 y1);
 (YX D ((rd1 YT l6 y1).2.2,r4.1)).bind fun r8=>
 let e9:=(rd1 YT l6 y1);
 let l10:=List.set l6 (Int.toNat y1) (e9.1,e9.2.1,r8.2);
 Z2 L (r8.1,(wR (y1+1)),l10)else none else none else none)
 else(some (y0,y2))
theorem QaL:OfL Z2 ye:=ofL 45 0
def Qd8:rF zo:=fun D L (a0,a1)=>
 (Z2 L (a1,0,a0)).bind fun z11=>
 some z11
theorem QnJ:OfF zo Qd8:=ofF 45
def yl:rL Z0:=fun D L (y0,y1,y2)=>
 bif (decide (y2<(y0.length:Int)))then(bif inb y2 y0.length then
 let e1:=(rd1 QO y0 y2);
 bif (!decide (e1.1=y1))then(some (Sum.inl (-1)))
 else(bif inb y2 y0.length then
 let e2:=(rd1 QO y0 y2);
 bif (!decide (e2.2.1=(wR (y1+1))))then(some (Sum.inl (-1)))
 else(bif inb y2 y0.length then
 let e3:=(rd1 QO y0 y2);
 (KL D (e3.2.2.1,(wR ((wR (y1+1))+1)))).bind fun r4=>
 bif (decide (r4<0))then(some (Sum.inl (-1)))
 else(bif inb y2 y0.length then
 let e5:=(rd1 QO y0 y2);
 (Y1 D (e5.2.2.2.1,r4)).bind fun r6=>
 bif (decide (r6<0))then(some (Sum.inl (-1)))
 else(bif inb y2 y0.length then
 let e7:=(rd1 QO y0 y2);
 (Ki D (e7.2.2.2.2.1,r6)).bind fun r8=>
 bif (decide (r8<0))then(some (Sum.inl (-1)))
 else(bif inb y2 y0.length then
 let e9:=(rd1 QO y0 y2);
 bif (!decide (e9.2.2.2.2.2.1=r8))then(some (Sum.inl (-1)))
 else(bif inb y2 y0.length then
 let e10:=(rd1 QO y0 y2);
 bif (!decide (e10.2.2.2.2.2.2.1=(wR (r8+1))))then(some (Sum.inl (-1)))
 else(bif inb y2 y0.length then
 let e11:=(rd1 QO y0 y2);
 bif (!decide (e11.2.2.2.2.2.2.2.1=(wR ((wR (r8+1))+1))))then(some (Sum.inl (-1)))
 else(bif inb y2 y0.length then
 let e12:=(rd1 QO y0 y2);
 (xE D (e12.2.2.2.2.2.2.2.2.1,(wR ((wR ((wR (r8+1))+1))+1)))).bind fun r13=>
 bif (decide (r13<0))then(some (Sum.inl (-1)))
 else(bif inb y2 y0.length then
 let e14:=(rd1 QO y0 y2);
 (Ki D (e14.2.2.2.2.2.2.2.2.2.1,r13)).bind fun r15=>
 bif (decide (r15<0))then(some (Sum.inl (-1)))
 else(bif inb y2 y0.length then
 let e16:=(rd1 QO y0 y2);
 (Ki D (e16.2.2.2.2.2.2.2.2.2.2.1,r15)).bind fun r17=>
 bif (decide (r17<0))then(some (Sum.inl (-1)))
 else(bif inb y2 y0.length then
 let e18:=(rd1 QO y0 y2);
 (zz D (e18.2.2.2.2.2.2.2.2.2.2.2.1,r17)).bind fun r19=>
 bif (decide (r19<0))then(some (Sum.inl (-1)))
 else(bif inb y2 y0.length then
 let e20:=(rd1 QO y0 y2);
 bif (!decide (e20.2.2.2.2.2.2.2.2.2.2.2.2.1=r19))then(some (Sum.inl (-1)))
 else(bif inb y2 y0.length then
 let e21:=(rd1 QO y0 y2);
 bif (!decide (e21.2.2.2.2.2.2.2.2.2.2.2.2.2.1=(wR (r19+1))))then(some (Sum.inl (-1)))
 else(bif inb y2 y0.length then
 let e22:=(rd1 QO y0 y2);
 (zQ D (e22.2.2.2.2.2.2.2.2.2.2.2.2.2.2.1,(wR ((wR (r19+1))+1)))).bind fun r23=>
 bif (decide (r23<0))then(some (Sum.inl (-1)))
 else(bif inb y2 y0.length then
 let e24:=(rd1 QO y0 y2);
 bif (!decide (e24.2.2.2.2.2.2.2.2.2.2.2.2.2.2.2.1=r23))then(some (Sum.inl (-1)))
 else(bif inb y2 y0.length then
 let e25:=(rd1 QO y0 y2);
 bif (!decide (e25.2.2.2.2.2.2.2.2.2.2.2.2.2.2.2.2.1=(wR (r23+1))))then(some (Sum.inl (-1)))
 else(bif inb y2 y0.length then
 let e26:=(rd1 QO y0 y2);
 bif (!decide (e26.2.2.2.2.2.2.2.2.2.2.2.2.2.2.2.2.2.1=(wR ((wR (r23+1))+1))))then(some (Sum.inl (-1)))
 else(bif inb y2 y0.length then
 let e27:=(rd1 QO y0 y2);
 (zC D (e27.2.2.2.2.2.2.2.2.2.2.2.2.2.2.2.2.2.2,(wR ((wR ((wR (r23+1))+1))+1)))).bind fun r28=>
 bif (decide (r28<0))then(some (Sum.inl (-1)))
 else(Z0 L (y0,r28,(wR (y2+1))))else none)else none)else none)else none)else none)else none)else none)else none)else none)else none)else none)else none)else none)else none)else none)else none)else none)else none)else none)
 else(some (Sum.inr y1))
theorem QaB:OfL Z0 yl:=ofL 46 0
def Qd3:rF zR:=fun D L (a0,a1)=>
 (Z0 L (a0,a1,0)).bind fun z29=>
 Qq z29 (fun u30=>
 some u30)
 (fun z31=>
 some z31)
theorem QnG:OfF zR Qd3:=ofF 46
def yg:rL Yb:=fun D L (y0,y1,y2)=>
 bif (decide (y2<(y0.length:Int)))then(bif inb y2 y0.length then
 let e1:=(rd1 Jg y0 y2);
 bif (!decide (e1.1=y1))then(some (Sum.inl (-1)))
 else(bif inb y2 y0.length then
 let e2:=(rd1 Jg y0 y2);
 (zU D (e2.2.1,(wR (y1+1)))).bind fun r3=>
 bif (decide (r3<0))then(some (Sum.inl (-1)))
 else(bif inb y2 y0.length then
 let e4:=(rd1 Jg y0 y2);
 bif decide ((3:Int)≠0)then
 bif (!(e4.2.2==(decide ((Int.tmod r3 3)=0))))then(some (Sum.inl (-1)))
 else(Yb L (y0,(wR (r3+1)),(wR (y2+1))))else none else none)else none)else none)
 else(some (Sum.inr y1))
theorem QaA:OfL Yb yg:=ofL 47 0
def Qdy:rF zP:=fun D L (a0,a1)=>
 (Yb L (a0,a1,0)).bind fun z5=>
 Qq z5 (fun u6=>
 some u6)
 (fun z7=>
 some z7)
theorem QnH:OfF zP Qdy:=ofF 47
def yz:rL Yc:=fun D L (y0,y1,y2)=>
 bif (decide (y2<(y0.length:Int)))then(bif inb y2 y0.length then
 let e1:=(rd1 YT y0 y2);
 bif (!decide (e1.1=y1))then(some (Sum.inl (-1)))
 else(bif inb y2 y0.length then
 let e2:=(rd1 YT y0 y2);
 (KL D (e2.2.1,(wR (y1+1)))).bind fun r3=>
 bif (decide (r3<0))then(some (Sum.inl (-1)))
 else(bif inb y2 y0.length then
 let e4:=(rd1 YT y0 y2);
 (Y1 D (e4.2.2,r3)).bind fun r5=>
 bif (decide (r5<0))then(some (Sum.inl (-1)))
 else(Yc L (y0,r5,(wR (y2+1))))else none)else none)else none)
 else(some (Sum.inr y1))
theorem QbO:OfL Yc yz:=ofL 48 0
def Qdw:rF zH:=fun D L (a0,a1)=>
 (Yc L (a0,a1,0)).bind fun z6=>
 Qq z6 (fun u7=>
 some u7)
 (fun z8=>
 some z8)
theorem QnF:OfF zH Qdw:=ofF 48
def Ql0:rF QjD:=fun D L (a0,a1,a2,a3,a4,a5,a6,a7,a8,a9,a10,a11,a12,a13,a14,a15,a16,a17,a18,a19)=>
 (Jv D (a0,a1,a2,a3,a4,a5,a6,a7,a8,a9,a10,a11,a12,a13,a14,a15,a16,a17,a18)).bind fun r1=>
 bif (!r1)then(some (0,0,0,0,0,[],0,[],[],[],[],[],false))
 else((vj D (a0,a1,a2,a3,a4,a5,a6,a7,a8,a9,a10,a11,a12,a13,a14,a15,a16,a17,a18,a19)).bind fun r2=>
 bif (!r2)then(some (0,0,0,0,0,[],0,[],[],[],[],[],false))
 else((Qdn D (a0,a1,a2,a3,a4,a5,a6,a7,a8,a9,a10,a11,a12,a13,a14,a15,a16,a17,a18,0,a19,0)).bind fun r3=>
 bif inb a19 a10.length then
 (Qbz D (a0,a1,a2,a3,a4,a5,a6,a7,a8,a9,a10,a11,a12,a13,a14,a15,a16,a17,a18,(rd1 (0:Int) a10 a19))).bind fun r4=>
 some (r3.1,r3.2.1,r3.2.2.1,r3.2.2.2.1,r3.2.2.2.2.1,r3.2.2.2.2.2.1,r3.2.2.2.2.2.2.1,r3.2.2.2.2.2.2.2.1,r3.2.2.2.2.2.2.2.2.1,r4.1,r4.2.1,r3.2.2.2.2.2.2.2.2.2.2.2,true)else none))
theorem Qu0:OfF QjD Ql0:=ofF 49
def QfH:rF qV:=fun D L (a0,a1,a2,a3,a4,a5,a6,a7,a8,a9,a10,a11)=>
 (Qf0 D (a0,a1,a2,a3,a4,a5,a6,a7,a8,a9,a10,a11)).bind fun r1=>
 bif (!r1)then(some [])
 else((QaZ D (a0,a1,a2,a3,a4,a5,a6,a7,a8,a9,a10,a11)).bind fun r2=>
 (QcG D r2).bind fun r3=>
 bif fits (r2.length+r3.length) 1 then
 some (r2++r3)else none)
theorem QoV:OfF qV QfH:=ofF 50
def Ql6:rF QjB:=fun D L (a0,a1,a2,a3,a4,a5,a6,a7,a8,a9,a10,a11,a12,a13,a14,a15,a16,a17,a18,a19)=>
 (Kz D (a0,a1,a2,a3,a4,a5,a6,a7,a8,a9,a10,a11,a12,a13,a14,a15,a16,a17,a18)).bind fun r1=>
 bif (!r1)then(some (0,0,0,0,0,[],0,[],[],[],[],[],false))
 else((xe D (a0,a1,a2,a3,a4,a5,a6,a7,a8,a9,a10,a11,a12,a13,a14,a15,a16,a17,a18,a19)).bind fun r2=>
 bif (!r2)then(some (0,0,0,0,0,[],0,[],[],[],[],[],false))
 else((QaP D (a0,a1,a2,a3,a4,a5,a6,a7,a8,a9,a10,a11,a12,a13,a14,a15,a16,a17,a18,0,a19,0)).bind fun r3=>
 bif inb a19 a10.length then
 (QiH D (a0,a1,a2,a3,a4,a5,a6,a7,a8,a9,a10,a11,a12,a13,a14,a15,a16,a17,a18,(rd1 (0:Int) a10 a19))).bind fun r4=>
 some (r3.1,r3.2.1,r3.2.2.1,r3.2.2.2.1,r3.2.2.2.2.1,r3.2.2.2.2.2.1,r3.2.2.2.2.2.2.1,r3.2.2.2.2.2.2.2.1,r3.2.2.2.2.2.2.2.2.1,r4.1,r4.2.1,r3.2.2.2.2.2.2.2.2.2.2.2,true)else none))
theorem QvS:OfF QjB Ql6:=ofF 51
def Qmd:rF Qjm:=fun D L (a0,a1,a2,a3,a4,a5,a6,a7,a8,a9,a10,a11,a12,a13,a14)=>
 bif (decide ((a1.length:Int)<12))then((qX D (a3,a4,a5,a6,a7,a8,a9,a10,a11,a12,a13,a14)).bind fun r1=>
 bif fits (a1.length+ [(a5,r1,false)].length) 40 then
 some (a0,(a1++[(a5,r1,false)]),a2)else none)
 else(some (a0,a1,a2))
theorem Qwi:OfF Qjm Qmd:=ofF 52
def QiS:rF QcT:=fun D L (a0,a1,a2,a3,a4,a5,a6,a7,a8,a9,a10,a11,a12,a13,a14,a15,a16,a17,a18,a19)=>
 (JU D (a2,a3,a19)).bind fun r1=>
 bif (decide (r1<0))then(some (-1))
 else((QcK D (a4,a5,r1)).bind fun r2=>
 bif (decide (r2<0))then(some (-1))
 else((Qf2 D (a6,a7,a8,r2)).bind fun r3=>
 bif (decide (r3<0))then(some (-1))
 else((JF D (a9,r3)).bind fun r4=>
 bif (decide (r4<0))then(some (-1))
 else((JF D (a10,r4)).bind fun r5=>
 bif (decide (r5<0))then(some (-1))
 else((Qaq D (a11,r5)).bind fun r6=>
 bif (decide (r6<0))then(some (-1))
 else((Qap D (a14,r6)).bind fun r7=>
 bif (decide (r7<0))then(some (-1))
 else((Qa0 D (a18,r7)).bind fun r8=>
 bif (decide (r8<0))then(some (-1))
 else(some r8))))))))
theorem Qsj:OfF QcT QiS:=ofF 64
def Qi5:rF QcY:=fun D L (a0,a1,a2,a3)=>
 (QbN D (a1,a3)).bind fun r1=>
 bif (decide (r1<0))then(some (-1))
 else(some r1)
theorem QrX:OfF QcY Qi5:=ofF 65
def Qja:rF Qdd:=fun D L (a0,a1,a2,a3)=>
 (JU D (a1,a2,a3)).bind fun r1=>
 bif (decide (r1<0))then(some (-1))
 else(some r1)
theorem QsU:OfF Qdd Qja:=ofF 66
def Ql7:rF QH:=fun D L (a0,a1,a2)=>
 bif (decide (a1<=a0))then(some (decide (a0<=a2)))
 else(some false)
theorem QuY:OfF QH Ql7:=ofF 67
def Qcn:rL JW:=fun D L (y0,y1,y2,y3,y4,y5,y6,y7,y8,y9,y10,y11,y12,y13,y14,y15,y16,y17,y18,y19)=>
 bif (decide (y0<y2))then(bif inb y0 y11.length then
 (xi D (y7,y8,y9)).bind fun r11=>
 bif (decide (r11<(rd1 (0:Int) y11 y0)))then(some (Sum.inl false))
 else(JW L ((wR (y0+1)),y1,y2,y3,y4,y5,y6,y7,y8,y9,y10,y11,y12,y13,y14,y15,y16,y17,y18,y19))else none)
 else(some (Sum.inr (y1,y2,y3,y4,y5,y6,y7,y8,y9,y10,y11,y12,y13,y14,y15,y16,y17,y18,y19)))
theorem Qfx:OfL JW Qcn:=ofL 68 0
def Qcf:rL qe:=fun D L (y0,y1,y2,y3,y4,y5,y6,y7,y8,y9,y10,y11,y12,y13,y14,y15,y16,y17,y18,y19)=>
 bif (decide (y0<5))then(bif inb y0 y19.length then
 let e20:=(rd1 Y9 y19 y0);
 (QH D (e20.1,0,1000)).bind fun r21=>
 bif (!r21)then(some (Sum.inl false))
 else((QH D (e20.2.1,0,100000)).bind fun r22=>
 bif (!r22)then(some (Sum.inl false))
 else((QH D (e20.2.2,0,y18)).bind fun r23=>
 bif (!r23)then(some (Sum.inl false))
 else(qe L ((wR (y0+1)),y1,y2,y3,y4,y5,y6,y7,y8,y9,y10,y11,y12,y13,y14,y15,y16,y17,y18,y19))))else none)
 else(some (Sum.inr (y1,y2,y3,y4,y5,y6,y7,y8,y9,y10,y11,y12,y13,y14,y15,y16,y17,y18,y19)))
theorem QfD:OfL qe Qcf:=ofL 68 2
def Qiw:rF Jv:=fun D L (a0,a1,a2,a3,a4,a5,a6,a7,a8,a9,a10,a11,a12,a13,a14,a15,a16,a17,a18)=>
 (QH D (a1,1,5)).bind fun r1=>
 bif (!r1)then(some false)
 else((QH D (a0,0,(wR (a1 - 1)))).bind fun r2=>
 bif (!r2)then(some false)
 else((Zs D (a2,a3)).bind fun r3=>
 bif (!r3)then(some false)
 else((Qc7 D (a2,a3)).bind fun r4=>
 (vd D (a4,a5,r4)).bind fun r5=>
 bif (!r5)then(some false)
 else((qE D (a6,a7,a8)).bind fun r6=>
 bif (!r6)then(some false)
 else((QbE D (a9,a1)).bind fun r7=>
 bif (!r7)then(some false)
 else((QbE D (a10,a1)).bind fun r8=>
 bif (!r8)then(some false)
 else(bif inb a0 a9.length then
 (xi D (a6,a7,a8)).bind fun r9=>
 bif (!decide ((rd1 (0:Int) a9 a0)=r9))then(some false)
 else((QbI D (a11,a1)).bind fun r10=>
 bif (!r10)then(some false)
 else((JW L (0,a0,a1,a2,a3,a4,a5,a6,a7,a8,a9,a10,a11,a12,a13,a14,a15,a16,a17,a18)).bind fun z12=>
 Qq z12 (fun u13=>
 some u13)
 (fun z14=>
 (QH D (z14.2.2.2.2.2.2.2.2.2.2.2.2.1,0,100000)).bind fun r15=>
 bif (!r15)then(some false)
 else((QH D (z14.2.2.2.2.2.2.2.2.2.2.2.2.2.2.2.2.2.1,0,100000)).bind fun r16=>
 bif (!r16)then(some false)
 else((QH D (z14.2.2.2.2.2.2.2.2.2.2.2.2.2.1,1,4)).bind fun r17=>
 bif (!r17)then(some false)
 else((QH D (z14.2.2.2.2.2.2.2.2.2.2.2.2.2.2.2.1,1,20)).bind fun r18=>
 bif (!r18)then(some false)
 else((QH D (z14.2.2.2.2.2.2.2.2.2.2.2.2.2.2.2.2.1,1,50)).bind fun r19=>
 bif (!r19)then(some false)
 else(bif (!decide ((z14.2.2.2.2.2.2.2.2.2.2.2.2.2.2.2.2.2.2.length:Int)=5))then(some false)
 else((qe L (0,z14)).bind fun z24=>
 Qq z24 (fun u25=>
 some u25)
 (fun z26=>
 (Qax D z26).bind fun r27=>
 some r27))))))))))else none)))))))
theorem QrJ:OfF Jv Qiw:=ofF 68
def vB:rL YK:=fun D L (y0,y1,y2)=>
 bif (decide (y0<(y1.length:Int)))then(bif inb y0 y1.length then
 let e1:=(rd1 XU y1 y0);
 (Yw D e1.1).bind fun r2=>
 bif (!r2)then(some (Sum.inl false))
 else(bif (decide (0<y0))then(bif inb (wR (y0 - 1)) y1.length then
 let e3:=(rd1 XU y1 (wR (y0 - 1)));
 bif (decide (e1.1<=e3.1))then(some (Sum.inl false))
 else((qb D e1.2).bind fun r4=>
 bif (!r4)then(some (Sum.inl false))
 else((YF D (y1,y2,e1.1)).bind fun r5=>
 bif (decide (e1.2.1<=r5))then(some (Sum.inl false))
 else(YK L ((wR (y0+1)),y1,y2))))else none)
 else((qb D e1.2).bind fun r6=>
 bif (!r6)then(some (Sum.inl false))
 else((YF D (y1,y2,e1.1)).bind fun r7=>
 bif (decide (e1.2.1<=r7))then(some (Sum.inl false))
 else(YK L ((wR (y0+1)),y1,y2)))))else none)
 else(some (Sum.inr (y1,y2)))
theorem QdR:OfL YK vB:=ofL 69 0
def jY:rL YY:=fun D L (y0,y1,y2)=>
 bif (decide (y0<(y2.length:Int)))then(bif inb y0 y2.length then
 let e11:=(rd1 Xy y2 y0);
 (Yw D e11.1).bind fun r12=>
 bif (!r12)then(some (Sum.inl false))
 else(bif (decide (0<y0))then(bif inb (wR (y0 - 1)) y2.length then
 let e13:=(rd1 Xy y2 (wR (y0 - 1)));
 bif (decide (e11.1<=e13.1))then(some (Sum.inl false))
 else((QH D (e11.2,1,1000)).bind fun r14=>
 bif (!r14)then(some (Sum.inl false))
 else(YY L ((wR (y0+1)),y1,y2)))else none)
 else((QH D (e11.2,1,1000)).bind fun r15=>
 bif (!r15)then(some (Sum.inl false))
 else(YY L ((wR (y0+1)),y1,y2))))else none)
 else(some (Sum.inr ()))
theorem Qep:OfL YY jY:=ofL 69 2
def Qg4:rF Zs:=fun D L (a0,a1)=>
 (YK L (0,a0,a1)).bind fun z8=>
 Qq z8 (fun u9=>
 some u9)
 (fun z10=>
 (YY L (0,z10)).bind fun z16=>
 Qq z16 (fun u17=>
 some u17)
 (fun z18=>
 some true))
theorem Qqx:OfF Zs Qg4:=ofF 69
def Qjz:rF QcG:=fun D L a0=>
 (jl D a0).bind fun r1=>
 bif decide ((16777216:Int)≠0)then
 bif decide ((65536:Int)≠0)then
 bif decide ((256:Int)≠0)then
 bif decide ((256:Int)≠0)then
 bif decide ((256:Int)≠0)then
 bif decide ((256:Int)≠0)then
 some [(IntKind.wrap .u8 (wR (Int.tdiv r1 16777216))),(IntKind.wrap .u8 (Int.tmod (wR (Int.tdiv r1 65536)) 256)),(IntKind.wrap .u8 (Int.tmod (wR (Int.tdiv r1 256)) 256)),(IntKind.wrap .u8 (Int.tmod r1 256))]else none else none else none else none else none else none
theorem Qsx:OfF QcG Qjz:=ofF 70
def yX:rL Vo:=fun D L (y0,y1,y2,y3,y4,y5,y6,y7,y8,y9,y10,y11,y12)=>
 bif (decide (y0<(y9.length:Int)))then(bif inb y0 y9.length then
 bif inb (wR (y0 - 1)) y9.length then
 bif (decide ((rd1 (0:Int) y9 y0)<=(rd1 (0:Int) y9 (wR (y0 - 1)))))then(some (Sum.inl false))
 else(Vo L ((wR (y0+1)),y1,y2,y3,y4,y5,y6,y7,y8,y9,y10,y11,y12))else none else none)
 else(some (Sum.inr ()))
theorem jB:OfL Vo yX:=ofL 74 0
def QkI:rF Qf0:=fun D L (a0,a1,a2,a3,a4,a5,a6,a7,a8,a9,a10,a11)=>
 (QH D (a0,0,5)).bind fun r1=>
 bif (!r1)then(some false)
 else((Yw D a1).bind fun r2=>
 bif (!r2)then(some false)
 else((Yw D a2).bind fun r3=>
 bif (!r3)then(some false)
 else(bif (decide (a1=a2))then(some false)
 else((QH D (a3,0,100000)).bind fun r4=>
 bif (!r4)then(some false)
 else((QH D (a4,0,100000)).bind fun r5=>
 bif (!r5)then(some false)
 else((vi D (a5,a6)).bind fun r6=>
 bif (!r6)then(some false)
 else((JS D (a7,5,100000)).bind fun r7=>
 bif (!r7)then(some false)
 else((JS D (a8,4,3)).bind fun r8=>
 bif (!r8)then(some false)
 else((Zs D (a9,a10)).bind fun r9=>
 bif (!r9)then(some false)
 else((Qad D a11).bind fun r10=>
 bif (!r10)then(some false)
 else((Vo L (1,a0,a1,a2,a3,a4,a5,a6,a7,a8,a9,a10,a11)).bind fun z11=>
 Qq z11 (fun u12=>
 some u12)
 (fun z13=>
 some true))))))))))))
theorem Qui:OfF Qf0 QkI:=ofF 74
end
end Go.Proofs.YtiejfnbmficbmaaGreat.M
