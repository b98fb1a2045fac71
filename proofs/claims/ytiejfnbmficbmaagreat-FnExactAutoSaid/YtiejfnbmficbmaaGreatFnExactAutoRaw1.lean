/- Plain forms of the functions that FnExactAuto reaches, part 1. No conditions. -/
import Derived.Test.YtiejfnbmficbmaaGreatFnExactAutoTab
set_option linter.all false
namespace Go.Proofs.YtiejfnbmficbmaaGreat.M
open Go Go.Eng Go.Proofs
set_option linter.unusedVariables false
noncomputable section
def Qpx:rF Qmy:=fun D L (a0,a1,a2,a3)=>
 (Kg D (a0,a1,a2)).bind fun r1=>
 (Qls D (a0,a1,a2,a3)).bind fun r2=>
 bif (decide (r2.1<0))then(some r1)
 else(bif inb r2.1 a0.length then
 let e3:=(rd1 Qv a0 r2.1);
 (Qfw D e3).bind fun r4=>
 bif inb r2.1 r1.1.length then
 let l5:=List.set r1.1 (Int.toNat r2.1) r4;
 (vG D ((rd1 Qv l5 r2.1).2.2.1,(rd1 Qv l5 r2.1).2.2.2.1,r2.1)).bind fun r6=>
 bif r6.2.2.2.2.2 then(bif (decide ((a2.length:Int)<40))then((Qo2 D (r4.1,r4.2.1,(rd1 Qv l5 r2.1).2.2.1,(rd1 Qv l5 r2.1).2.2.2.1,(rd1 Qv l5 r2.1).2.2.2.2.1,r4.2.2.2.2.2.1,r4.2.2.2.2.2.2.1,r4.2.2.2.2.2.2.2.1,(rd1 Qv l5 r2.1).2.2.2.2.2.2.2.2.1,(rd1 Qv l5 r2.1).2.2.2.2.2.2.2.2.2.1,(rd1 Qv l5 r2.1).2.2.2.2.2.2.2.2.2.2.1,(rd1 Qv l5 r2.1).2.2.2.2.2.2.2.2.2.2.2.1,r4.2.2.2.2.2.2.2.2.2.2.2.2.1,r4.2.2.2.2.2.2.2.2.2.2.2.2.2.1,(rd1 Qv l5 r2.1).2.2.2.2.2.2.2.2.2.2.2.2.2.2.1,r4.2.2.2.2.2.2.2.2.2.2.2.2.2.2.2.1,r4.2.2.2.2.2.2.2.2.2.2.2.2.2.2.2.2.1,r4.2.2.2.2.2.2.2.2.2.2.2.2.2.2.2.2.2.1,(rd1 Qv l5 r2.1).2.2.2.2.2.2.2.2.2.2.2.2.2.2.2.2.2.2,1,r2.1,(⟨#[]⟩:ByteArray))).bind fun r7=>
 bif (decide (r7.2.2.2.2.2.2.2.2.2.2.2.2.2.2.2.2.2.2.2.2.2=0))then(bif inb r2.1 l5.length then
 let l8:=List.set l5 (Int.toNat r2.1) (r7.1,r7.2.1,r7.2.2.1,r7.2.2.2.1,r7.2.2.2.2.1,r7.2.2.2.2.2.1,r7.2.2.2.2.2.2.1,r7.2.2.2.2.2.2.2.1,r7.2.2.2.2.2.2.2.2.1,r7.2.2.2.2.2.2.2.2.2.1,r7.2.2.2.2.2.2.2.2.2.2.1,r7.2.2.2.2.2.2.2.2.2.2.2.1,r7.2.2.2.2.2.2.2.2.2.2.2.2.1,r7.2.2.2.2.2.2.2.2.2.2.2.2.2.1,r7.2.2.2.2.2.2.2.2.2.2.2.2.2.2.1,r7.2.2.2.2.2.2.2.2.2.2.2.2.2.2.2.1,r7.2.2.2.2.2.2.2.2.2.2.2.2.2.2.2.2.1,r7.2.2.2.2.2.2.2.2.2.2.2.2.2.2.2.2.2.1,r7.2.2.2.2.2.2.2.2.2.2.2.2.2.2.2.2.2.2.1);
 bif fits (r1.2.2.length+ [(r2.1,r7.2.2.2.2.2.2.2.2.2.2.2.2.2.2.2.2.2.2.2.1,r7.2.2.2.2.2.2.2.2.2.2.2.2.2.2.2.2.2.2.2.2.1)].length) 56 then
 (Y3 D (l8,r1.2.1,(r1.2.2++[(r2.1,r7.2.2.2.2.2.2.2.2.2.2.2.2.2.2.2.2.2.2.2.1,r7.2.2.2.2.2.2.2.2.2.2.2.2.2.2.2.2.2.2.2.2.1)]),r2)).bind fun r9=>
 some (r9.1,r9.2.1,r9.2.2.1)else none else none)
 else((Y3 D (l5,r1.2.1,r1.2.2,r2)).bind fun r10=>
 some (r10.1,r10.2.1,r10.2.2.1)))
 else((Y3 D (l5,r1.2.1,r1.2.2,r2)).bind fun r11=>
 some (r11.1,r11.2.1,r11.2.2.1)))
 else((Y3 D (l5,r1.2.1,r1.2.2,r2)).bind fun r12=>
 some (r12.1,r12.2.1,r12.2.2.1))else none else none)
theorem QzX:OfF Qmy Qpx:=ofF 42
def j9:rL YY:=fun D L (y0,y1,y2)=>
 bif (decide (y1<(y2.length:Int)))then(bif inb y1 y2.length then
 let e1:=(rd1 Qv y2 y1);
 let l2:=List.set y2 (Int.toNat y1) (y0,e1.2);
 bif inb y1 l2.length then
 let e3:=(rd1 Qv l2 y1);
 let l4:=List.set l2 (Int.toNat y1) (e3.1,(wR (y0+1)),e3.2.2);
 bif inb y1 l4.length then
 let e5:=(rd1 Qv l4 y1);
 (VA D ((rd1 Qv l4 y1).2.2.1,(wR ((wR (y0+1))+1)))).bind fun r6=>
 let e7:=(rd1 Qv l4 y1);
 let l8:=List.set l4 (Int.toNat y1) (e7.1,e7.2.1,r6.2,e7.2.2.2);
 bif inb y1 l8.length then
 let e9:=(rd1 Qv l8 y1);
 (KJ D ((rd1 Qv l8 y1).2.2.2.1,r6.1)).bind fun r10=>
 let e11:=(rd1 Qv l8 y1);
 let l12:=List.set l8 (Int.toNat y1) (e11.1,e11.2.1,e11.2.2.1,r10.2,e11.2.2.2.2);
 bif inb y1 l12.length then
 let e13:=(rd1 Qv l12 y1);
 (K6 D ((rd1 Qv l12 y1).2.2.2.2.1,r10.1)).bind fun r14=>
 let e15:=(rd1 Qv l12 y1);
 let l16:=List.set l12 (Int.toNat y1) (e15.1,e15.2.1,e15.2.2.1,e15.2.2.2.1,r14.2,e15.2.2.2.2.2);
 bif inb y1 l16.length then
 let e17:=(rd1 Qv l16 y1);
 let l18:=List.set l16 (Int.toNat y1) (e17.1,e17.2.1,e17.2.2.1,e17.2.2.2.1,e17.2.2.2.2.1,r14.1,e17.2.2.2.2.2.2);
 bif inb y1 l18.length then
 let e19:=(rd1 Qv l18 y1);
 let l20:=List.set l18 (Int.toNat y1) (e19.1,e19.2.1,e19.2.2.1,e19.2.2.2.1,e19.2.2.2.2.1,e19.2.2.2.2.2.1,(wR (r14.1+1)),e19.2.2.2.2.2.2.2);
 bif inb y1 l20.length then
 let e21:=(rd1 Qv l20 y1);
 let l22:=List.set l20 (Int.toNat y1) (e21.1,e21.2.1,e21.2.2.1,e21.2.2.2.1,e21.2.2.2.2.1,e21.2.2.2.2.2.1,e21.2.2.2.2.2.2.1,(wR ((wR (r14.1+1))+1)),e21.2.2.2.2.2.2.2.2);
 bif inb y1 l22.length then
 let e23:=(rd1 Qv l22 y1);
 (yf D ((rd1 Qv l22 y1).2.2.2.2.2.2.2.2.1,(wR ((wR ((wR (r14.1+1))+1))+1)))).bind fun r24=>
 let e25:=(rd1 Qv l22 y1);
 let l26:=List.set l22 (Int.toNat y1) (e25.1,e25.2.1,e25.2.2.1,e25.2.2.2.1,e25.2.2.2.2.1,e25.2.2.2.2.2.1,e25.2.2.2.2.2.2.1,e25.2.2.2.2.2.2.2.1,r24.2,e25.2.2.2.2.2.2.2.2.2);
 bif inb y1 l26.length then
 let e27:=(rd1 Qv l26 y1);
 (K6 D ((rd1 Qv l26 y1).2.2.2.2.2.2.2.2.2.1,r24.1)).bind fun r28=>
 let e29:=(rd1 Qv l26 y1);
 let l30:=List.set l26 (Int.toNat y1) (e29.1,e29.2.1,e29.2.2.1,e29.2.2.2.1,e29.2.2.2.2.1,e29.2.2.2.2.2.1,e29.2.2.2.2.2.2.1,e29.2.2.2.2.2.2.2.1,e29.2.2.2.2.2.2.2.2.1,r28.2,e29.2.2.2.2.2.2.2.2.2.2);
 bif inb y1 l30.length then
 let e31:=(rd1 Qv l30 y1);
 (K6 D ((rd1 Qv l30 y1).2.2.2.2.2.2.2.2.2.2.1,r28.1)).bind fun r32=>
 let e33:=(rd1 Qv l30 y1);
 let l34:=List.set l30 (Int.toNat y1) (e33.1,e33.2.1,e33.2.2.1,e33.2.2.2.1,e33.2.2.2.2.1,e33.2.2.2.2.2.1,e33.2.2.2.2.2.2.1,e33.2.2.2.2.2.2.2.1,e33.2.2.2.2.2.2.2.2.1,e33.2.2.2.2.2.2.2.2.2.1,r32.2,e33.2.2.2.2.2.2.2.2.2.2.2);
 bif inb y1 l34.length then
 let e35:=(rd1 Qv l34 y1);
 (je D ((rd1 Qv l34 y1).2.2.2.2.2.2.2.2.2.2.2.1,r32.1)).bind fun r36=>
 let e37:=(rd1 Qv l34 y1);
 let l38:=List.set l34 (Int.toNat y1) (e37.1,e37.2.1,e37.2.2.1,e37.2.2.2.1,e37.2.2.2.2.1,e37.2.2.2.2.2.1,e37.2.2.2.2.2.2.1,e37.2.2.2.2.2.2.2.1,e37.2.2.2.2.2.2.2.2.1,e37.2.2.2.2.2.2.2.2.2.1,e37.2.2.2.2.2.2.2.2.2.2.1,r36.2,e37.2.2.2.2.2.2.2.2.2.2.2.2);
 bif inb y1 l38.length then
 let e39:=(rd1 Qv l38 y1);
 let l40:=List.set l38 (Int.toNat y1) (e39.1,e39.2.1,e39.2.2.1,e39.2.2.2.1,e39.2.2.2.2.1,e39.2.2.2.2.2.1,e39.2.2.2.2.2.2.1,e39.2.2.2.2.2.2.2.1,e39.2.2.2.2.2.2.2.2.1,e39.2.2.2.2.2.2.2.2.2.1,e39.2.2.2.2.2.2.2.2.2.2.1,e39.2.2.2.2.2.2.2.2.2.2.2.1,r36.1,e39.2.2.2.2.2.2.2.2.2.2.2.2.2);
 bif inb y1 l40.length then
 let e41:=(rd1 Qv l40 y1);
 let l42:=List.set l40 (Int.toNat y1) (e41.1,e41.2.1,e41.2.2.1,e41.2.2.2.1,e41.2.2.2.2.1,e41.2.2.2.2.2.1,e41.2.2.2.2.2.2.1,e41.2.2.2.2.2.2.2.1,e41.2.2.2.2.2.2.2.2.1,e41.2.2.2.2.2.2.2.2.2.1,e41.2.2.2.2.2.2.2.2.2.2.1,e41.2.2.2.2.2.2.2.2.2.2.2.1,e41.2.2.2.2.2.2.2.2.2.2.2.2.1,(wR (r36.1+1)),e41.2.2.2.2.2.2.2.2.2.2.2.2.2.2);
 bif inb y1 l42.length then
 let e43:=(rd1 Qv l42 y1);
 (jN D ((rd1 Qv l42 y1).2.2.2.2.2.2.2.2.2.2.2.2.2.2.1,(wR ((wR (r36.1+1))+1)))).bind fun r44=>
 let e45:=(rd1 Qv l42 y1);
 let l46:=List.set l42 (Int.toNat y1) (e45.1,e45.2.1,e45.2.2.1,e45.2.2.2.1,e45.2.2.2.2.1,e45.2.2.2.2.2.1,e45.2.2.2.2.2.2.1,e45.2.2.2.2.2.2.2.1,e45.2.2.2.2.2.2.2.2.1,e45.2.2.2.2.2.2.2.2.2.1,e45.2.2.2.2.2.2.2.2.2.2.1,e45.2.2.2.2.2.2.2.2.2.2.2.1,e45.2.2.2.2.2.2.2.2.2.2.2.2.1,e45.2.2.2.2.2.2.2.2.2.2.2.2.2.1,r44.2,e45.2.2.2.2.2.2.2.2.2.2.2.2.2.2.2);
 bif inb y1 l46.length then
 let e47:=(rd1 Qv l46 y1);
 let l48:=List.set l46 (Int.toNat y1) (e47.1,e47.2.1,e47.2.2.1,e47.2.2.2.1,e47.2.2.2.2.1,e47.2.2.2.2.2.1,e47.2.2.2.2.2.2.1,e47.2.2.2.2.2.2.2.1,e47.2.2.2.2.2.2.2.2.1,e47.2.2.2.2.2.2.2.2.2.1,e47.2.2.2.2.2.2.2.2.2.2.1,e47.2.2.2.2.2.2.2.2.2.2.2.1,e47.2.2.2.2.2.2.2.2.2.2.2.2.1,e47.2.2.2.2.2.2.2.2.2.2.2.2.2.1,e47.2.2.2.2.2.2.2.2.2.2.2.2.2.2.1,r44.1,e47.2.2.2.2.2.2.2.2.2.2.2.2.2.2.2.2);
 bif inb y1 l48.length then
 let e49:=(rd1 Qv l48 y1);
 let l50:=List.set l48 (Int.toNat y1) (e49.1,e49.2.1,e49.2.2.1,e49.2.2.2.1,e49.2.2.2.2.1,e49.2.2.2.2.2.1,e49.2.2.2.2.2.2.1,e49.2.2.2.2.2.2.2.1,e49.2.2.2.2.2.2.2.2.1,e49.2.2.2.2.2.2.2.2.2.1,e49.2.2.2.2.2.2.2.2.2.2.1,e49.2.2.2.2.2.2.2.2.2.2.2.1,e49.2.2.2.2.2.2.2.2.2.2.2.2.1,e49.2.2.2.2.2.2.2.2.2.2.2.2.2.1,e49.2.2.2.2.2.2.2.2.2.2.2.2.2.2.1,e49.2.2.2.2.2.2.2.2.2.2.2.2.2.2.2.1,(wR (r44.1+1)),e49.2.2.2.2.2.2.2.2.2.2.2.2.2.2.2.2.2);
 bif inb y1 l50.length then
 let e51:=(rd1 Qv l50 y1);
 let l52:=List.set l50 (Int.toNat y1) (e51.1,e51.2.1,e51.2.2.1,e51.2.2.2.1,e51.2.2.2.2.1,e51.2.2.2.2.2.1,e51.2.2.2.2.2.2.1,e51.2.2.2.2.2.2.2.1,e51.2.2.2.2.2.2.2.2.1,e51.2.2.2.2.2.2.2.2.2.1,e51.2.2.2.2.2.2.2.2.2.2.1,e51.2.2.2.2.2.2.2.2.2.2.2.1,e51.2.2.2.2.2.2.2.2.2.2.2.2.1,e51.2.2.2.2.2.2.2.2.2.2.2.2.2.1,e51.2.2.2.2.2.2.2.2.2.2.2.2.2.2.1,e51.2.2.2.2.2.2.2.2.2.2.2.2.2.2.2.1,e51.2.2.2.2.2.2.2.2.2.2.2.2.2.2.2.2.1,(wR ((wR (r44.1+1))+1)),e51.2.2.2.2.2.2.2.2.2.2.2.2.2.2.2.2.2.2);
 bif inb y1 l52.length then
 let e53:=(rd1 Qv l52 y1);
 (jM D ((rd1 Qv l52 y1).2.2.2.2.2.2.2.2.2.2.2.2.2.2.2.2.2.2,(wR ((wR ((wR (r44.1+1))+1))+1)))).bind fun r54=>
 let e55:=(rd1 Qv l52 y1);
 let l56:=List.set l52 (Int.toNat y1) (e55.1,e55.2.1,e55.2.2.1,e55.2.2.2.1,e55.2.2.2.2.1,e55.2.2.2.2.2.1,e55.2.2.2.2.2.2.1,e55.2.2.2.2.2.2.2.1,e55.2.2.2.2.2.2.2.2.1,e55.2.2.2.2.2.2.2.2.2.1,e55.2.2.2.2.2.2.2.2.2.2.1,e55.2.2.2.2.2.2.2.2.2.2.2.1,e55.2.2.2.2.2.2.2.2.2.2.2.2.1,e55.2.2.2.2.2.2.2.2.2.2.2.2.2.1,e55.2.2.2.2.2.2.2.2.2.2.2.2.2.2.1,e55.2.2.2.2.2.2.2.2.2.2.2.2.2.2.2.1,e55.2.2.2.2.2.2.2.2.2.2.2.2.2.2.2.2.1,e55.2.2.2.2.2.2.2.2.2.2.2.2.2.2.2.2.2.1,r54.2);
 YY L (r54.1,(wR (y1+1)),l56)else none else none else none else none else none else none else none else none else none else none else none else none else none else none else none else none else none else none else none)
 else(some (y0,y2))
theorem Qb3:OfL YY j9:=ofL 43 0
def QfN:rF jE:=fun D L (a0,a1)=>
 (YY L (a1,0,a0)).bind fun z57=>
 some z57
theorem Qrr:OfF jE QfN:=ofF 43
def vd:rL YR:=fun D L (y0,y1,y2)=>
 bif (decide (y1<(y2.length:Int)))then(bif inb y1 y2.length then
 let e1:=(rd1 JQ y2 y1);
 let l2:=List.set y2 (Int.toNat y1) (y0,e1.2);
 bif inb y1 l2.length then
 let e3:=(rd1 JQ l2 y1);
 (jx D ((rd1 JQ l2 y1).2.1,(wR (y0+1)))).bind fun r4=>
 let e5:=(rd1 JQ l2 y1);
 let l6:=List.set l2 (Int.toNat y1) (e5.1,r4.2,e5.2.2);
 bif decide ((3:Int)≠0)then
 bif inb y1 l6.length then
 let e7:=(rd1 JQ l6 y1);
 let l8:=List.set l6 (Int.toNat y1) (e7.1,e7.2.1,(decide ((Int.tmod r4.1 3)=0)));
 YR L ((wR (r4.1+1)),(wR (y1+1)),l8)else none else none else none else none)
 else(some (y0,y2))
theorem Qdt:OfL YR vd:=ofL 44 0
def Qf3:rF jn:=fun D L (a0,a1)=>
 (YR L (a1,0,a0)).bind fun z9=>
 some z9
theorem Qrv:OfF jn Qf3:=ofF 44
def j8:rL YS:=fun D L (y0,y1,y2)=>
 bif (decide (y1<(y2.length:Int)))then(bif inb y1 y2.length then
 let e1:=(rd1 KN y2 y1);
 let l2:=List.set y2 (Int.toNat y1) (y0,e1.2);
 bif inb y1 l2.length then
 let e3:=(rd1 KN l2 y1);
 (VA D ((rd1 KN l2 y1).2.1,(wR (y0+1)))).bind fun r4=>
 let e5:=(rd1 KN l2 y1);
 let l6:=List.set l2 (Int.toNat y1) (e5.1,r4.2,e5.2.2);
 bif inb y1 l6.length then
 let e7:=(rd1 KN l6 y1);
 (KJ D ((rd1 KN l6 y1).2.2,r4.1)).bind fun r8=>
 let e9:=(rd1 KN l6 y1);
 let l10:=List.set l6 (Int.toNat y1) (e9.1,e9.2.1,r8.2);
 YS L (r8.1,(wR (y1+1)),l10)else none else none else none)
 else(some (y0,y2))
theorem Qbo:OfL YS j8:=ofL 45 0
def Qfy:rF jz:=fun D L (a0,a1)=>
 (YS L (a1,0,a0)).bind fun z11=>
 some z11
theorem Qrp:OfF jz Qfy:=ofF 45
def vc:rL YL:=fun D L (y0,y1,y2)=>
 bif (decide (y2<(y0.length:Int)))then(bif inb y2 y0.length then
 let e1:=(rd1 Qv y0 y2);
 bif (!decide (e1.1=y1))then(some (Sum.inl (-1)))
 else(bif inb y2 y0.length then
 let e2:=(rd1 Qv y0 y2);
 bif (!decide (e2.2.1=(wR (y1+1))))then(some (Sum.inl (-1)))
 else(bif inb y2 y0.length then
 let e3:=(rd1 Qv y0 y2);
 (VF D (e3.2.2.1,(wR ((wR (y1+1))+1)))).bind fun r4=>
 bif (decide (r4<0))then(some (Sum.inl (-1)))
 else(bif inb y2 y0.length then
 let e5:=(rd1 Qv y0 y2);
 (KM D (e5.2.2.2.1,r4)).bind fun r6=>
 bif (decide (r6<0))then(some (Sum.inl (-1)))
 else(bif inb y2 y0.length then
 let e7:=(rd1 Qv y0 y2);
 (Va D (e7.2.2.2.2.1,r6)).bind fun r8=>
 bif (decide (r8<0))then(some (Sum.inl (-1)))
 else(bif inb y2 y0.length then
 let e9:=(rd1 Qv y0 y2);
 bif (!decide (e9.2.2.2.2.2.1=r8))then(some (Sum.inl (-1)))
 else(bif inb y2 y0.length then
 let e10:=(rd1 Qv y0 y2);
 bif (!decide (e10.2.2.2.2.2.2.1=(wR (r8+1))))then(some (Sum.inl (-1)))
 else(bif inb y2 y0.length then
 let e11:=(rd1 Qv y0 y2);
 bif (!decide (e11.2.2.2.2.2.2.2.1=(wR ((wR (r8+1))+1))))then(some (Sum.inl (-1)))
 else(bif inb y2 y0.length then
 let e12:=(rd1 Qv y0 y2);
 (ya D (e12.2.2.2.2.2.2.2.2.1,(wR ((wR ((wR (r8+1))+1))+1)))).bind fun r13=>
 bif (decide (r13<0))then(some (Sum.inl (-1)))
 else(bif inb y2 y0.length then
 let e14:=(rd1 Qv y0 y2);
 (Va D (e14.2.2.2.2.2.2.2.2.2.1,r13)).bind fun r15=>
 bif (decide (r15<0))then(some (Sum.inl (-1)))
 else(bif inb y2 y0.length then
 let e16:=(rd1 Qv y0 y2);
 (Va D (e16.2.2.2.2.2.2.2.2.2.2.1,r15)).bind fun r17=>
 bif (decide (r17<0))then(some (Sum.inl (-1)))
 else(bif inb y2 y0.length then
 let e18:=(rd1 Qv y0 y2);
 (jO D (e18.2.2.2.2.2.2.2.2.2.2.2.1,r17)).bind fun r19=>
 bif (decide (r19<0))then(some (Sum.inl (-1)))
 else(bif inb y2 y0.length then
 let e20:=(rd1 Qv y0 y2);
 bif (!decide (e20.2.2.2.2.2.2.2.2.2.2.2.2.1=r19))then(some (Sum.inl (-1)))
 else(bif inb y2 y0.length then
 let e21:=(rd1 Qv y0 y2);
 bif (!decide (e21.2.2.2.2.2.2.2.2.2.2.2.2.2.1=(wR (r19+1))))then(some (Sum.inl (-1)))
 else(bif inb y2 y0.length then
 let e22:=(rd1 Qv y0 y2);
 (jI D (e22.2.2.2.2.2.2.2.2.2.2.2.2.2.2.1,(wR ((wR (r19+1))+1)))).bind fun r23=>
 bif (decide (r23<0))then(some (Sum.inl (-1)))
 else(bif inb y2 y0.length then
 let e24:=(rd1 Qv y0 y2);
 bif (!decide (e24.2.2.2.2.2.2.2.2.2.2.2.2.2.2.2.1=r23))then(some (Sum.inl (-1)))
 else(bif inb y2 y0.length then
 let e25:=(rd1 Qv y0 y2);
 bif (!decide (e25.2.2.2.2.2.2.2.2.2.2.2.2.2.2.2.2.1=(wR (r23+1))))then(some (Sum.inl (-1)))
 else(bif inb y2 y0.length then
 let e26:=(rd1 Qv y0 y2);
 bif (!decide (e26.2.2.2.2.2.2.2.2.2.2.2.2.2.2.2.2.2.1=(wR ((wR (r23+1))+1))))then(some (Sum.inl (-1)))
 else(bif inb y2 y0.length then
 let e27:=(rd1 Qv y0 y2);
 (jH D (e27.2.2.2.2.2.2.2.2.2.2.2.2.2.2.2.2.2.2,(wR ((wR ((wR (r23+1))+1))+1)))).bind fun r28=>
 bif (decide (r28<0))then(some (Sum.inl (-1)))
 else(YL L (y0,r28,(wR (y2+1))))else none)else none)else none)else none)else none)else none)else none)else none)else none)else none)else none)else none)else none)else none)else none)else none)else none)else none)else none)
 else(some (Sum.inr y1))
theorem Qci:OfL YL vc:=ofL 46 0
def QgS:rF jD:=fun D L (a0,a1)=>
 (YL L (a0,a1,0)).bind fun z29=>
 Qp z29 (fun u30=>
 some u30)
 (fun z31=>
 some z31)
theorem Qrs:OfF jD QgS:=ofF 46
def ve:rL YN:=fun D L (y0,y1,y2)=>
 bif (decide (y2<(y0.length:Int)))then(bif inb y2 y0.length then
 let e1:=(rd1 JQ y0 y2);
 bif (!decide (e1.1=y1))then(some (Sum.inl (-1)))
 else(bif inb y2 y0.length then
 let e2:=(rd1 JQ y0 y2);
 (jA D (e2.2.1,(wR (y1+1)))).bind fun r3=>
 bif (decide (r3<0))then(some (Sum.inl (-1)))
 else(bif inb y2 y0.length then
 let e4:=(rd1 JQ y0 y2);
 bif decide ((3:Int)≠0)then
 bif (!(e4.2.2==(decide ((Int.tmod r3 3)=0))))then(some (Sum.inl (-1)))
 else(YN L (y0,(wR (r3+1)),(wR (y2+1))))else none else none)else none)else none)
 else(some (Sum.inr y1))
theorem QbK:OfL YN ve:=ofL 47 0
def Qge:rF jv:=fun D L (a0,a1)=>
 (YN L (a0,a1,0)).bind fun z5=>
 Qp z5 (fun u6=>
 some u6)
 (fun z7=>
 some z7)
theorem Qry:OfF jv Qge:=ofF 47
def vp:rL YV:=fun D L (y0,y1,y2)=>
 bif (decide (y2<(y0.length:Int)))then(bif inb y2 y0.length then
 let e1:=(rd1 KN y0 y2);
 bif (!decide (e1.1=y1))then(some (Sum.inl (-1)))
 else(bif inb y2 y0.length then
 let e2:=(rd1 KN y0 y2);
 (VF D (e2.2.1,(wR (y1+1)))).bind fun r3=>
 bif (decide (r3<0))then(some (Sum.inl (-1)))
 else(bif inb y2 y0.length then
 let e4:=(rd1 KN y0 y2);
 (KM D (e4.2.2,r3)).bind fun r5=>
 bif (decide (r5<0))then(some (Sum.inl (-1)))
 else(YV L (y0,r5,(wR (y2+1))))else none)else none)else none)
 else(some (Sum.inr y1))
theorem Qbp:OfL YV vp:=ofL 48 0
def QgC:rF jF:=fun D L (a0,a1)=>
 (YV L (a0,a1,0)).bind fun z6=>
 Qp z6 (fun u7=>
 some u7)
 (fun z8=>
 some z8)
theorem Qrk:OfF jF QgC:=ofF 48
def QhN:rF Y2:=fun D L (a0,a1,a2,a3,a4)=>
 (Qe1 D (a0,a1,a2,a3,a4)).bind fun r1=>
 bif (!r1)then((VQ D (a0,a1,a2)).bind fun r2=>
 some (r2.1,r2.2.1,r2.2.2,false))
 else((VQ D (a0,a1,a2)).bind fun r3=>
 bif inb a3 a0.length then
 let e4:=(rd1 Qv a0 a3);
 (QiX D (e4.1,e4.2.1,e4.2.2.1,e4.2.2.2.1,e4.2.2.2.2.1,e4.2.2.2.2.2.1,e4.2.2.2.2.2.2.1,e4.2.2.2.2.2.2.2.1,e4.2.2.2.2.2.2.2.2.1,e4.2.2.2.2.2.2.2.2.2.1,e4.2.2.2.2.2.2.2.2.2.2.1,e4.2.2.2.2.2.2.2.2.2.2.2.1,e4.2.2.2.2.2.2.2.2.2.2.2.2.1,e4.2.2.2.2.2.2.2.2.2.2.2.2.2.1,e4.2.2.2.2.2.2.2.2.2.2.2.2.2.2.1,e4.2.2.2.2.2.2.2.2.2.2.2.2.2.2.2.1,e4.2.2.2.2.2.2.2.2.2.2.2.2.2.2.2.2.1,e4.2.2.2.2.2.2.2.2.2.2.2.2.2.2.2.2.2.1,e4.2.2.2.2.2.2.2.2.2.2.2.2.2.2.2.2.2.2,a4)).bind fun r5=>
 bif (!r5.2.2.2.2.2.2.2.2.2.2.2.2.2.2.2.2.2.2.2.2.2.2.2.2.2.2.2.2.2.2.2)then(some (r3.1,r3.2.1,r3.2.2,false))
 else(bif inb a4 a0.length then
 let e6:=(rd1 Qv a0 a4);
 (Yw D (e6.1,e6.2.1,e6.2.2.1,e6.2.2.2.1,e6.2.2.2.2.1,e6.2.2.2.2.2.1,e6.2.2.2.2.2.2.1,e6.2.2.2.2.2.2.2.1,e6.2.2.2.2.2.2.2.2.1,e6.2.2.2.2.2.2.2.2.2.1,e6.2.2.2.2.2.2.2.2.2.2.1,e6.2.2.2.2.2.2.2.2.2.2.2.1,e6.2.2.2.2.2.2.2.2.2.2.2.2.1,e6.2.2.2.2.2.2.2.2.2.2.2.2.2.1,e6.2.2.2.2.2.2.2.2.2.2.2.2.2.2.1,e6.2.2.2.2.2.2.2.2.2.2.2.2.2.2.2.1,e6.2.2.2.2.2.2.2.2.2.2.2.2.2.2.2.2.1,e6.2.2.2.2.2.2.2.2.2.2.2.2.2.2.2.2.2.1,e6.2.2.2.2.2.2.2.2.2.2.2.2.2.2.2.2.2.2,r5.2.2.2.2.2.2.2.2.2.2.2.2.2.2.2.2.2.2.2.1,r5.2.2.2.2.2.2.2.2.2.2.2.2.2.2.2.2.2.2.2.2.1,r5.2.2.2.2.2.2.2.2.2.2.2.2.2.2.2.2.2.2.2.2.2.1,r5.2.2.2.2.2.2.2.2.2.2.2.2.2.2.2.2.2.2.2.2.2.2.1,r5.2.2.2.2.2.2.2.2.2.2.2.2.2.2.2.2.2.2.2.2.2.2.2.1,r5.2.2.2.2.2.2.2.2.2.2.2.2.2.2.2.2.2.2.2.2.2.2.2.2.1,r5.2.2.2.2.2.2.2.2.2.2.2.2.2.2.2.2.2.2.2.2.2.2.2.2.2.1,r5.2.2.2.2.2.2.2.2.2.2.2.2.2.2.2.2.2.2.2.2.2.2.2.2.2.2.1,r5.2.2.2.2.2.2.2.2.2.2.2.2.2.2.2.2.2.2.2.2.2.2.2.2.2.2.2.1,r5.2.2.2.2.2.2.2.2.2.2.2.2.2.2.2.2.2.2.2.2.2.2.2.2.2.2.2.2.1,r5.2.2.2.2.2.2.2.2.2.2.2.2.2.2.2.2.2.2.2.2.2.2.2.2.2.2.2.2.2.1,r5.2.2.2.2.2.2.2.2.2.2.2.2.2.2.2.2.2.2.2.2.2.2.2.2.2.2.2.2.2.2.1)).bind fun r7=>
 bif (!decide (r7.2.2.2.2.2.2.2.2.2.2.2.2.2.2.2.2.2.2.2.2=0))then(some (r3.1,r3.2.1,r3.2.2,false))
 else(bif (decide ((r7.2.2.2.2.2.2.2.2.2.2.2.2.2.2.2.2.2.2.2.1.length:Int)=0))then(some (r3.1,r3.2.1,r3.2.2,false))
 else(bif inb 0 r7.2.2.2.2.2.2.2.2.2.2.2.2.2.2.2.2.2.2.2.1.length then
 let e8:=(rd1 QL r7.2.2.2.2.2.2.2.2.2.2.2.2.2.2.2.2.2.2.2.1 0);
 (Yw D (r5.1,r5.2.1,r5.2.2.1,r5.2.2.2.1,r5.2.2.2.2.1,r5.2.2.2.2.2.1,r5.2.2.2.2.2.2.1,r5.2.2.2.2.2.2.2.1,r5.2.2.2.2.2.2.2.2.1,r5.2.2.2.2.2.2.2.2.2.1,r5.2.2.2.2.2.2.2.2.2.2.1,r5.2.2.2.2.2.2.2.2.2.2.2.1,r5.2.2.2.2.2.2.2.2.2.2.2.2.1,r5.2.2.2.2.2.2.2.2.2.2.2.2.2.1,r5.2.2.2.2.2.2.2.2.2.2.2.2.2.2.1,r5.2.2.2.2.2.2.2.2.2.2.2.2.2.2.2.1,r5.2.2.2.2.2.2.2.2.2.2.2.2.2.2.2.2.1,r5.2.2.2.2.2.2.2.2.2.2.2.2.2.2.2.2.2.1,r5.2.2.2.2.2.2.2.2.2.2.2.2.2.2.2.2.2.2.1,e8.1,e8.2.1,e8.2.2.1,e8.2.2.2.1,e8.2.2.2.2.1,(rd1 QL r7.2.2.2.2.2.2.2.2.2.2.2.2.2.2.2.2.2.2.2.1 0).2.2.2.2.2.1,e8.2.2.2.2.2.2.1,(rd1 QL r7.2.2.2.2.2.2.2.2.2.2.2.2.2.2.2.2.2.2.2.1 0).2.2.2.2.2.2.2)).bind fun r9=>
 bif (!decide (r9.2.2.2.2.2.2.2.2.2.2.2.2.2.2.2.2.2.2.2.2=0))then(some (r3.1,r3.2.1,r3.2.2,false))
 else(bif (decide ((r9.2.2.2.2.2.2.2.2.2.2.2.2.2.2.2.2.2.2.2.1.length:Int)=0))then(some (r3.1,r3.2.1,r3.2.2,false))
 else(bif inb 0 r9.2.2.2.2.2.2.2.2.2.2.2.2.2.2.2.2.2.2.2.1.length then
 let e10:=(rd1 QL r9.2.2.2.2.2.2.2.2.2.2.2.2.2.2.2.2.2.2.2.1 0);
 (Yw D (r7.1,r7.2.1,r7.2.2.1,r7.2.2.2.1,r7.2.2.2.2.1,r7.2.2.2.2.2.1,r7.2.2.2.2.2.2.1,r7.2.2.2.2.2.2.2.1,r7.2.2.2.2.2.2.2.2.1,r7.2.2.2.2.2.2.2.2.2.1,r7.2.2.2.2.2.2.2.2.2.2.1,r7.2.2.2.2.2.2.2.2.2.2.2.1,r7.2.2.2.2.2.2.2.2.2.2.2.2.1,r7.2.2.2.2.2.2.2.2.2.2.2.2.2.1,r7.2.2.2.2.2.2.2.2.2.2.2.2.2.2.1,r7.2.2.2.2.2.2.2.2.2.2.2.2.2.2.2.1,r7.2.2.2.2.2.2.2.2.2.2.2.2.2.2.2.2.1,r7.2.2.2.2.2.2.2.2.2.2.2.2.2.2.2.2.2.1,r7.2.2.2.2.2.2.2.2.2.2.2.2.2.2.2.2.2.2.1,e10.1,e10.2.1,e10.2.2.1,e10.2.2.2.1,e10.2.2.2.2.1,(rd1 QL r9.2.2.2.2.2.2.2.2.2.2.2.2.2.2.2.2.2.2.2.1 0).2.2.2.2.2.1,e10.2.2.2.2.2.2.1,(rd1 QL r9.2.2.2.2.2.2.2.2.2.2.2.2.2.2.2.2.2.2.2.1 0).2.2.2.2.2.2.2)).bind fun r11=>
 bif (!decide (r11.2.2.2.2.2.2.2.2.2.2.2.2.2.2.2.2.2.2.2.2=0))then(some (r3.1,r3.2.1,r3.2.2,false))
 else(bif inb a3 r3.1.length then
 let l12:=List.set r3.1 (Int.toNat a3) (r9.1,r9.2.1,r9.2.2.1,r9.2.2.2.1,r9.2.2.2.2.1,r9.2.2.2.2.2.1,r9.2.2.2.2.2.2.1,r9.2.2.2.2.2.2.2.1,r9.2.2.2.2.2.2.2.2.1,r9.2.2.2.2.2.2.2.2.2.1,r9.2.2.2.2.2.2.2.2.2.2.1,r9.2.2.2.2.2.2.2.2.2.2.2.1,r9.2.2.2.2.2.2.2.2.2.2.2.2.1,r9.2.2.2.2.2.2.2.2.2.2.2.2.2.1,r9.2.2.2.2.2.2.2.2.2.2.2.2.2.2.1,r9.2.2.2.2.2.2.2.2.2.2.2.2.2.2.2.1,r9.2.2.2.2.2.2.2.2.2.2.2.2.2.2.2.2.1,r9.2.2.2.2.2.2.2.2.2.2.2.2.2.2.2.2.2.1,r9.2.2.2.2.2.2.2.2.2.2.2.2.2.2.2.2.2.2.1);
 bif inb a4 l12.length then
 let l13:=List.set l12 (Int.toNat a4) (r11.1,r11.2.1,r11.2.2.1,r11.2.2.2.1,r11.2.2.2.2.1,r11.2.2.2.2.2.1,r11.2.2.2.2.2.2.1,r11.2.2.2.2.2.2.2.1,r11.2.2.2.2.2.2.2.2.1,r11.2.2.2.2.2.2.2.2.2.1,r11.2.2.2.2.2.2.2.2.2.2.1,r11.2.2.2.2.2.2.2.2.2.2.2.1,r11.2.2.2.2.2.2.2.2.2.2.2.2.1,r11.2.2.2.2.2.2.2.2.2.2.2.2.2.1,r11.2.2.2.2.2.2.2.2.2.2.2.2.2.2.1,r11.2.2.2.2.2.2.2.2.2.2.2.2.2.2.2.1,r11.2.2.2.2.2.2.2.2.2.2.2.2.2.2.2.2.1,r11.2.2.2.2.2.2.2.2.2.2.2.2.2.2.2.2.2.1,r11.2.2.2.2.2.2.2.2.2.2.2.2.2.2.2.2.2.2.1);
 some (l13,r3.2.1,r3.2.2,true)else none else none)else none))else none))else none)else none)
theorem Qs4:OfF Y2 QhN:=ofF 55
def Qmn:rF QeW:=fun D L (a0,a1,a2,a3,a4,a5,a6,a7,a8,a9,a10,a11,a12,a13,a14,a15,a16,a17,a18,a19)=>
 (xB D (a2,a3,a19)).bind fun r1=>
 bif (decide (r1<0))then(some (-1))
 else((QeM D (a4,a5,r1)).bind fun r2=>
 bif (decide (r2<0))then(some (-1))
 else((Qil D (a6,a7,a8,r2)).bind fun r3=>
 bif (decide (r3<0))then(some (-1))
 else((qC D (a9,r3)).bind fun r4=>
 bif (decide (r4<0))then(some (-1))
 else((qC D (a10,r4)).bind fun r5=>
 bif (decide (r5<0))then(some (-1))
 else((QbA D (a11,r5)).bind fun r6=>
 bif (decide (r6<0))then(some (-1))
 else((Qc2 D (a14,r6)).bind fun r7=>
 bif (decide (r7<0))then(some (-1))
 else((Qca D (a18,r7)).bind fun r8=>
 bif (decide (r8<0))then(some (-1))
 else(some r8))))))))
theorem Qwb:OfF QeW Qmn:=ofF 64
def Qmr:rF QeD:=fun D L (a0,a1,a2,a3)=>
 (Qdf D (a1,a3)).bind fun r1=>
 bif (decide (r1<0))then(some (-1))
 else(some r1)
theorem QvQ:OfF QeD Qmr:=ofF 65
def QlC:rF Qex:=fun D L (a0,a1,a2,a3)=>
 (xB D (a1,a2,a3)).bind fun r1=>
 bif (decide (r1<0))then(some (-1))
 else(some r1)
theorem Qv6:OfF Qex QlC:=ofF 66
def Qpw:rF QF:=fun D L (a0,a1,a2)=>
 bif (decide (a1<=a0))then(some (decide (a0<=a2)))
 else(some false)
theorem QAV:OfF QF Qpw:=ofF 67
def QdW:rL xa:=fun D L (y0,y1,y2,y3,y4,y5,y6,y7,y8,y9,y10,y11,y12,y13,y14,y15,y16,y17,y18,y19)=>
 bif (decide (y0<y2))then(bif inb y0 y11.length then
 (qx D (y7,y8,y9)).bind fun r11=>
 bif (decide (r11<(rd1 (0:Int) y11 y0)))then(some (Sum.inl false))
 else(xa L ((wR (y0+1)),y1,y2,y3,y4,y5,y6,y7,y8,y9,y10,y11,y12,y13,y14,y15,y16,y17,y18,y19))else none)
 else(some (Sum.inr (y1,y2,y3,y4,y5,y6,y7,y8,y9,y10,y11,y12,y13,y14,y15,y16,y17,y18,y19)))
theorem Qhf:OfL xa QdW:=ofL 68 0
def Qeu:rL xO:=fun D L (y0,y1,y2,y3,y4,y5,y6,y7,y8,y9,y10,y11,y12,y13,y14,y15,y16,y17,y18,y19)=>
 bif (decide (y0<5))then(bif inb y0 y19.length then
 let e20:=(rd1 Zq y19 y0);
 (QF D (e20.1,0,1000)).bind fun r21=>
 bif (!r21)then(some (Sum.inl false))
 else((QF D (e20.2.1,0,100000)).bind fun r22=>
 bif (!r22)then(some (Sum.inl false))
 else((QF D (e20.2.2,0,y18)).bind fun r23=>
 bif (!r23)then(some (Sum.inl false))
 else(xO L ((wR (y0+1)),y1,y2,y3,y4,y5,y6,y7,y8,y9,y10,y11,y12,y13,y14,y15,y16,y17,y18,y19))))else none)
 else(some (Sum.inr (y1,y2,y3,y4,y5,y6,y7,y8,y9,y10,y11,y12,y13,y14,y15,y16,y17,y18,y19)))
theorem QhI:OfL xO Qeu:=ofL 68 2
def Qlf:rF Ys:=fun D L (a0,a1,a2,a3,a4,a5,a6,a7,a8,a9,a10,a11,a12,a13,a14,a15,a16,a17,a18)=>
 (QF D (a1,1,5)).bind fun r1=>
 bif (!r1)then(some false)
 else((QF D (a0,0,(wR (a1 - 1)))).bind fun r2=>
 bif (!r2)then(some false)
 else((XA D (a2,a3)).bind fun r3=>
 bif (!r3)then(some false)
 else((zJ D (a2,a3)).bind fun r4=>
 (QcP D (a4,a5,r4)).bind fun r5=>
 bif (!r5)then(some false)
 else((Vr D (a6,a7,a8)).bind fun r6=>
 bif (!r6)then(some false)
 else((Qb7 D (a9,a1)).bind fun r7=>
 bif (!r7)then(some false)
 else((Qb7 D (a10,a1)).bind fun r8=>
 bif (!r8)then(some false)
 else(bif inb a0 a9.length then
 (qx D (a6,a7,a8)).bind fun r9=>
 bif (!decide ((rd1 (0:Int) a9 a0)=r9))then(some false)
 else((QbV D (a11,a1)).bind fun r10=>
 bif (!r10)then(some false)
 else((xa L (0,a0,a1,a2,a3,a4,a5,a6,a7,a8,a9,a10,a11,a12,a13,a14,a15,a16,a17,a18)).bind fun z12=>
 Qp z12 (fun u13=>
 some u13)
 (fun z14=>
 (QF D (z14.2.2.2.2.2.2.2.2.2.2.2.2.1,0,100000)).bind fun r15=>
 bif (!r15)then(some false)
 else((QF D (z14.2.2.2.2.2.2.2.2.2.2.2.2.2.2.2.2.2.1,0,100000)).bind fun r16=>
 bif (!r16)then(some false)
 else((QF D (z14.2.2.2.2.2.2.2.2.2.2.2.2.2.1,1,4)).bind fun r17=>
 bif (!r17)then(some false)
 else((QF D (z14.2.2.2.2.2.2.2.2.2.2.2.2.2.2.2.1,1,20)).bind fun r18=>
 bif (!r18)then(some false)
 else((QF D (z14.2.2.2.2.2.2.2.2.2.2.2.2.2.2.2.2.1,1,50)).bind fun r19=>
 bif (!r19)then(some false)
 else(bif (!decide ((z14.2.2.2.2.2.2.2.2.2.2.2.2.2.2.2.2.2.2.length:Int)=5))then(some false)
 else((xO L (0,z14)).bind fun z24=>
 Qp z24 (fun u25=>
 some u25)
 (fun z26=>
 (QbB D z26).bind fun r27=>
 some r27))))))))))else none)))))))
theorem Qw2:OfF Ys Qlf:=ofF 68
end
end Go.Proofs.YtiejfnbmficbmaaGreat.M
