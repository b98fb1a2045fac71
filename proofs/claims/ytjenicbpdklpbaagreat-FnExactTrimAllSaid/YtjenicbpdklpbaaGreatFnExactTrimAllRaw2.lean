/- Plain forms of the functions that FnExactTrimAll reaches, part 2. No conditions. -/
import Derived.Test.YtjenicbpdklpbaaGreatFnExactTrimAllTab
set_option linter.all false
namespace Go.Proofs.YtjenicbpdklpbaaGreat.M
open Go Go.Eng Go.Proofs
set_option linter.unusedVariables false
noncomputable section
def laws_heldSessS_l0:rL laws_heldSessS_k0:=fun D L (y0,y1,y2)=>
 bif (decide (y2<(y0.length:Int)))then(bif inb y2 y0.length then
 let e1:=(rd1 zSess y0 y2);
 bif (!decide (e1.1=y1))then(some (Sum.inl (-1)))
 else(bif inb y2 y0.length then
 let e2:=(rd1 zSess y0 y2);
 bif (!decide (e2.2.1=(IntKind.wrap .i64 (y1+1))))then(some (Sum.inl (-1)))
 else(bif inb y2 y0.length then
 let e3:=(rd1 zSess y0 y2);
 bif decide ((3:Int)≠0)then
 bif (!(e3.2.2.1==(decide ((Int.tmod (IntKind.wrap .i64 ((IntKind.wrap .i64 (y1+1))+1)) 3)=0))))then(some (Sum.inl (-1)))
 else(bif inb y2 y0.length then
 let e4:=(rd1 zSess y0 y2);
 bif (!decide (e4.2.2.2=(IntKind.wrap .i64 ((IntKind.wrap .i64 ((IntKind.wrap .i64 (y1+1))+1))+1))))then(some (Sum.inl (-1)))
 else(laws_heldSessS_k0 L (y0,(IntKind.wrap .i64 ((IntKind.wrap .i64 ((IntKind.wrap .i64 ((IntKind.wrap .i64 (y1+1))+1))+1))+1)),(IntKind.wrap .i64 (y2+1))))else none)else none else none)else none)else none)
 else(some (Sum.inr y1))
theorem laws_heldSessS_l0_of:OfL laws_heldSessS_k0 laws_heldSessS_l0:=ofL 108 0
def laws_heldSessS_raw:rF laws_heldSessS:=fun D L (a0,a1)=>
 (laws_heldSessS_k0 L (a0,a1,0)).bind fun z5=>
 elimS z5 (fun u6=>
 some u6)
 (fun z7=>
 some z7)
theorem laws_heldSessS_of:OfF laws_heldSessS laws_heldSessS_raw:=ofF 108
def laws_heldRiseS_l0:rL laws_heldRiseS_k0:=fun D L (y0,y1,y2)=>
 bif (decide (y2<(y0.length:Int)))then(bif inb y2 y0.length then
 let e1:=(rd1 zRise y0 y2);
 bif (!decide (e1.1=y1))then(some (Sum.inl (-1)))
 else(bif inb y2 y0.length then
 let e2:=(rd1 zRise y0 y2);
 bif (!decide (e2.2.1=(IntKind.wrap .i64 (y1+1))))then(some (Sum.inl (-1)))
 else(bif inb y2 y0.length then
 let e3:=(rd1 zRise y0 y2);
 bif (!decide (e3.2.2=(IntKind.wrap .i64 ((IntKind.wrap .i64 (y1+1))+1))))then(some (Sum.inl (-1)))
 else(laws_heldRiseS_k0 L (y0,(IntKind.wrap .i64 ((IntKind.wrap .i64 ((IntKind.wrap .i64 (y1+1))+1))+1)),(IntKind.wrap .i64 (y2+1))))else none)else none)else none)
 else(some (Sum.inr y1))
theorem laws_heldRiseS_l0_of:OfL laws_heldRiseS_k0 laws_heldRiseS_l0:=ofL 109 0
def laws_heldRiseS_raw:rF laws_heldRiseS:=fun D L (a0,a1)=>
 (laws_heldRiseS_k0 L (a0,a1,0)).bind fun z4=>
 elimS z4 (fun u5=>
 some u5)
 (fun z6=>
 some z6)
theorem laws_heldRiseS_of:OfF laws_heldRiseS laws_heldRiseS_raw:=ofF 109
def spec_l1In_raw:rF spec_l1In:=fun D L (a0,a1,a2)=>
 bif (decide (a1≤a0))then(some (decide (a0≤a2)))
 else(some false)
theorem spec_l1In_of:OfF spec_l1In spec_l1In_raw:=ofF 110
def laws_eqItem_raw:rF laws_eqItem:=fun D L (a0,a1,a2,a3,a4,a5,a6,a7,a8,a9,a10,a11)=>
 bif (!decide (a0=a6))then(some false)
 else((laws_eqEntry D (a1,a2,a3,a4,a5,a7,a8,a9,a10,a11)).bind fun r1=>
 bif (!r1)then(some false)
 else(some true))
theorem laws_eqItem_of:OfF laws_eqItem laws_eqItem_raw:=ofF 113
def laws_markNodeS_l0:rL laws_markNodeS_k0:=fun D L (y0,y1,y2)=>
 bif (decide (y1<(y2.length:Int)))then(bif inb y1 y2.length then
 let e1:=(rd1 zNode y2 y1);
 let l2:=List.set y2 (Int.toNat y1) (y0,e1.2);
 bif inb y1 l2.length then
 let e3:=(rd1 zNode l2 y1);
 let l4:=List.set l2 (Int.toNat y1) (e3.1,(IntKind.wrap .i64 (y0+1)),e3.2.2);
 bif inb y1 l4.length then
 let e5:=(rd1 zNode l4 y1);
 (laws_markItemS D ((rd1 zNode l4 y1).2.2.1,(IntKind.wrap .i64 ((IntKind.wrap .i64 (y0+1))+1)))).bind fun r6=>
 let e7:=(rd1 zNode l4 y1);
 let l8:=List.set l4 (Int.toNat y1) (e7.1,e7.2.1,r6.2,e7.2.2.2);
 bif inb y1 l8.length then
 let e9:=(rd1 zNode l8 y1);
 (laws_markFloorS D ((rd1 zNode l8 y1).2.2.2.1,r6.1)).bind fun r10=>
 let e11:=(rd1 zNode l8 y1);
 let l12:=List.set l8 (Int.toNat y1) (e11.1,e11.2.1,e11.2.2.1,r10.2,e11.2.2.2.2);
 bif inb y1 l12.length then
 let e13:=(rd1 zNode l12 y1);
 (laws_markIntS D ((rd1 zNode l12 y1).2.2.2.2.1,r10.1)).bind fun r14=>
 let e15:=(rd1 zNode l12 y1);
 let l16:=List.set l12 (Int.toNat y1) (e15.1,e15.2.1,e15.2.2.1,e15.2.2.2.1,r14.2,e15.2.2.2.2.2);
 bif inb y1 l16.length then
 let e17:=(rd1 zNode l16 y1);
 let l18:=List.set l16 (Int.toNat y1) (e17.1,e17.2.1,e17.2.2.1,e17.2.2.2.1,e17.2.2.2.2.1,r14.1,e17.2.2.2.2.2.2);
 bif inb y1 l18.length then
 let e19:=(rd1 zNode l18 y1);
 let l20:=List.set l18 (Int.toNat y1) (e19.1,e19.2.1,e19.2.2.1,e19.2.2.2.1,e19.2.2.2.2.1,e19.2.2.2.2.2.1,(IntKind.wrap .i64 (r14.1+1)),e19.2.2.2.2.2.2.2);
 bif inb y1 l20.length then
 let e21:=(rd1 zNode l20 y1);
 let l22:=List.set l20 (Int.toNat y1) (e21.1,e21.2.1,e21.2.2.1,e21.2.2.2.1,e21.2.2.2.2.1,e21.2.2.2.2.2.1,e21.2.2.2.2.2.2.1,(IntKind.wrap .i64 ((IntKind.wrap .i64 (r14.1+1))+1)),e21.2.2.2.2.2.2.2.2);
 bif inb y1 l22.length then
 let e23:=(rd1 zNode l22 y1);
 (laws_markStateS D ((rd1 zNode l22 y1).2.2.2.2.2.2.2.2.1,(IntKind.wrap .i64 ((IntKind.wrap .i64 ((IntKind.wrap .i64 (r14.1+1))+1))+1)))).bind fun r24=>
 let e25:=(rd1 zNode l22 y1);
 let l26:=List.set l22 (Int.toNat y1) (e25.1,e25.2.1,e25.2.2.1,e25.2.2.2.1,e25.2.2.2.2.1,e25.2.2.2.2.2.1,e25.2.2.2.2.2.2.1,e25.2.2.2.2.2.2.2.1,r24.2,e25.2.2.2.2.2.2.2.2.2);
 bif inb y1 l26.length then
 let e27:=(rd1 zNode l26 y1);
 (laws_markIntS D ((rd1 zNode l26 y1).2.2.2.2.2.2.2.2.2.1,r24.1)).bind fun r28=>
 let e29:=(rd1 zNode l26 y1);
 let l30:=List.set l26 (Int.toNat y1) (e29.1,e29.2.1,e29.2.2.1,e29.2.2.2.1,e29.2.2.2.2.1,e29.2.2.2.2.2.1,e29.2.2.2.2.2.2.1,e29.2.2.2.2.2.2.2.1,e29.2.2.2.2.2.2.2.2.1,r28.2,e29.2.2.2.2.2.2.2.2.2.2);
 bif inb y1 l30.length then
 let e31:=(rd1 zNode l30 y1);
 (laws_markIntS D ((rd1 zNode l30 y1).2.2.2.2.2.2.2.2.2.2.1,r28.1)).bind fun r32=>
 let e33:=(rd1 zNode l30 y1);
 let l34:=List.set l30 (Int.toNat y1) (e33.1,e33.2.1,e33.2.2.1,e33.2.2.2.1,e33.2.2.2.2.1,e33.2.2.2.2.2.1,e33.2.2.2.2.2.2.1,e33.2.2.2.2.2.2.2.1,e33.2.2.2.2.2.2.2.2.1,e33.2.2.2.2.2.2.2.2.2.1,r32.2,e33.2.2.2.2.2.2.2.2.2.2.2);
 bif inb y1 l34.length then
 let e35:=(rd1 zNode l34 y1);
 (laws_markIntSS D ((rd1 zNode l34 y1).2.2.2.2.2.2.2.2.2.2.2.1,r32.1)).bind fun r36=>
 let e37:=(rd1 zNode l34 y1);
 let l38:=List.set l34 (Int.toNat y1) (e37.1,e37.2.1,e37.2.2.1,e37.2.2.2.1,e37.2.2.2.2.1,e37.2.2.2.2.2.1,e37.2.2.2.2.2.2.1,e37.2.2.2.2.2.2.2.1,e37.2.2.2.2.2.2.2.2.1,e37.2.2.2.2.2.2.2.2.2.1,e37.2.2.2.2.2.2.2.2.2.2.1,r36.2,e37.2.2.2.2.2.2.2.2.2.2.2.2);
 bif inb y1 l38.length then
 let e39:=(rd1 zNode l38 y1);
 let l40:=List.set l38 (Int.toNat y1) (e39.1,e39.2.1,e39.2.2.1,e39.2.2.2.1,e39.2.2.2.2.1,e39.2.2.2.2.2.1,e39.2.2.2.2.2.2.1,e39.2.2.2.2.2.2.2.1,e39.2.2.2.2.2.2.2.2.1,e39.2.2.2.2.2.2.2.2.2.1,e39.2.2.2.2.2.2.2.2.2.2.1,e39.2.2.2.2.2.2.2.2.2.2.2.1,r36.1,e39.2.2.2.2.2.2.2.2.2.2.2.2.2);
 bif inb y1 l40.length then
 let e41:=(rd1 zNode l40 y1);
 let l42:=List.set l40 (Int.toNat y1) (e41.1,e41.2.1,e41.2.2.1,e41.2.2.2.1,e41.2.2.2.2.1,e41.2.2.2.2.2.1,e41.2.2.2.2.2.2.1,e41.2.2.2.2.2.2.2.1,e41.2.2.2.2.2.2.2.2.1,e41.2.2.2.2.2.2.2.2.2.1,e41.2.2.2.2.2.2.2.2.2.2.1,e41.2.2.2.2.2.2.2.2.2.2.2.1,e41.2.2.2.2.2.2.2.2.2.2.2.2.1,(IntKind.wrap .i64 (r36.1+1)),e41.2.2.2.2.2.2.2.2.2.2.2.2.2.2);
 bif inb y1 l42.length then
 let e43:=(rd1 zNode l42 y1);
 (laws_markSessS D ((rd1 zNode l42 y1).2.2.2.2.2.2.2.2.2.2.2.2.2.2.1,(IntKind.wrap .i64 ((IntKind.wrap .i64 (r36.1+1))+1)))).bind fun r44=>
 let e45:=(rd1 zNode l42 y1);
 let l46:=List.set l42 (Int.toNat y1) (e45.1,e45.2.1,e45.2.2.1,e45.2.2.2.1,e45.2.2.2.2.1,e45.2.2.2.2.2.1,e45.2.2.2.2.2.2.1,e45.2.2.2.2.2.2.2.1,e45.2.2.2.2.2.2.2.2.1,e45.2.2.2.2.2.2.2.2.2.1,e45.2.2.2.2.2.2.2.2.2.2.1,e45.2.2.2.2.2.2.2.2.2.2.2.1,e45.2.2.2.2.2.2.2.2.2.2.2.2.1,e45.2.2.2.2.2.2.2.2.2.2.2.2.2.1,r44.2,e45.2.2.2.2.2.2.2.2.2.2.2.2.2.2.2);
 bif inb y1 l46.length then
 let e47:=(rd1 zNode l46 y1);
 let l48:=List.set l46 (Int.toNat y1) (e47.1,e47.2.1,e47.2.2.1,e47.2.2.2.1,e47.2.2.2.2.1,e47.2.2.2.2.2.1,e47.2.2.2.2.2.2.1,e47.2.2.2.2.2.2.2.1,e47.2.2.2.2.2.2.2.2.1,e47.2.2.2.2.2.2.2.2.2.1,e47.2.2.2.2.2.2.2.2.2.2.1,e47.2.2.2.2.2.2.2.2.2.2.2.1,e47.2.2.2.2.2.2.2.2.2.2.2.2.1,e47.2.2.2.2.2.2.2.2.2.2.2.2.2.1,e47.2.2.2.2.2.2.2.2.2.2.2.2.2.2.1,r44.1,e47.2.2.2.2.2.2.2.2.2.2.2.2.2.2.2.2);
 bif inb y1 l48.length then
 let e49:=(rd1 zNode l48 y1);
 let l50:=List.set l48 (Int.toNat y1) (e49.1,e49.2.1,e49.2.2.1,e49.2.2.2.1,e49.2.2.2.2.1,e49.2.2.2.2.2.1,e49.2.2.2.2.2.2.1,e49.2.2.2.2.2.2.2.1,e49.2.2.2.2.2.2.2.2.1,e49.2.2.2.2.2.2.2.2.2.1,e49.2.2.2.2.2.2.2.2.2.2.1,e49.2.2.2.2.2.2.2.2.2.2.2.1,e49.2.2.2.2.2.2.2.2.2.2.2.2.1,e49.2.2.2.2.2.2.2.2.2.2.2.2.2.1,e49.2.2.2.2.2.2.2.2.2.2.2.2.2.2.1,e49.2.2.2.2.2.2.2.2.2.2.2.2.2.2.2.1,(IntKind.wrap .i64 (r44.1+1)),e49.2.2.2.2.2.2.2.2.2.2.2.2.2.2.2.2.2);
 bif inb y1 l50.length then
 let e51:=(rd1 zNode l50 y1);
 let l52:=List.set l50 (Int.toNat y1) (e51.1,e51.2.1,e51.2.2.1,e51.2.2.2.1,e51.2.2.2.2.1,e51.2.2.2.2.2.1,e51.2.2.2.2.2.2.1,e51.2.2.2.2.2.2.2.1,e51.2.2.2.2.2.2.2.2.1,e51.2.2.2.2.2.2.2.2.2.1,e51.2.2.2.2.2.2.2.2.2.2.1,e51.2.2.2.2.2.2.2.2.2.2.2.1,e51.2.2.2.2.2.2.2.2.2.2.2.2.1,e51.2.2.2.2.2.2.2.2.2.2.2.2.2.1,e51.2.2.2.2.2.2.2.2.2.2.2.2.2.2.1,e51.2.2.2.2.2.2.2.2.2.2.2.2.2.2.2.1,e51.2.2.2.2.2.2.2.2.2.2.2.2.2.2.2.2.1,(IntKind.wrap .i64 ((IntKind.wrap .i64 (r44.1+1))+1)),e51.2.2.2.2.2.2.2.2.2.2.2.2.2.2.2.2.2.2);
 bif inb y1 l52.length then
 let e53:=(rd1 zNode l52 y1);
 (laws_markRiseS D ((rd1 zNode l52 y1).2.2.2.2.2.2.2.2.2.2.2.2.2.2.2.2.2.2,(IntKind.wrap .i64 ((IntKind.wrap .i64 ((IntKind.wrap .i64 (r44.1+1))+1))+1)))).bind fun r54=>
 let e55:=(rd1 zNode l52 y1);
 let l56:=List.set l52 (Int.toNat y1) (e55.1,e55.2.1,e55.2.2.1,e55.2.2.2.1,e55.2.2.2.2.1,e55.2.2.2.2.2.1,e55.2.2.2.2.2.2.1,e55.2.2.2.2.2.2.2.1,e55.2.2.2.2.2.2.2.2.1,e55.2.2.2.2.2.2.2.2.2.1,e55.2.2.2.2.2.2.2.2.2.2.1,e55.2.2.2.2.2.2.2.2.2.2.2.1,e55.2.2.2.2.2.2.2.2.2.2.2.2.1,e55.2.2.2.2.2.2.2.2.2.2.2.2.2.1,e55.2.2.2.2.2.2.2.2.2.2.2.2.2.2.1,e55.2.2.2.2.2.2.2.2.2.2.2.2.2.2.2.1,e55.2.2.2.2.2.2.2.2.2.2.2.2.2.2.2.2.1,e55.2.2.2.2.2.2.2.2.2.2.2.2.2.2.2.2.2.1,r54.2);
 laws_markNodeS_k0 L (r54.1,(IntKind.wrap .i64 (y1+1)),l56)else none else none else none else none else none else none else none else none else none else none else none else none else none else none else none else none else none else none else none)
 else(some (y0,y2))
theorem laws_markNodeS_l0_of:OfL laws_markNodeS_k0 laws_markNodeS_l0:=ofL 114 0
def laws_markNodeS_raw:rF laws_markNodeS:=fun D L (a0,a1)=>
 (laws_markNodeS_k0 L (a1,0,a0)).bind fun z57=>
 some z57
theorem laws_markNodeS_of:OfF laws_markNodeS laws_markNodeS_raw:=ofF 114
def laws_markPackS_l0:rL laws_markPackS_k0:=fun D L (y0,y1,y2)=>
 bif (decide (y1<(y2.length:Int)))then(bif inb y1 y2.length then
 let e1:=(rd1 zPack y2 y1);
 let l2:=List.set y2 (Int.toNat y1) (y0,e1.2);
 bif inb y1 l2.length then
 let e3:=(rd1 zPack l2 y1);
 (laws_markByteS D ((rd1 zPack l2 y1).2.1,(IntKind.wrap .i64 (y0+1)))).bind fun r4=>
 let e5:=(rd1 zPack l2 y1);
 let l6:=List.set l2 (Int.toNat y1) (e5.1,r4.2,e5.2.2);
 bif decide ((3:Int)≠0)then
 bif inb y1 l6.length then
 let e7:=(rd1 zPack l6 y1);
 let l8:=List.set l6 (Int.toNat y1) (e7.1,e7.2.1,(decide ((Int.tmod r4.1 3)=0)));
 laws_markPackS_k0 L ((IntKind.wrap .i64 (r4.1+1)),(IntKind.wrap .i64 (y1+1)),l8)else none else none else none else none)
 else(some (y0,y2))
theorem laws_markPackS_l0_of:OfL laws_markPackS_k0 laws_markPackS_l0:=ofL 115 0
def laws_markPackS_raw:rF laws_markPackS:=fun D L (a0,a1)=>
 (laws_markPackS_k0 L (a1,0,a0)).bind fun z9=>
 some z9
theorem laws_markPackS_of:OfF laws_markPackS laws_markPackS_raw:=ofF 115
def laws_markSaidS_l0:rL laws_markSaidS_k0:=fun D L (y0,y1,y2)=>
 bif (decide (y1<(y2.length:Int)))then(bif inb y1 y2.length then
 let e1:=(rd1 zSaid y2 y1);
 let l2:=List.set y2 (Int.toNat y1) (y0,e1.2);
 bif inb y1 l2.length then
 let e3:=(rd1 zSaid l2 y1);
 (laws_markItemS D ((rd1 zSaid l2 y1).2.1,(IntKind.wrap .i64 (y0+1)))).bind fun r4=>
 let e5:=(rd1 zSaid l2 y1);
 let l6:=List.set l2 (Int.toNat y1) (e5.1,r4.2,e5.2.2);
 bif inb y1 l6.length then
 let e7:=(rd1 zSaid l6 y1);
 (laws_markFloorS D ((rd1 zSaid l6 y1).2.2,r4.1)).bind fun r8=>
 let e9:=(rd1 zSaid l6 y1);
 let l10:=List.set l6 (Int.toNat y1) (e9.1,e9.2.1,r8.2);
 laws_markSaidS_k0 L (r8.1,(IntKind.wrap .i64 (y1+1)),l10)else none else none else none)
 else(some (y0,y2))
theorem laws_markSaidS_l0_of:OfL laws_markSaidS_k0 laws_markSaidS_l0:=ofL 116 0
def laws_markSaidS_raw:rF laws_markSaidS:=fun D L (a0,a1)=>
 (laws_markSaidS_k0 L (a1,0,a0)).bind fun z11=>
 some z11
theorem laws_markSaidS_of:OfF laws_markSaidS laws_markSaidS_raw:=ofF 116
def laws_markText_l0:rL laws_markText_k0:=fun D L (y0,y1)=>
 bif (decide (0<y0))then(bif decide ((10:Int)≠0)then
 bif fits (ByteArray.size (toBytes [(IntKind.wrap .u8 (IntKind.wrap .i64 (48+(Int.tmod y0 10))))])+ByteArray.size y1) 1 then
 bif decide ((10:Int)≠0)then
 laws_markText_k0 L ((IntKind.wrap .i64 (Int.tdiv y0 10)),((toBytes [(IntKind.wrap .u8 (IntKind.wrap .i64 (48+(Int.tmod y0 10))))])++y1))else none else none else none)
 else(some y1)
theorem laws_markText_l0_of:OfL laws_markText_k0 laws_markText_l0:=ofL 117 0
def laws_markText_raw:rF laws_markText:=fun D L a0=>
 bif (decide (a0≤0))then(some (⟨#[109,48]⟩:ByteArray))
 else((laws_markText_k0 L (a0,(⟨#[]⟩:ByteArray))).bind fun z1=>
 bif fits (ByteArray.size (⟨#[109]⟩:ByteArray)+ByteArray.size z1) 1 then
 some ((⟨#[109]⟩:ByteArray)++z1)else none)
theorem laws_markText_of:OfF laws_markText laws_markText_raw:=ofF 117
def spec_l15Copy_l0:rL spec_l15Copy_k0:=fun D L (y0,y1,y2,y3,y4,y5,y6)=>
 bif (decide (y0<(y1.length:Int)))then(bif inb y0 y1.length then
 let e1:=(rd1 zNode y1 y0);
 (spec_l11Copy D e1).bind fun r2=>
 bif fits (y4.length+ [r2].length) 296 then
 spec_l15Copy_k0 L ((IntKind.wrap .i64 (y0+1)),y1,y2,y3,(y4++[r2]),y5,y6)else none else none)
 else(some (y1,y2,y3,y4,y5,y6))
theorem spec_l15Copy_l0_of:OfL spec_l15Copy_k0 spec_l15Copy_l0:=ofL 124 0
def spec_l15Copy_l2:rL spec_l15Copy_k2:=fun D L (y0,y1,y2,y3,y4,y5,y6)=>
 bif (decide (y0<(y2.length:Int)))then(bif inb y0 y2.length then
 let e4:=(rd1 zPack y2 y0);
 (spec_l15Pack D e4).bind fun r5=>
 bif fits (y5.length+ [r5].length) 40 then
 spec_l15Copy_k2 L ((IntKind.wrap .i64 (y0+1)),y1,y2,y3,y4,(y5++[r5]),y6)else none else none)
 else(some (y1,y2,y3,y4,y5,y6))
theorem spec_l15Copy_l2_of:OfL spec_l15Copy_k2 spec_l15Copy_l2:=ofL 124 2
def spec_l15Copy_l4:rL spec_l15Copy_k4:=fun D L (y0,y1,y2,y3,y4,y5,y6)=>
 bif (decide (y0<(y3.length:Int)))then(bif inb y0 y3.length then
 let e7:=(rd1 zSaid y3 y0);
 bif inb y0 y3.length then
 let e8:=(rd1 zSaid y3 y0);
 (spec_l3Copy D e8.2).bind fun r9=>
 bif fits (y6.length+ [(e7.1,r9)].length) 56 then
 spec_l15Copy_k4 L ((IntKind.wrap .i64 (y0+1)),y1,y2,y3,y4,y5,(y6++[(e7.1,r9)]))else none else none else none)
 else(some (y4,y5,y6))
theorem spec_l15Copy_l4_of:OfL spec_l15Copy_k4 spec_l15Copy_l4:=ofL 124 4
def spec_l15Copy_raw:rF spec_l15Copy:=fun D L (a0,a1,a2)=>
 (spec_l15Copy_k0 L (0,a0,a1,a2,[],[],[])).bind fun z3=>
 (spec_l15Copy_k2 L (0,z3)).bind fun z6=>
 (spec_l15Copy_k4 L (0,z6)).bind fun z10=>
 some z10
theorem spec_l15Copy_of:OfF spec_l15Copy spec_l15Copy_raw:=ofF 124
def impl_copyWorld_l0:rL impl_copyWorld_k0:=fun D L (y0,y1,y2,y3,y4,y5,y6,y7,y8)=>
 bif (decide (y2<y1))then(bif inb y2 y0.length then
 let e1:=(rd1 zNode y0 y2);
 (impl_copyNode D e1).bind fun r2=>
 bif fits (y6.length+ [r2].length) 296 then
 impl_copyWorld_k0 L (y0,y1,(IntKind.wrap .i64 (y2+1)),y3,y4,y5,(y6++[r2]),y7,y8)else none else none)
 else(some (y3,y4,y5,y6,y7,y8))
theorem impl_copyWorld_l0_of:OfL impl_copyWorld_k0 impl_copyWorld_l0:=ofL 125 0
def impl_copyWorld_l2:rL impl_copyWorld_k2:=fun D L (y0,y1,y2,y3,y4,y5,y6,y7,y8)=>
 bif (decide (y2<y1))then(bif inb y2 y0.length then
 let e4:=(rd1 zPack y0 y2);
 (impl_copyPack D e4).bind fun r5=>
 bif fits (y7.length+ [r5].length) 40 then
 impl_copyWorld_k2 L (y0,y1,(IntKind.wrap .i64 (y2+1)),y3,y4,y5,y6,(y7++[r5]),y8)else none else none)
 else(some (y3,y4,y5,y6,y7,y8))
theorem impl_copyWorld_l2_of:OfL impl_copyWorld_k2 impl_copyWorld_l2:=ofL 125 2
def impl_copyWorld_l4:rL impl_copyWorld_k4:=fun D L (y0,y1,y2,y3,y4,y5)=>
 bif (decide (y2<y1))then(bif inb y2 y0.length then
 let e7:=(rd1 zSaid y0 y2);
 (impl_copyState D e7.2).bind fun r8=>
 bif fits (y5.length+ [(e7.1,r8)].length) 56 then
 impl_copyWorld_k4 L (y0,y1,(IntKind.wrap .i64 (y2+1)),y3,y4,(y5++[(e7.1,r8)]))else none else none)
 else(some (y3,y4,y5))
theorem impl_copyWorld_l4_of:OfL impl_copyWorld_k4 impl_copyWorld_l4:=ofL 125 4
def impl_copyWorld_raw:rF impl_copyWorld:=fun D L (a0,a1,a2)=>
 (impl_copyWorld_k0 L (a0,(a0.length:Int),0,a0,a1,a2,[],[],[])).bind fun z3=>
 (impl_copyWorld_k2 L (z3.2.1,(z3.2.1.length:Int),0,z3)).bind fun z6=>
 (impl_copyWorld_k4 L (z6.2.2.1,(z6.2.2.1.length:Int),0,z6.2.2.2)).bind fun z9=>
 some z9
theorem impl_copyWorld_of:OfF impl_copyWorld impl_copyWorld_raw:=ofF 125
def laws_heldNodeS_l0:rL laws_heldNodeS_k0:=fun D L (y0,y1,y2)=>
 bif (decide (y2<(y0.length:Int)))then(bif inb y2 y0.length then
 let e1:=(rd1 zNode y0 y2);
 bif (!decide (e1.1=y1))then(some (Sum.inl (-1)))
 else(bif inb y2 y0.length then
 let e2:=(rd1 zNode y0 y2);
 bif (!decide (e2.2.1=(IntKind.wrap .i64 (y1+1))))then(some (Sum.inl (-1)))
 else(bif inb y2 y0.length then
 let e3:=(rd1 zNode y0 y2);
 (laws_heldItemS D (e3.2.2.1,(IntKind.wrap .i64 ((IntKind.wrap .i64 (y1+1))+1)))).bind fun r4=>
 bif (decide (r4<0))then(some (Sum.inl (-1)))
 else(bif inb y2 y0.length then
 let e5:=(rd1 zNode y0 y2);
 (laws_heldFloorS D (e5.2.2.2.1,r4)).bind fun r6=>
 bif (decide (r6<0))then(some (Sum.inl (-1)))
 else(bif inb y2 y0.length then
 let e7:=(rd1 zNode y0 y2);
 (laws_heldIntS D (e7.2.2.2.2.1,r6)).bind fun r8=>
 bif (decide (r8<0))then(some (Sum.inl (-1)))
 else(bif inb y2 y0.length then
 let e9:=(rd1 zNode y0 y2);
 bif (!decide (e9.2.2.2.2.2.1=r8))then(some (Sum.inl (-1)))
 else(bif inb y2 y0.length then
 let e10:=(rd1 zNode y0 y2);
 bif (!decide (e10.2.2.2.2.2.2.1=(IntKind.wrap .i64 (r8+1))))then(some (Sum.inl (-1)))
 else(bif inb y2 y0.length then
 let e11:=(rd1 zNode y0 y2);
 bif (!decide (e11.2.2.2.2.2.2.2.1=(IntKind.wrap .i64 ((IntKind.wrap .i64 (r8+1))+1))))then(some (Sum.inl (-1)))
 else(bif inb y2 y0.length then
 let e12:=(rd1 zNode y0 y2);
 (laws_heldStateS D (e12.2.2.2.2.2.2.2.2.1,(IntKind.wrap .i64 ((IntKind.wrap .i64 ((IntKind.wrap .i64 (r8+1))+1))+1)))).bind fun r13=>
 bif (decide (r13<0))then(some (Sum.inl (-1)))
 else(bif inb y2 y0.length then
 let e14:=(rd1 zNode y0 y2);
 (laws_heldIntS D (e14.2.2.2.2.2.2.2.2.2.1,r13)).bind fun r15=>
 bif (decide (r15<0))then(some (Sum.inl (-1)))
 else(bif inb y2 y0.length then
 let e16:=(rd1 zNode y0 y2);
 (laws_heldIntS D (e16.2.2.2.2.2.2.2.2.2.2.1,r15)).bind fun r17=>
 bif (decide (r17<0))then(some (Sum.inl (-1)))
 else(bif inb y2 y0.length then
 let e18:=(rd1 zNode y0 y2);
 (laws_heldIntSS D (e18.2.2.2.2.2.2.2.2.2.2.2.1,r17)).bind fun r19=>
 bif (decide (r19<0))then(some (Sum.inl (-1)))
 else(bif inb y2 y0.length then
 let e20:=(rd1 zNode y0 y2);
 bif (!decide (e20.2.2.2.2.2.2.2.2.2.2.2.2.1=r19))then(some (Sum.inl (-1)))
 else(bif inb y2 y0.length then
 let e21:=(rd1 zNode y0 y2);
 bif (!decide (e21.2.2.2.2.2.2.2.2.2.2.2.2.2.1=(IntKind.wrap .i64 (r19+1))))then(some (Sum.inl (-1)))
 else(bif inb y2 y0.length then
 let e22:=(rd1 zNode y0 y2);
 (laws_heldSessS D (e22.2.2.2.2.2.2.2.2.2.2.2.2.2.2.1,(IntKind.wrap .i64 ((IntKind.wrap .i64 (r19+1))+1)))).bind fun r23=>
 bif (decide (r23<0))then(some (Sum.inl (-1)))
 else(bif inb y2 y0.length then
 let e24:=(rd1 zNode y0 y2);
 bif (!decide (e24.2.2.2.2.2.2.2.2.2.2.2.2.2.2.2.1=r23))then(some (Sum.inl (-1)))
 else(bif inb y2 y0.length then
 let e25:=(rd1 zNode y0 y2);
 bif (!decide (e25.2.2.2.2.2.2.2.2.2.2.2.2.2.2.2.2.1=(IntKind.wrap .i64 (r23+1))))then(some (Sum.inl (-1)))
 else(bif inb y2 y0.length then
 let e26:=(rd1 zNode y0 y2);
 bif (!decide (e26.2.2.2.2.2.2.2.2.2.2.2.2.2.2.2.2.2.1=(IntKind.wrap .i64 ((IntKind.wrap .i64 (r23+1))+1))))then(some (Sum.inl (-1)))
 else(bif inb y2 y0.length then
 let e27:=(rd1 zNode y0 y2);
 (laws_heldRiseS D (e27.2.2.2.2.2.2.2.2.2.2.2.2.2.2.2.2.2.2,(IntKind.wrap .i64 ((IntKind.wrap .i64 ((IntKind.wrap .i64 (r23+1))+1))+1)))).bind fun r28=>
 bif (decide (r28<0))then(some (Sum.inl (-1)))
 else(laws_heldNodeS_k0 L (y0,r28,(IntKind.wrap .i64 (y2+1))))else none)else none)else none)else none)else none)else none)else none)else none)else none)else none)else none)else none)else none)else none)else none)else none)else none)else none)else none)
 else(some (Sum.inr y1))
theorem laws_heldNodeS_l0_of:OfL laws_heldNodeS_k0 laws_heldNodeS_l0:=ofL 126 0
def laws_heldNodeS_raw:rF laws_heldNodeS:=fun D L (a0,a1)=>
 (laws_heldNodeS_k0 L (a0,a1,0)).bind fun z29=>
 elimS z29 (fun u30=>
 some u30)
 (fun z31=>
 some z31)
theorem laws_heldNodeS_of:OfF laws_heldNodeS laws_heldNodeS_raw:=ofF 126
def laws_heldPackS_l0:rL laws_heldPackS_k0:=fun D L (y0,y1,y2)=>
 bif (decide (y2<(y0.length:Int)))then(bif inb y2 y0.length then
 let e1:=(rd1 zPack y0 y2);
 bif (!decide (e1.1=y1))then(some (Sum.inl (-1)))
 else(bif inb y2 y0.length then
 let e2:=(rd1 zPack y0 y2);
 (laws_heldByteS D (e2.2.1,(IntKind.wrap .i64 (y1+1)))).bind fun r3=>
 bif (decide (r3<0))then(some (Sum.inl (-1)))
 else(bif inb y2 y0.length then
 let e4:=(rd1 zPack y0 y2);
 bif decide ((3:Int)≠0)then
 bif (!(e4.2.2==(decide ((Int.tmod r3 3)=0))))then(some (Sum.inl (-1)))
 else(laws_heldPackS_k0 L (y0,(IntKind.wrap .i64 (r3+1)),(IntKind.wrap .i64 (y2+1))))else none else none)else none)else none)
 else(some (Sum.inr y1))
theorem laws_heldPackS_l0_of:OfL laws_heldPackS_k0 laws_heldPackS_l0:=ofL 127 0
def laws_heldPackS_raw:rF laws_heldPackS:=fun D L (a0,a1)=>
 (laws_heldPackS_k0 L (a0,a1,0)).bind fun z5=>
 elimS z5 (fun u6=>
 some u6)
 (fun z7=>
 some z7)
theorem laws_heldPackS_of:OfF laws_heldPackS laws_heldPackS_raw:=ofF 127
def laws_heldSaidS_l0:rL laws_heldSaidS_k0:=fun D L (y0,y1,y2)=>
 bif (decide (y2<(y0.length:Int)))then(bif inb y2 y0.length then
 let e1:=(rd1 zSaid y0 y2);
 bif (!decide (e1.1=y1))then(some (Sum.inl (-1)))
 else(bif inb y2 y0.length then
 let e2:=(rd1 zSaid y0 y2);
 (laws_heldItemS D (e2.2.1,(IntKind.wrap .i64 (y1+1)))).bind fun r3=>
 bif (decide (r3<0))then(some (Sum.inl (-1)))
 else(bif inb y2 y0.length then
 let e4:=(rd1 zSaid y0 y2);
 (laws_heldFloorS D (e4.2.2,r3)).bind fun r5=>
 bif (decide (r5<0))then(some (Sum.inl (-1)))
 else(laws_heldSaidS_k0 L (y0,r5,(IntKind.wrap .i64 (y2+1))))else none)else none)else none)
 else(some (Sum.inr y1))
theorem laws_heldSaidS_l0_of:OfL laws_heldSaidS_k0 laws_heldSaidS_l0:=ofL 128 0
def laws_heldSaidS_raw:rF laws_heldSaidS:=fun D L (a0,a1)=>
 (laws_heldSaidS_k0 L (a0,a1,0)).bind fun z6=>
 elimS z6 (fun u7=>
 some u7)
 (fun z8=>
 some z8)
theorem laws_heldSaidS_of:OfF laws_heldSaidS laws_heldSaidS_raw:=ofF 128
def laws_szPack_raw:rF laws_szPack:=fun D L (a0,a1,a2,a3)=>
 (laws_szByteS D (a1,a3)).bind fun r1=>
 bif (decide (r1<0))then(some (-1))
 else(some r1)
theorem laws_szPack_of:OfF laws_szPack laws_szPack_raw:=ofF 135
def laws_szSaid_raw:rF laws_szSaid:=fun D L (a0,a1,a2,a3)=>
 (laws_szState D (a1,a2,a3)).bind fun r1=>
 bif (decide (r1<0))then(some (-1))
 else(some r1)
theorem laws_szSaid_of:OfF laws_szSaid laws_szSaid_raw:=ofF 136
def spec_LogOk_l0:rL spec_LogOk_k0:=fun D L (y0,y1,y2,y3)=>
 bif (decide (y0<(y3.length:Int)))then(bif inb y0 y3.length then
 let e3:=(rd1 zState y3 y0);
 (spec_StateOk D e3).bind fun r4=>
 bif (!r4)then(some (Sum.inl false))
 else(spec_LogOk_k0 L ((IntKind.wrap .i64 (y0+1)),y1,y2,y3))else none)
 else(some (Sum.inr ()))
theorem spec_LogOk_l0_of:OfL spec_LogOk_k0 spec_LogOk_l0:=ofL 137 0
def spec_LogOk_raw:rF spec_LogOk:=fun D L (a0,a1,a2)=>
 (spec_l1In D (a0,1,8)).bind fun r1=>
 bif (!r1)then(some false)
 else(bif (decide (a0<(a2.length:Int)))then(some false)
 else((spec_l1In D (a1,0,100000)).bind fun r2=>
 bif (!r2)then(some false)
 else(bif (decide (100000<(IntKind.wrap .i64 (a1+(a2.length:Int)))))then(some false)
 else((spec_LogOk_k0 L (0,a0,a1,a2)).bind fun z5=>
 elimS z5 (fun u6=>
 some u6)
 (fun z7=>
 some true)))))
theorem spec_LogOk_of:OfF spec_LogOk spec_LogOk_raw:=ofF 137
def laws_toPack_raw:rF laws_toPack:=fun D L (a0,a1,a2)=>
 (laws_toByteS D a1).bind fun r1=>
 some (a0,r1,a2)
theorem laws_toPack_of:OfF laws_toPack laws_toPack_raw:=ofF 138
def laws_toSaid_raw:rF laws_toSaid:=fun D L (a0,a1,a2)=>
 (laws_toState D (a1,a2)).bind fun r1=>
 some (a0,r1)
theorem laws_toSaid_of:OfF laws_toSaid laws_toSaid_raw:=ofF 139
def impl_within_raw:rF impl_within:=fun D L (a0,a1,a2)=>
 bif (decide (a1≤a0))then(some (decide (a0≤a2)))
 else(some false)
theorem impl_within_of:OfF impl_within impl_within_raw:=ofF 140
def impl_StateOk_l0:rL impl_StateOk_k0:=fun D L (y0,y1,y2,y3,y4)=>
 bif (decide (y2<y1))then(bif inb y2 y0.length then
 let e1:=(rd1 zFloor y0 y2);
 (impl_isNode D e1.1).bind fun r2=>
 bif (!r2)then(some (Sum.inl false))
 else((impl_within D (e1.2,1,1000)).bind fun r3=>
 bif (!r3)then(some (Sum.inl false))
 else(bif (decide (0<y2))then(bif inb (IntKind.wrap .i64 (y2 - 1)) y4.length then
 let e4:=(rd1 zFloor y4 (IntKind.wrap .i64 (y2 - 1)));
 bif (decide (e1.1≤e4.1))then(some (Sum.inl false))
 else(impl_StateOk_k0 L (y0,y1,(IntKind.wrap .i64 (y2+1)),y3,y4))else none)
 else(impl_StateOk_k0 L (y0,y1,(IntKind.wrap .i64 (y2+1)),y3,y4))))else none)
 else(some (Sum.inr (y3,y4)))
theorem impl_StateOk_l0_of:OfL impl_StateOk_k0 impl_StateOk_l0:=ofL 141 0
def impl_StateOk_l2:rL impl_StateOk_k2:=fun D L (y0,y1,y2,y3,y4)=>
 bif (decide (y2<y1))then(bif inb y2 y0.length then
 let e8:=(rd1 zItem y0 y2);
 (impl_isNode D e8.1).bind fun r9=>
 bif (!r9)then(some (Sum.inl false))
 else((impl_EntryOk D e8.2).bind fun r10=>
 bif (!r10)then(some (Sum.inl false))
 else((impl_FloorOf D (y3,y4,e8.1)).bind fun r11=>
 bif (decide (e8.2.1≤r11))then(some (Sum.inl false))
 else(bif (decide (0<y2))then(bif inb (IntKind.wrap .i64 (y2 - 1)) y3.length then
 let e12:=(rd1 zItem y3 (IntKind.wrap .i64 (y2 - 1)));
 bif (decide (e8.1≤e12.1))then(some (Sum.inl false))
 else(impl_StateOk_k2 L (y0,y1,(IntKind.wrap .i64 (y2+1)),y3,y4))else none)
 else(impl_StateOk_k2 L (y0,y1,(IntKind.wrap .i64 (y2+1)),y3,y4)))))else none)
 else(some (Sum.inr ()))
theorem impl_StateOk_l2_of:OfL impl_StateOk_k2 impl_StateOk_l2:=ofL 141 2
def impl_StateOk_raw:rF impl_StateOk:=fun D L (a0,a1)=>
 (impl_StateOk_k0 L (a1,(a1.length:Int),0,a0,a1)).bind fun z5=>
 elimS z5 (fun u6=>
 some u6)
 (fun z7=>
 (impl_StateOk_k2 L (z7.1,(z7.1.length:Int),0,z7)).bind fun z13=>
 elimS z13 (fun u14=>
 some u14)
 (fun z15=>
 some true))
theorem impl_StateOk_of:OfF impl_StateOk impl_StateOk_raw:=ofF 141
end
end Go.Proofs.YtjenicbpdklpbaaGreat.M
