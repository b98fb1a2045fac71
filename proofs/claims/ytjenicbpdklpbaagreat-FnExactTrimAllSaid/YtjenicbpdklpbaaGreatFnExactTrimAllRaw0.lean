/- Plain forms of the functions that FnExactTrimAll reaches, part 0. No conditions. -/
import Derived.Test.YtjenicbpdklpbaaGreatFnExactTrimAllTab
set_option linter.all false
namespace Go.Proofs.YtjenicbpdklpbaaGreat.M
open Go Go.Eng Go.Proofs
set_option linter.unusedVariables false
noncomputable section
def laws_FnExactTrimAll_raw:rF laws_FnExactTrimAll:=fun D L (a0,a1,a2)=>
 (laws_szWorld D (a0,a1,a2,1048576)).bind fun r1=>
 bif (decide (r1<0))then(some true)
 else((laws_toWorld D (a0,a1,a2)).bind fun r2=>
 (spec_TrimAll D r2).bind fun r3=>
 (laws_toWorld D (a0,a1,a2)).bind fun r4=>
 (impl_TrimAll D r4).bind fun r5=>
 (laws_eqWorld D (r5.1,r5.2.1,r5.2.2,r3)).bind fun r6=>
 bif (!r6)then(some false)
 else((laws_toWorld D (a0,a1,a2)).bind fun r7=>
 (laws_eqWorld D (r4.1,r4.2.1,r4.2.2,r7)).bind fun r8=>
 bif (!r8)then(some false)
 else((laws_markWorld D (r4.1,r4.2.1,r4.2.2,1)).bind fun r9=>
 bif (decide (r9.1<0))then(some false)
 else((laws_eqWorld D (r5.1,r5.2.1,r5.2.2,r3)).bind fun r10=>
 bif (!r10)then(some false)
 else((laws_markWorld D (r5.1,r5.2.1,r5.2.2,1)).bind fun r11=>
 (laws_heldWorld D (r11.2.1,r11.2.2.1,r11.2.2.2,1)).bind fun r12=>
 bif (decide (r12<0))then(some false)
 else(bif (!decide (r12=r11.1))then(some false)
 else((laws_toWorld D (a0,a1,a2)).bind fun r13=>
 (impl_TrimAll D r13).bind fun r14=>
 (laws_eqWorld D (r14.1,r14.2.1,r14.2.2,r3)).bind fun r15=>
 bif (!r15)then(some false)
 else((laws_heldWorld D (r11.2.1,r11.2.2.1,r11.2.2.2,1)).bind fun r16=>
 bif (decide (r16<0))then(some false)
 else(bif (!decide (r16=r11.1))then(some false)
 else(some true))))))))))
theorem laws_FnExactTrimAll_of:OfF laws_FnExactTrimAll laws_FnExactTrimAll_raw:=ofF 13
def laws_szWorld_raw:rF laws_szWorld:=fun D L (a0,a1,a2,a3)=>
 (laws_szNodeS D (a0,a3)).bind fun r1=>
 bif (decide (r1<0))then(some (-1))
 else((laws_szPackS D (a1,r1)).bind fun r2=>
 bif (decide (r2<0))then(some (-1))
 else((laws_szSaidS D (a2,r2)).bind fun r3=>
 bif (decide (r3<0))then(some (-1))
 else(some r3)))
theorem laws_szWorld_of:OfF laws_szWorld laws_szWorld_raw:=ofF 15
def laws_toWorld_raw:rF laws_toWorld:=fun D L (a0,a1,a2)=>
 (laws_toNodeS D a0).bind fun r1=>
 (laws_toPackS D a1).bind fun r2=>
 (laws_toSaidS D a2).bind fun r3=>
 some (r1,r2,r3)
theorem laws_toWorld_of:OfF laws_toWorld laws_toWorld_raw:=ofF 17
def laws_eqWorld_raw:rF laws_eqWorld:=fun D L (a0,a1,a2,a3,a4,a5)=>
 (laws_eqNodeS D (a0,a3)).bind fun r1=>
 bif (!r1)then(some false)
 else((laws_eqPackS D (a1,a4)).bind fun r2=>
 bif (!r2)then(some false)
 else((laws_eqSaidS D (a2,a5)).bind fun r3=>
 bif (!r3)then(some false)
 else(some true)))
theorem laws_eqWorld_of:OfF laws_eqWorld laws_eqWorld_raw:=ofF 19
def laws_szNode_raw:rF laws_szNode:=fun D L (a0,a1,a2,a3,a4,a5,a6,a7,a8,a9,a10,a11,a12,a13,a14,a15,a16,a17,a18,a19)=>
 (laws_szState D (a2,a3,a19)).bind fun r1=>
 bif (decide (r1<0))then(some (-1))
 else((laws_szTree D (a4,a5,r1)).bind fun r2=>
 bif (decide (r2<0))then(some (-1))
 else((laws_szLog D (a6,a7,a8,r2)).bind fun r3=>
 bif (decide (r3<0))then(some (-1))
 else((laws_szIntS D (a9,r3)).bind fun r4=>
 bif (decide (r4<0))then(some (-1))
 else((laws_szIntS D (a10,r4)).bind fun r5=>
 bif (decide (r5<0))then(some (-1))
 else((laws_szIntSS D (a11,r5)).bind fun r6=>
 bif (decide (r6<0))then(some (-1))
 else((laws_szSessS D (a14,r6)).bind fun r7=>
 bif (decide (r7<0))then(some (-1))
 else((laws_szRiseS D (a18,r7)).bind fun r8=>
 bif (decide (r8<0))then(some (-1))
 else(some r8))))))))
theorem laws_szNode_of:OfF laws_szNode laws_szNode_raw:=ofF 28
def spec_Trim_raw:rF spec_Trim:=fun D L (a0,a1,a2,a3,a4,a5,a6,a7,a8,a9,a10,a11,a12,a13,a14,a15,a16,a17,a18)=>
 (spec_l11Copy D (a0,a1,a2,a3,a4,a5,a6,a7,a8,a9,a10,a11,a12,a13,a14,a15,a16,a17,a18)).bind fun r1=>
 (spec_NodeOk D (a0,a1,a2,a3,a4,a5,a6,a7,a8,a9,a10,a11,a12,a13,a14,a15,a16,a17,a18)).bind fun r2=>
 bif r2 then((spec_Safe D (a0,a1,a2,a3,a4,a5,a6,a7,a8,a9,a10,a11,a12,a13,a14,a15,a16,a17,a18)).bind fun r3=>
 (spec_LogDrop D (a6,a7,a8,r3)).bind fun r4=>
 some (r1.1,r1.2.1,r1.2.2.1,r1.2.2.2.1,r1.2.2.2.2.1,r1.2.2.2.2.2.1,r4.1,r4.2.1,r4.2.2,r1.2.2.2.2.2.2.2.2.2))
 else(some r1)
theorem spec_Trim_of:OfF spec_Trim spec_Trim_raw:=ofF 29
def laws_toNode_raw:rF laws_toNode:=fun D L (a0,a1,a2,a3,a4,a5,a6,a7,a8,a9,a10,a11,a12,a13,a14,a15,a16,a17,a18)=>
 (laws_toState D (a2,a3)).bind fun r1=>
 (laws_toTree D (a4,a5)).bind fun r2=>
 (laws_toLog D (a6,a7,a8)).bind fun r3=>
 (laws_toIntS D a9).bind fun r4=>
 (laws_toIntS D a10).bind fun r5=>
 (laws_toIntSS D a11).bind fun r6=>
 (laws_toSessS D a14).bind fun r7=>
 (laws_toRiseS D a18).bind fun r8=>
 some (a0,a1,r1.1,r1.2,r2.1,r2.2,r3.1,r3.2.1,r3.2.2,r4,r5,r6,a12,a13,r7,a15,a16,a17,r8)
theorem laws_toNode_of:OfF laws_toNode laws_toNode_raw:=ofF 30
def impl_Trim_raw:rF impl_Trim:=fun D L (a0,a1,a2,a3,a4,a5,a6,a7,a8,a9,a10,a11,a12,a13,a14,a15,a16,a17,a18)=>
 (impl_copyNode D (a0,a1,a2,a3,a4,a5,a6,a7,a8,a9,a10,a11,a12,a13,a14,a15,a16,a17,a18)).bind fun r1=>
 (impl_Safe D (a0,a1,a2,a3,a4,a5,a6,a7,a8,a9,a10,a11,a12,a13,a14,a15,a16,a17,a18)).bind fun r2=>
 (impl_NodeOk D (a0,a1,a2,a3,a4,a5,a6,a7,a8,a9,a10,a11,a12,a13,a14,a15,a16,a17,a18)).bind fun r3=>
 bif r3 then(bif (decide (a7≤r2))then((impl_LogDrop D (a6,a7,a8,r2)).bind fun r4=>
 some (r1.1,r1.2.1,r1.2.2.1,r1.2.2.2.1,r1.2.2.2.2.1,r1.2.2.2.2.2.1,r4.1,r4.2.1,r4.2.2,r1.2.2.2.2.2.2.2.2.2))
 else(some r1))
 else(some r1)
theorem impl_Trim_of:OfF impl_Trim impl_Trim_raw:=ofF 31
def laws_eqNode_raw:rF laws_eqNode:=fun D L (a0,a1,a2,a3,a4,a5,a6,a7,a8,a9,a10,a11,a12,a13,a14,a15,a16,a17,a18,a19,a20,a21,a22,a23,a24,a25,a26,a27,a28,a29,a30,a31,a32,a33,a34,a35,a36,a37)=>
 bif (!decide (a0=a19))then(some false)
 else(bif (!decide (a1=a20))then(some false)
 else((laws_eqState D (a2,a3,a21,a22)).bind fun r1=>
 bif (!r1)then(some false)
 else((laws_eqTree D (a4,a5,a23,a24)).bind fun r2=>
 bif (!r2)then(some false)
 else((laws_eqLog D (a6,a7,a8,a25,a26,a27)).bind fun r3=>
 bif (!r3)then(some false)
 else((laws_eqIntS D (a9,a28)).bind fun r4=>
 bif (!r4)then(some false)
 else((laws_eqIntS D (a10,a29)).bind fun r5=>
 bif (!r5)then(some false)
 else((laws_eqIntSS D (a11,a30)).bind fun r6=>
 bif (!r6)then(some false)
 else(bif (!decide (a12=a31))then(some false)
 else(bif (!decide (a13=a32))then(some false)
 else((laws_eqSessS D (a14,a33)).bind fun r7=>
 bif (!r7)then(some false)
 else(bif (!decide (a15=a34))then(some false)
 else(bif (!decide (a16=a35))then(some false)
 else(bif (!decide (a17=a36))then(some false)
 else((laws_eqRiseS D (a18,a37)).bind fun r8=>
 bif (!r8)then(some false)
 else(some true)))))))))))))))
theorem laws_eqNode_of:OfF laws_eqNode laws_eqNode_raw:=ofF 32
def laws_eqItemS_l0:rL laws_eqItemS_k0:=fun D L (y0,y1,y2)=>
 bif (decide (y2<(y0.length:Int)))then(bif inb y2 y0.length then
 let e1:=(rd1 zItem y0 y2);
 bif inb y2 y1.length then
 let e2:=(rd1 zItem y1 y2);
 (laws_eqItem D (e1.1,e1.2.1,e1.2.2.1,e1.2.2.2.1,e1.2.2.2.2.1,e1.2.2.2.2.2,e2)).bind fun r3=>
 bif (!r3)then(some (Sum.inl false))
 else(laws_eqItemS_k0 L (y0,y1,(IntKind.wrap .i64 (y2+1))))else none else none)
 else(some (Sum.inr ()))
theorem laws_eqItemS_l0_of:OfL laws_eqItemS_k0 laws_eqItemS_l0:=ofL 37 0
def laws_eqItemS_raw:rF laws_eqItemS:=fun D L (a0,a1)=>
 bif (!decide ((a0.length:Int)=(a1.length:Int)))then(some false)
 else((laws_eqItemS_k0 L (a0,a1,0)).bind fun z4=>
 elimS z4 (fun u5=>
 some u5)
 (fun z6=>
 some true))
theorem laws_eqItemS_of:OfF laws_eqItemS laws_eqItemS_raw:=ofF 37
def laws_markWorld_raw:rF laws_markWorld:=fun D L (a0,a1,a2,a3)=>
 (laws_markNodeS D (a0,a3)).bind fun r1=>
 (laws_markPackS D (a1,r1.1)).bind fun r2=>
 (laws_markSaidS D (a2,r2.1)).bind fun r3=>
 some (r3.1,r1.2,r2.2,r3.2)
theorem laws_markWorld_of:OfF laws_markWorld laws_markWorld_raw:=ofF 38
def laws_markItemS_l0:rL laws_markItemS_k0:=fun D L (y0,y1,y2)=>
 bif (decide (y1<(y2.length:Int)))then(bif inb y1 y2.length then
 let e1:=(rd1 zItem y2 y1);
 let l2:=List.set y2 (Int.toNat y1) (y0,e1.2);
 bif inb y1 l2.length then
 let e3:=(rd1 zItem l2 y1);
 let l4:=List.set l2 (Int.toNat y1) (e3.1,(IntKind.wrap .i64 (y0+1)),e3.2.2);
 bif inb y1 l4.length then
 let e5:=(rd1 zItem l4 y1);
 let l6:=List.set l4 (Int.toNat y1) (e5.1,e5.2.1,(IntKind.wrap .i64 ((IntKind.wrap .i64 (y0+1))+1)),e5.2.2.2);
 bif inb y1 l6.length then
 let e7:=(rd1 zItem l6 y1);
 let l8:=List.set l6 (Int.toNat y1) (e7.1,e7.2.1,e7.2.2.1,(IntKind.wrap .i64 ((IntKind.wrap .i64 ((IntKind.wrap .i64 (y0+1))+1))+1)),e7.2.2.2.2);
 bif inb y1 l8.length then
 let e9:=(rd1 zItem l8 y1);
 let l10:=List.set l8 (Int.toNat y1) (e9.1,e9.2.1,e9.2.2.1,e9.2.2.2.1,(IntKind.wrap .i64 ((IntKind.wrap .i64 ((IntKind.wrap .i64 ((IntKind.wrap .i64 (y0+1))+1))+1))+1)),e9.2.2.2.2.2);
 (laws_markText D (IntKind.wrap .i64 ((IntKind.wrap .i64 ((IntKind.wrap .i64 ((IntKind.wrap .i64 ((IntKind.wrap .i64 (y0+1))+1))+1))+1))+1))).bind fun r11=>
 bif inb y1 l10.length then
 let e12:=(rd1 zItem l10 y1);
 let l13:=List.set l10 (Int.toNat y1) (e12.1,e12.2.1,e12.2.2.1,e12.2.2.2.1,e12.2.2.2.2.1,r11);
 laws_markItemS_k0 L ((IntKind.wrap .i64 ((IntKind.wrap .i64 ((IntKind.wrap .i64 ((IntKind.wrap .i64 ((IntKind.wrap .i64 ((IntKind.wrap .i64 (y0+1))+1))+1))+1))+1))+1)),(IntKind.wrap .i64 (y1+1)),l13)else none else none else none else none else none else none)
 else(some (y0,y2))
theorem laws_markItemS_l0_of:OfL laws_markItemS_k0 laws_markItemS_l0:=ofL 39 0
def laws_markItemS_raw:rF laws_markItemS:=fun D L (a0,a1)=>
 (laws_markItemS_k0 L (a1,0,a0)).bind fun z14=>
 some z14
theorem laws_markItemS_of:OfF laws_markItemS laws_markItemS_raw:=ofF 39
def laws_heldItemS_l0:rL laws_heldItemS_k0:=fun D L (y0,y1,y2)=>
 bif (decide (y2<(y0.length:Int)))then(bif inb y2 y0.length then
 let e1:=(rd1 zItem y0 y2);
 bif (!decide (e1.1=y1))then(some (Sum.inl (-1)))
 else(bif inb y2 y0.length then
 let e2:=(rd1 zItem y0 y2);
 bif (!decide (e2.2.1=(IntKind.wrap .i64 (y1+1))))then(some (Sum.inl (-1)))
 else(bif inb y2 y0.length then
 let e3:=(rd1 zItem y0 y2);
 bif (!decide (e3.2.2.1=(IntKind.wrap .i64 ((IntKind.wrap .i64 (y1+1))+1))))then(some (Sum.inl (-1)))
 else(bif inb y2 y0.length then
 let e4:=(rd1 zItem y0 y2);
 bif (!decide (e4.2.2.2.1=(IntKind.wrap .i64 ((IntKind.wrap .i64 ((IntKind.wrap .i64 (y1+1))+1))+1))))then(some (Sum.inl (-1)))
 else(bif inb y2 y0.length then
 let e5:=(rd1 zItem y0 y2);
 bif (!decide (e5.2.2.2.2.1=(IntKind.wrap .i64 ((IntKind.wrap .i64 ((IntKind.wrap .i64 ((IntKind.wrap .i64 (y1+1))+1))+1))+1))))then(some (Sum.inl (-1)))
 else(bif inb y2 y0.length then
 let e6:=(rd1 zItem y0 y2);
 (laws_markText D (IntKind.wrap .i64 ((IntKind.wrap .i64 ((IntKind.wrap .i64 ((IntKind.wrap .i64 ((IntKind.wrap .i64 (y1+1))+1))+1))+1))+1))).bind fun r7=>
 bif (!beqS e6.2.2.2.2.2 r7)then(some (Sum.inl (-1)))
 else(laws_heldItemS_k0 L (y0,(IntKind.wrap .i64 ((IntKind.wrap .i64 ((IntKind.wrap .i64 ((IntKind.wrap .i64 ((IntKind.wrap .i64 ((IntKind.wrap .i64 (y1+1))+1))+1))+1))+1))+1)),(IntKind.wrap .i64 (y2+1))))else none)else none)else none)else none)else none)else none)
 else(some (Sum.inr y1))
theorem laws_heldItemS_l0_of:OfL laws_heldItemS_k0 laws_heldItemS_l0:=ofL 40 0
def laws_heldItemS_raw:rF laws_heldItemS:=fun D L (a0,a1)=>
 (laws_heldItemS_k0 L (a0,a1,0)).bind fun z8=>
 elimS z8 (fun u9=>
 some u9)
 (fun z10=>
 some z10)
theorem laws_heldItemS_of:OfF laws_heldItemS laws_heldItemS_raw:=ofF 40
def laws_eqIntS_l0:rL laws_eqIntS_k0:=fun D L (y0,y1,y2)=>
 bif (decide (y2<(y0.length:Int)))then(bif inb y2 y0.length then
 bif inb y2 y1.length then
 bif (!decide ((rd1 (0:Int) y0 y2)=(rd1 (0:Int) y1 y2)))then(some (Sum.inl false))
 else(laws_eqIntS_k0 L (y0,y1,(IntKind.wrap .i64 (y2+1))))else none else none)
 else(some (Sum.inr ()))
theorem laws_eqIntS_l0_of:OfL laws_eqIntS_k0 laws_eqIntS_l0:=ofL 43 0
def laws_eqIntS_raw:rF laws_eqIntS:=fun D L (a0,a1)=>
 bif (!decide ((a0.length:Int)=(a1.length:Int)))then(some false)
 else((laws_eqIntS_k0 L (a0,a1,0)).bind fun z1=>
 elimS z1 (fun u2=>
 some u2)
 (fun z3=>
 some true))
theorem laws_eqIntS_of:OfF laws_eqIntS laws_eqIntS_raw:=ofF 43
def laws_markIntS_l0:rL laws_markIntS_k0:=fun D L (y0,y1,y2)=>
 bif (decide (y1<(y2.length:Int)))then(bif inb y1 y2.length then
 let l1:=List.set y2 (Int.toNat y1) y0;
 laws_markIntS_k0 L ((IntKind.wrap .i64 (y0+1)),(IntKind.wrap .i64 (y1+1)),l1)else none)
 else(some (y0,y2))
theorem laws_markIntS_l0_of:OfL laws_markIntS_k0 laws_markIntS_l0:=ofL 44 0
def laws_markIntS_raw:rF laws_markIntS:=fun D L (a0,a1)=>
 (laws_markIntS_k0 L (a1,0,a0)).bind fun z2=>
 some z2
theorem laws_markIntS_of:OfF laws_markIntS laws_markIntS_raw:=ofF 44
def laws_heldIntS_l0:rL laws_heldIntS_k0:=fun D L (y0,y1,y2)=>
 bif (decide (y2<(y0.length:Int)))then(bif inb y2 y0.length then
 bif (!decide ((rd1 (0:Int) y0 y2)=y1))then(some (Sum.inl (-1)))
 else(laws_heldIntS_k0 L (y0,(IntKind.wrap .i64 (y1+1)),(IntKind.wrap .i64 (y2+1))))else none)
 else(some (Sum.inr y1))
theorem laws_heldIntS_l0_of:OfL laws_heldIntS_k0 laws_heldIntS_l0:=ofL 45 0
def laws_heldIntS_raw:rF laws_heldIntS:=fun D L (a0,a1)=>
 (laws_heldIntS_k0 L (a0,a1,0)).bind fun z1=>
 elimS z1 (fun u2=>
 some u2)
 (fun z3=>
 some z3)
theorem laws_heldIntS_of:OfF laws_heldIntS laws_heldIntS_raw:=ofF 45
def spec_TrimAll_l0:rL spec_TrimAll_k0:=fun D L (y0,y1,y2,y3,y4,y5,y6)=>
 bif (decide (y0<(y4.length:Int)))then((spec_WorldOk D (y1,y2,y3)).bind fun r2=>
 bif r2 then(bif inb y0 y1.length then
 let e3:=(rd1 zNode y1 y0);
 (spec_Trim D e3).bind fun r4=>
 bif inb y0 y4.length then
 let l5:=List.set y4 (Int.toNat y0) r4;
 spec_TrimAll_k0 L ((IntKind.wrap .i64 (y0+1)),y1,y2,y3,l5,y5,y6)else none else none)
 else(some (y4,y5,y6)))
 else(some (y4,y5,y6))
theorem spec_TrimAll_l0_of:OfL spec_TrimAll_k0 spec_TrimAll_l0:=ofL 50 0
def spec_TrimAll_raw:rF spec_TrimAll:=fun D L (a0,a1,a2)=>
 (spec_l15Copy D (a0,a1,a2)).bind fun r1=>
 (spec_TrimAll_k0 L (0,a0,a1,a2,r1)).bind fun z6=>
 some z6
theorem spec_TrimAll_of:OfF spec_TrimAll spec_TrimAll_raw:=ofF 50
def impl_TrimAll_l0:rL impl_TrimAll_k0:=fun D L (y0,y1,y2,y3,y4,y5)=>
 bif (decide (y2<y1))then(bif inb y2 y0.length then
 let e3:=(rd1 zNode y0 y2);
 (impl_Trim D e3).bind fun r4=>
 bif inb y2 y3.length then
 let l5:=List.set y3 (Int.toNat y2) r4;
 impl_TrimAll_k0 L (y0,y1,(IntKind.wrap .i64 (y2+1)),l5,y4,y5)else none else none)
 else(some (y3,y4,y5))
theorem impl_TrimAll_l0_of:OfL impl_TrimAll_k0 impl_TrimAll_l0:=ofL 51 0
def impl_TrimAll_raw:rF impl_TrimAll:=fun D L (a0,a1,a2)=>
 (impl_copyWorld D (a0,a1,a2)).bind fun r1=>
 (impl_WorldOk D (a0,a1,a2)).bind fun r2=>
 bif (!r2)then(some r1)
 else((impl_TrimAll_k0 L (a0,(a0.length:Int),0,r1)).bind fun z6=>
 some z6)
theorem impl_TrimAll_of:OfF impl_TrimAll impl_TrimAll_raw:=ofF 51
def laws_heldWorld_raw:rF laws_heldWorld:=fun D L (a0,a1,a2,a3)=>
 (laws_heldNodeS D (a0,a3)).bind fun r1=>
 bif (decide (r1<0))then(some (-1))
 else((laws_heldPackS D (a1,r1)).bind fun r2=>
 bif (decide (r2<0))then(some (-1))
 else((laws_heldSaidS D (a2,r2)).bind fun r3=>
 bif (decide (r3<0))then(some (-1))
 else(some r3)))
theorem laws_heldWorld_of:OfF laws_heldWorld laws_heldWorld_raw:=ofF 52
def laws_szNodeS_l0:rL laws_szNodeS_k0:=fun D L (y0,y1,y2)=>
 bif (decide (y2<(y0.length:Int)))then(bif inb y2 y0.length then
 let e1:=(rd1 zNode y0 y2);
 (laws_szNode D (e1.1,e1.2.1,e1.2.2.1,e1.2.2.2.1,e1.2.2.2.2.1,e1.2.2.2.2.2.1,e1.2.2.2.2.2.2.1,e1.2.2.2.2.2.2.2.1,e1.2.2.2.2.2.2.2.2.1,e1.2.2.2.2.2.2.2.2.2.1,e1.2.2.2.2.2.2.2.2.2.2.1,e1.2.2.2.2.2.2.2.2.2.2.2.1,e1.2.2.2.2.2.2.2.2.2.2.2.2.1,e1.2.2.2.2.2.2.2.2.2.2.2.2.2.1,e1.2.2.2.2.2.2.2.2.2.2.2.2.2.2.1,e1.2.2.2.2.2.2.2.2.2.2.2.2.2.2.2.1,e1.2.2.2.2.2.2.2.2.2.2.2.2.2.2.2.2.1,e1.2.2.2.2.2.2.2.2.2.2.2.2.2.2.2.2.2.1,e1.2.2.2.2.2.2.2.2.2.2.2.2.2.2.2.2.2.2,y1)).bind fun r2=>
 bif (decide (r2<0))then(some (Sum.inl (-1)))
 else(laws_szNodeS_k0 L (y0,r2,(IntKind.wrap .i64 (y2+1))))else none)
 else(some (Sum.inr y1))
theorem laws_szNodeS_l0_of:OfL laws_szNodeS_k0 laws_szNodeS_l0:=ofL 55 0
def laws_szNodeS_raw:rF laws_szNodeS:=fun D L (a0,a1)=>
 bif (decide ((IntKind.wrap .i64 (a1 - (a0.length:Int)))<0))then(some (-1))
 else((laws_szNodeS_k0 L (a0,(IntKind.wrap .i64 (a1 - (a0.length:Int))),0)).bind fun z3=>
 elimS z3 (fun u4=>
 some u4)
 (fun z5=>
 some z5))
theorem laws_szNodeS_of:OfF laws_szNodeS laws_szNodeS_raw:=ofF 55
def laws_szPackS_l0:rL laws_szPackS_k0:=fun D L (y0,y1,y2)=>
 bif (decide (y2<(y0.length:Int)))then(bif inb y2 y0.length then
 let e1:=(rd1 zPack y0 y2);
 (laws_szPack D (e1.1,e1.2.1,e1.2.2,y1)).bind fun r2=>
 bif (decide (r2<0))then(some (Sum.inl (-1)))
 else(laws_szPackS_k0 L (y0,r2,(IntKind.wrap .i64 (y2+1))))else none)
 else(some (Sum.inr y1))
theorem laws_szPackS_l0_of:OfL laws_szPackS_k0 laws_szPackS_l0:=ofL 56 0
def laws_szPackS_raw:rF laws_szPackS:=fun D L (a0,a1)=>
 bif (decide ((IntKind.wrap .i64 (a1 - (a0.length:Int)))<0))then(some (-1))
 else((laws_szPackS_k0 L (a0,(IntKind.wrap .i64 (a1 - (a0.length:Int))),0)).bind fun z3=>
 elimS z3 (fun u4=>
 some u4)
 (fun z5=>
 some z5))
theorem laws_szPackS_of:OfF laws_szPackS laws_szPackS_raw:=ofF 56
def laws_szSaidS_l0:rL laws_szSaidS_k0:=fun D L (y0,y1,y2)=>
 bif (decide (y2<(y0.length:Int)))then(bif inb y2 y0.length then
 let e1:=(rd1 zSaid y0 y2);
 (laws_szSaid D (e1.1,e1.2.1,e1.2.2,y1)).bind fun r2=>
 bif (decide (r2<0))then(some (Sum.inl (-1)))
 else(laws_szSaidS_k0 L (y0,r2,(IntKind.wrap .i64 (y2+1))))else none)
 else(some (Sum.inr y1))
theorem laws_szSaidS_l0_of:OfL laws_szSaidS_k0 laws_szSaidS_l0:=ofL 57 0
def laws_szSaidS_raw:rF laws_szSaidS:=fun D L (a0,a1)=>
 bif (decide ((IntKind.wrap .i64 (a1 - (a0.length:Int)))<0))then(some (-1))
 else((laws_szSaidS_k0 L (a0,(IntKind.wrap .i64 (a1 - (a0.length:Int))),0)).bind fun z3=>
 elimS z3 (fun u4=>
 some u4)
 (fun z5=>
 some z5))
theorem laws_szSaidS_of:OfF laws_szSaidS laws_szSaidS_raw:=ofF 57
def spec_LogSeq_raw:rF spec_LogSeq:=fun D L (a0,a1,a2)=>
 (spec_LogOk D (a0,a1,a2)).bind fun r1=>
 bif (!r1)then(some 0)
 else(some (IntKind.wrap .i64 (a1+(a2.length:Int))))
theorem spec_LogSeq_of:OfF spec_LogSeq spec_LogSeq_raw:=ofF 59
def laws_toNodeS_l0:rL laws_toNodeS_k0:=fun D L (y0,y1,y2)=>
 bif (decide (y1<(y0.length:Int)))then(bif inb y1 y0.length then
 let e1:=(rd1 zNode y0 y1);
 (laws_toNode D e1).bind fun r2=>
 bif inb y1 y2.length then
 let l3:=List.set y2 (Int.toNat y1) r2;
 laws_toNodeS_k0 L (y0,(IntKind.wrap .i64 (y1+1)),l3)else none else none)
 else(some y2)
theorem laws_toNodeS_l0_of:OfL laws_toNodeS_k0 laws_toNodeS_l0:=ofL 60 0
def laws_toNodeS_raw:rF laws_toNodeS:=fun D L a0=>
 bif (decide ((0:Int)≤(a0.length:Int)∧((a0.length:Int):Int)=(a0.length:Int))&&fits (Int.toNat (a0.length:Int)) 296)then
 (laws_toNodeS_k0 L (a0,0,(List.replicate (Int.toNat (a0.length:Int)) (0,0,[],[],[],0,0,0,[],[],[],[],0,0,[],0,0,0,[])))).bind fun z4=>
 some z4 else none
theorem laws_toNodeS_of:OfF laws_toNodeS laws_toNodeS_raw:=ofF 60
def laws_toPackS_l0:rL laws_toPackS_k0:=fun D L (y0,y1,y2)=>
 bif (decide (y1<(y0.length:Int)))then(bif inb y1 y0.length then
 let e1:=(rd1 zPack y0 y1);
 (laws_toPack D e1).bind fun r2=>
 bif inb y1 y2.length then
 let l3:=List.set y2 (Int.toNat y1) r2;
 laws_toPackS_k0 L (y0,(IntKind.wrap .i64 (y1+1)),l3)else none else none)
 else(some y2)
theorem laws_toPackS_l0_of:OfL laws_toPackS_k0 laws_toPackS_l0:=ofL 61 0
def laws_toPackS_raw:rF laws_toPackS:=fun D L a0=>
 bif (decide ((0:Int)≤(a0.length:Int)∧((a0.length:Int):Int)=(a0.length:Int))&&fits (Int.toNat (a0.length:Int)) 40)then
 (laws_toPackS_k0 L (a0,0,(List.replicate (Int.toNat (a0.length:Int)) (0,[],false)))).bind fun z4=>
 some z4 else none
theorem laws_toPackS_of:OfF laws_toPackS laws_toPackS_raw:=ofF 61
def laws_toSaidS_l0:rL laws_toSaidS_k0:=fun D L (y0,y1,y2)=>
 bif (decide (y1<(y0.length:Int)))then(bif inb y1 y0.length then
 let e1:=(rd1 zSaid y0 y1);
 (laws_toSaid D e1).bind fun r2=>
 bif inb y1 y2.length then
 let l3:=List.set y2 (Int.toNat y1) r2;
 laws_toSaidS_k0 L (y0,(IntKind.wrap .i64 (y1+1)),l3)else none else none)
 else(some y2)
theorem laws_toSaidS_l0_of:OfL laws_toSaidS_k0 laws_toSaidS_l0:=ofL 62 0
def laws_toSaidS_raw:rF laws_toSaidS:=fun D L a0=>
 bif (decide ((0:Int)≤(a0.length:Int)∧((a0.length:Int):Int)=(a0.length:Int))&&fits (Int.toNat (a0.length:Int)) 56)then
 (laws_toSaidS_k0 L (a0,0,(List.replicate (Int.toNat (a0.length:Int)) (0,[],[])))).bind fun z4=>
 some z4 else none
theorem laws_toSaidS_of:OfF laws_toSaidS laws_toSaidS_raw:=ofF 62
def impl_WorldOk_l0:rL impl_WorldOk_k0:=fun D L (y0,y1,y2,y3,y4,y5)=>
 bif (decide (y2<y1))then(bif inb y2 y0.length then
 let e2:=(rd1 zNode y0 y2);
 (impl_NodeOk D e2).bind fun r3=>
 bif (!r3)then(some (Sum.inl false))
 else(bif (!decide (e2.2.1=(y3.length:Int)))then(some (Sum.inl false))
 else(bif (!decide (e2.1=y2))then(some (Sum.inl false))
 else(impl_WorldOk_k0 L (y0,y1,(IntKind.wrap .i64 (y2+1)),y3,y4,y5))))else none)
 else(some (Sum.inr (y3,y4,y5)))
theorem impl_WorldOk_l0_of:OfL impl_WorldOk_k0 impl_WorldOk_l0:=ofL 63 0
def impl_WorldOk_l2:rL impl_WorldOk_k2:=fun D L (y0,y1,y2,y3,y4,y5)=>
 bif (decide (y2<y1))then(bif inb y2 y0.length then
 let e7:=(rd1 zPack y0 y2);
 (impl_hasNode D (y3,y4,y5,e7.1)).bind fun r8=>
 bif (!r8)then(some (Sum.inl false))
 else(impl_WorldOk_k2 L (y0,y1,(IntKind.wrap .i64 (y2+1)),y3,y4,y5))else none)
 else(some (Sum.inr (y3,y4,y5)))
theorem impl_WorldOk_l2_of:OfL impl_WorldOk_k2 impl_WorldOk_l2:=ofL 63 2
def impl_WorldOk_l4:rL impl_WorldOk_k4:=fun D L (y0,y1,y2,y3,y4,y5)=>
 bif (decide (y2<y1))then(bif inb y2 y0.length then
 let e12:=(rd1 zSaid y0 y2);
 (impl_hasNode D (y3,y4,y5,e12.1)).bind fun r13=>
 bif (!r13)then(some (Sum.inl false))
 else((impl_StateOk D e12.2).bind fun r14=>
 bif (!r14)then(some (Sum.inl false))
 else(impl_WorldOk_k4 L (y0,y1,(IntKind.wrap .i64 (y2+1)),y3,y4,y5)))else none)
 else(some (Sum.inr ()))
theorem impl_WorldOk_l4_of:OfL impl_WorldOk_k4 impl_WorldOk_l4:=ofL 63 4
def impl_WorldOk_raw:rF impl_WorldOk:=fun D L (a0,a1,a2)=>
 (impl_within D ((a0.length:Int),1,5)).bind fun r1=>
 bif (!r1)then(some false)
 else(bif (decide (12<(a1.length:Int)))then(some false)
 else(bif (decide (40<(a2.length:Int)))then(some false)
 else((impl_WorldOk_k0 L (a0,(a0.length:Int),0,a0,a1,a2)).bind fun z4=>
 elimS z4 (fun u5=>
 some u5)
 (fun z6=>
 (impl_WorldOk_k2 L (z6.2.1,(z6.2.1.length:Int),0,z6)).bind fun z9=>
 elimS z9 (fun u10=>
 some u10)
 (fun z11=>
 (impl_WorldOk_k4 L (z11.2.2,(z11.2.2.length:Int),0,z11)).bind fun z15=>
 elimS z15 (fun u16=>
 some u16)
 (fun z17=>
 some true))))))
theorem impl_WorldOk_of:OfF impl_WorldOk impl_WorldOk_raw:=ofF 63
def impl_hasNode_raw:rF impl_hasNode:=fun D L (a0,a1,a2,a3)=>
 (impl_within D (a3,0,(IntKind.wrap .i64 ((a0.length:Int) - 1)))).bind fun r1=>
 some r1
theorem impl_hasNode_of:OfF impl_hasNode impl_hasNode_raw:=ofF 64
def impl_LogSeq_raw:rF impl_LogSeq:=fun D L (a0,a1,a2)=>
 (impl_LogOk D (a0,a1,a2)).bind fun r1=>
 bif (!r1)then(some 0)
 else(some (IntKind.wrap .i64 (a1+(a2.length:Int))))
theorem impl_LogSeq_of:OfF impl_LogSeq impl_LogSeq_raw:=ofF 65
def laws_eqNodeS_l0:rL laws_eqNodeS_k0:=fun D L (y0,y1,y2)=>
 bif (decide (y2<(y0.length:Int)))then(bif inb y2 y0.length then
 let e1:=(rd1 zNode y0 y2);
 bif inb y2 y1.length then
 let e2:=(rd1 zNode y1 y2);
 (laws_eqNode D (e1.1,e1.2.1,e1.2.2.1,e1.2.2.2.1,e1.2.2.2.2.1,e1.2.2.2.2.2.1,e1.2.2.2.2.2.2.1,e1.2.2.2.2.2.2.2.1,e1.2.2.2.2.2.2.2.2.1,e1.2.2.2.2.2.2.2.2.2.1,e1.2.2.2.2.2.2.2.2.2.2.1,e1.2.2.2.2.2.2.2.2.2.2.2.1,e1.2.2.2.2.2.2.2.2.2.2.2.2.1,e1.2.2.2.2.2.2.2.2.2.2.2.2.2.1,e1.2.2.2.2.2.2.2.2.2.2.2.2.2.2.1,e1.2.2.2.2.2.2.2.2.2.2.2.2.2.2.2.1,e1.2.2.2.2.2.2.2.2.2.2.2.2.2.2.2.2.1,e1.2.2.2.2.2.2.2.2.2.2.2.2.2.2.2.2.2.1,e1.2.2.2.2.2.2.2.2.2.2.2.2.2.2.2.2.2.2,e2)).bind fun r3=>
 bif (!r3)then(some (Sum.inl false))
 else(laws_eqNodeS_k0 L (y0,y1,(IntKind.wrap .i64 (y2+1))))else none else none)
 else(some (Sum.inr ()))
theorem laws_eqNodeS_l0_of:OfL laws_eqNodeS_k0 laws_eqNodeS_l0:=ofL 66 0
def laws_eqNodeS_raw:rF laws_eqNodeS:=fun D L (a0,a1)=>
 bif (!decide ((a0.length:Int)=(a1.length:Int)))then(some false)
 else((laws_eqNodeS_k0 L (a0,a1,0)).bind fun z4=>
 elimS z4 (fun u5=>
 some u5)
 (fun z6=>
 some true))
theorem laws_eqNodeS_of:OfF laws_eqNodeS laws_eqNodeS_raw:=ofF 66
def laws_eqPackS_l0:rL laws_eqPackS_k0:=fun D L (y0,y1,y2)=>
 bif (decide (y2<(y0.length:Int)))then(bif inb y2 y0.length then
 let e1:=(rd1 zPack y0 y2);
 bif inb y2 y1.length then
 let e2:=(rd1 zPack y1 y2);
 (laws_eqPack D (e1.1,e1.2.1,e1.2.2,e2)).bind fun r3=>
 bif (!r3)then(some (Sum.inl false))
 else(laws_eqPackS_k0 L (y0,y1,(IntKind.wrap .i64 (y2+1))))else none else none)
 else(some (Sum.inr ()))
theorem laws_eqPackS_l0_of:OfL laws_eqPackS_k0 laws_eqPackS_l0:=ofL 67 0
def laws_eqPackS_raw:rF laws_eqPackS:=fun D L (a0,a1)=>
 bif (!decide ((a0.length:Int)=(a1.length:Int)))then(some false)
 else((laws_eqPackS_k0 L (a0,a1,0)).bind fun z4=>
 elimS z4 (fun u5=>
 some u5)
 (fun z6=>
 some true))
theorem laws_eqPackS_of:OfF laws_eqPackS laws_eqPackS_raw:=ofF 67
def laws_eqSaidS_l0:rL laws_eqSaidS_k0:=fun D L (y0,y1,y2)=>
 bif (decide (y2<(y0.length:Int)))then(bif inb y2 y0.length then
 let e1:=(rd1 zSaid y0 y2);
 bif inb y2 y1.length then
 let e2:=(rd1 zSaid y1 y2);
 (laws_eqSaid D (e1.1,e1.2.1,e1.2.2,e2)).bind fun r3=>
 bif (!r3)then(some (Sum.inl false))
 else(laws_eqSaidS_k0 L (y0,y1,(IntKind.wrap .i64 (y2+1))))else none else none)
 else(some (Sum.inr ()))
theorem laws_eqSaidS_l0_of:OfL laws_eqSaidS_k0 laws_eqSaidS_l0:=ofL 68 0
def laws_eqSaidS_raw:rF laws_eqSaidS:=fun D L (a0,a1)=>
 bif (!decide ((a0.length:Int)=(a1.length:Int)))then(some false)
 else((laws_eqSaidS_k0 L (a0,a1,0)).bind fun z4=>
 elimS z4 (fun u5=>
 some u5)
 (fun z6=>
 some true))
theorem laws_eqSaidS_of:OfF laws_eqSaidS laws_eqSaidS_raw:=ofF 68
end
end Go.Proofs.YtjenicbpdklpbaaGreat.M
