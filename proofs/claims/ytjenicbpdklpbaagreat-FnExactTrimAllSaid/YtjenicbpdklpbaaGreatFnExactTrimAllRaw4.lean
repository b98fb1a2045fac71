/- Plain forms of the functions that FnExactTrimAll reaches, part 4. No conditions. -/
import Derived.Test.YtjenicbpdklpbaaGreatFnExactTrimAllTab
set_option linter.all false
namespace Go.Proofs.YtjenicbpdklpbaaGreat.M
open Go Go.Eng Go.Proofs
set_option linter.unusedVariables false
noncomputable section
def laws_eqFloorS_l0:rL laws_eqFloorS_k0:=fun D L (y0,y1,y2)=>
 bif (decide (y2<(y0.length:Int)))then(bif inb y2 y0.length then
 let e1:=(rd1 zFloor y0 y2);
 bif inb y2 y1.length then
 let e2:=(rd1 zFloor y1 y2);
 (laws_eqFloor D (e1.1,e1.2,e2)).bind fun r3=>
 bif (!r3)then(some (Sum.inl false))
 else(laws_eqFloorS_k0 L (y0,y1,(IntKind.wrap .i64 (y2+1))))else none else none)
 else(some (Sum.inr ()))
theorem laws_eqFloorS_l0_of:OfL laws_eqFloorS_k0 laws_eqFloorS_l0:=ofL 176 0
def laws_eqFloorS_raw:rF laws_eqFloorS:=fun D L (a0,a1)=>
 bif (!decide ((a0.length:Int)=(a1.length:Int)))then(some false)
 else((laws_eqFloorS_k0 L (a0,a1,0)).bind fun z4=>
 elimS z4 (fun u5=>
 some u5)
 (fun z6=>
 some true))
theorem laws_eqFloorS_of:OfF laws_eqFloorS laws_eqFloorS_raw:=ofF 176
def laws_eqStateS_l0:rL laws_eqStateS_k0:=fun D L (y0,y1,y2)=>
 bif (decide (y2<(y0.length:Int)))then(bif inb y2 y0.length then
 let e1:=(rd1 zState y0 y2);
 bif inb y2 y1.length then
 let e2:=(rd1 zState y1 y2);
 (laws_eqState D (e1.1,e1.2,e2)).bind fun r3=>
 bif (!r3)then(some (Sum.inl false))
 else(laws_eqStateS_k0 L (y0,y1,(IntKind.wrap .i64 (y2+1))))else none else none)
 else(some (Sum.inr ()))
theorem laws_eqStateS_l0_of:OfL laws_eqStateS_k0 laws_eqStateS_l0:=ofL 177 0
def laws_eqStateS_raw:rF laws_eqStateS:=fun D L (a0,a1)=>
 bif (!decide ((a0.length:Int)=(a1.length:Int)))then(some false)
 else((laws_eqStateS_k0 L (a0,a1,0)).bind fun z4=>
 elimS z4 (fun u5=>
 some u5)
 (fun z6=>
 some true))
theorem laws_eqStateS_of:OfF laws_eqStateS laws_eqStateS_raw:=ofF 177
def laws_eqSess_raw:rF laws_eqSess:=fun D L (a0,a1,a2,a3,a4,a5,a6,a7)=>
 bif (!decide (a0=a4))then(some false)
 else(bif (!decide (a1=a5))then(some false)
 else(bif (!(a2==a6))then(some false)
 else(bif (!decide (a3=a7))then(some false)
 else(some true))))
theorem laws_eqSess_of:OfF laws_eqSess laws_eqSess_raw:=ofF 178
def laws_eqRise_raw:rF laws_eqRise:=fun D L (a0,a1,a2,a3,a4,a5)=>
 bif (!decide (a0=a3))then(some false)
 else(bif (!decide (a1=a4))then(some false)
 else(bif (!decide (a2=a5))then(some false)
 else(some true)))
theorem laws_eqRise_of:OfF laws_eqRise laws_eqRise_raw:=ofF 179
def laws_markFloorS_l0:rL laws_markFloorS_k0:=fun D L (y0,y1,y2)=>
 bif (decide (y1<(y2.length:Int)))then(bif inb y1 y2.length then
 let e1:=(rd1 zFloor y2 y1);
 let l2:=List.set y2 (Int.toNat y1) (y0,e1.2);
 bif inb y1 l2.length then
 let e3:=(rd1 zFloor l2 y1);
 let l4:=List.set l2 (Int.toNat y1) (e3.1,(IntKind.wrap .i64 (y0+1)));
 laws_markFloorS_k0 L ((IntKind.wrap .i64 ((IntKind.wrap .i64 (y0+1))+1)),(IntKind.wrap .i64 (y1+1)),l4)else none else none)
 else(some (y0,y2))
theorem laws_markFloorS_l0_of:OfL laws_markFloorS_k0 laws_markFloorS_l0:=ofL 180 0
def laws_markFloorS_raw:rF laws_markFloorS:=fun D L (a0,a1)=>
 (laws_markFloorS_k0 L (a1,0,a0)).bind fun z5=>
 some z5
theorem laws_markFloorS_of:OfF laws_markFloorS laws_markFloorS_raw:=ofF 180
def laws_markStateS_l0:rL laws_markStateS_k0:=fun D L (y0,y1,y2)=>
 bif (decide (y1<(y2.length:Int)))then(bif inb y1 y2.length then
 let e1:=(rd1 zState y2 y1);
 (laws_markItemS D ((rd1 zState y2 y1).1,y0)).bind fun r2=>
 let e3:=(rd1 zState y2 y1);
 let l4:=List.set y2 (Int.toNat y1) (r2.2,e3.2);
 bif inb y1 l4.length then
 let e5:=(rd1 zState l4 y1);
 (laws_markFloorS D ((rd1 zState l4 y1).2,r2.1)).bind fun r6=>
 let e7:=(rd1 zState l4 y1);
 let l8:=List.set l4 (Int.toNat y1) (e7.1,r6.2);
 laws_markStateS_k0 L (r6.1,(IntKind.wrap .i64 (y1+1)),l8)else none else none)
 else(some (y0,y2))
theorem laws_markStateS_l0_of:OfL laws_markStateS_k0 laws_markStateS_l0:=ofL 181 0
def laws_markStateS_raw:rF laws_markStateS:=fun D L (a0,a1)=>
 (laws_markStateS_k0 L (a1,0,a0)).bind fun z9=>
 some z9
theorem laws_markStateS_of:OfF laws_markStateS laws_markStateS_raw:=ofF 181
def laws_heldFloorS_l0:rL laws_heldFloorS_k0:=fun D L (y0,y1,y2)=>
 bif (decide (y2<(y0.length:Int)))then(bif inb y2 y0.length then
 let e1:=(rd1 zFloor y0 y2);
 bif (!decide (e1.1=y1))then(some (Sum.inl (-1)))
 else(bif inb y2 y0.length then
 let e2:=(rd1 zFloor y0 y2);
 bif (!decide (e2.2=(IntKind.wrap .i64 (y1+1))))then(some (Sum.inl (-1)))
 else(laws_heldFloorS_k0 L (y0,(IntKind.wrap .i64 ((IntKind.wrap .i64 (y1+1))+1)),(IntKind.wrap .i64 (y2+1))))else none)else none)
 else(some (Sum.inr y1))
theorem laws_heldFloorS_l0_of:OfL laws_heldFloorS_k0 laws_heldFloorS_l0:=ofL 182 0
def laws_heldFloorS_raw:rF laws_heldFloorS:=fun D L (a0,a1)=>
 (laws_heldFloorS_k0 L (a0,a1,0)).bind fun z3=>
 elimS z3 (fun u4=>
 some u4)
 (fun z5=>
 some z5)
theorem laws_heldFloorS_of:OfF laws_heldFloorS laws_heldFloorS_raw:=ofF 182
def laws_heldStateS_l0:rL laws_heldStateS_k0:=fun D L (y0,y1,y2)=>
 bif (decide (y2<(y0.length:Int)))then(bif inb y2 y0.length then
 let e1:=(rd1 zState y0 y2);
 (laws_heldItemS D (e1.1,y1)).bind fun r2=>
 bif (decide (r2<0))then(some (Sum.inl (-1)))
 else(bif inb y2 y0.length then
 let e3:=(rd1 zState y0 y2);
 (laws_heldFloorS D (e3.2,r2)).bind fun r4=>
 bif (decide (r4<0))then(some (Sum.inl (-1)))
 else(laws_heldStateS_k0 L (y0,r4,(IntKind.wrap .i64 (y2+1))))else none)else none)
 else(some (Sum.inr y1))
theorem laws_heldStateS_l0_of:OfL laws_heldStateS_k0 laws_heldStateS_l0:=ofL 183 0
def laws_heldStateS_raw:rF laws_heldStateS:=fun D L (a0,a1)=>
 (laws_heldStateS_k0 L (a0,a1,0)).bind fun z5=>
 elimS z5 (fun u6=>
 some u6)
 (fun z7=>
 some z7)
theorem laws_heldStateS_of:OfF laws_heldStateS laws_heldStateS_raw:=ofF 183
def laws_eqEntry_raw:rF laws_eqEntry:=fun D L (a0,a1,a2,a3,a4,a5,a6,a7,a8,a9)=>
 bif (!decide (a0=a5))then(some false)
 else(bif (!decide (a1=a6))then(some false)
 else(bif (!decide (a2=a7))then(some false)
 else(bif (!decide (a3=a8))then(some false)
 else(bif (!beqS a4 a9)then(some false)
 else(some true)))))
theorem laws_eqEntry_of:OfF laws_eqEntry laws_eqEntry_raw:=ofF 184
def laws_markByteS_l0:rL laws_markByteS_k0:=fun D L (y0,y1,y2)=>
 bif (decide (y1<(y2.length:Int)))then(bif inb y1 y2.length then
 let l1:=List.set y2 (Int.toNat y1) (IntKind.wrap .u8 y0);
 laws_markByteS_k0 L ((IntKind.wrap .i64 (y0+1)),(IntKind.wrap .i64 (y1+1)),l1)else none)
 else(some (y0,y2))
theorem laws_markByteS_l0_of:OfL laws_markByteS_k0 laws_markByteS_l0:=ofL 185 0
def laws_markByteS_raw:rF laws_markByteS:=fun D L (a0,a1)=>
 (laws_markByteS_k0 L (a1,0,a0)).bind fun z2=>
 some z2
theorem laws_markByteS_of:OfF laws_markByteS laws_markByteS_raw:=ofF 185
def spec_l15Pack_raw:rF spec_l15Pack:=fun D L (a0,a1,a2)=>
 bif fits (List.length ([]:List Int)+a1.length) 1 then
 some (a0,(([]:List Int)++a1),a2)else none
theorem spec_l15Pack_of:OfF spec_l15Pack spec_l15Pack_raw:=ofF 203
def impl_copyPack_raw:rF impl_copyPack:=fun D L (a0,a1,a2)=>
 (impl_joined D [a1]).bind fun r1=>
 some (a0,r1,a2)
theorem impl_copyPack_of:OfF impl_copyPack impl_copyPack_raw:=ofF 204
def laws_heldByteS_l0:rL laws_heldByteS_k0:=fun D L (y0,y1,y2)=>
 bif (decide (y2<(y0.length:Int)))then(bif inb y2 y0.length then
 bif (!decide ((rd1 (0:Int) y0 y2)=(IntKind.wrap .u8 y1)))then(some (Sum.inl (-1)))
 else(laws_heldByteS_k0 L (y0,(IntKind.wrap .i64 (y1+1)),(IntKind.wrap .i64 (y2+1))))else none)
 else(some (Sum.inr y1))
theorem laws_heldByteS_l0_of:OfL laws_heldByteS_k0 laws_heldByteS_l0:=ofL 205 0
def laws_heldByteS_raw:rF laws_heldByteS:=fun D L (a0,a1)=>
 (laws_heldByteS_k0 L (a0,a1,0)).bind fun z1=>
 elimS z1 (fun u2=>
 some u2)
 (fun z3=>
 some z3)
theorem laws_heldByteS_of:OfF laws_heldByteS laws_heldByteS_raw:=ofF 205
def laws_szByteS_raw:rF laws_szByteS:=fun D L (a0,a1)=>
 bif (decide ((IntKind.wrap .i64 (a1 - (a0.length:Int)))<0))then(some (-1))
 else(some (IntKind.wrap .i64 (a1 - (a0.length:Int))))
theorem laws_szByteS_of:OfF laws_szByteS laws_szByteS_raw:=ofF 216
def laws_toByteS_l0:rL laws_toByteS_k0:=fun D L (y0,y1,y2)=>
 bif (decide (y1<(y0.length:Int)))then(bif inb y1 y0.length then
 bif inb y1 y2.length then
 let l1:=List.set y2 (Int.toNat y1) (rd1 (0:Int) y0 y1);
 laws_toByteS_k0 L (y0,(IntKind.wrap .i64 (y1+1)),l1)else none else none)
 else(some y2)
theorem laws_toByteS_l0_of:OfL laws_toByteS_k0 laws_toByteS_l0:=ofL 217 0
def laws_toByteS_raw:rF laws_toByteS:=fun D L a0=>
 bif (decide ((0:Int)≤(a0.length:Int)∧((a0.length:Int):Int)=(a0.length:Int))&&fits (Int.toNat (a0.length:Int)) 1)then
 (laws_toByteS_k0 L (a0,0,(List.replicate (Int.toNat (a0.length:Int)) 0))).bind fun z2=>
 some z2 else none
theorem laws_toByteS_of:OfF laws_toByteS laws_toByteS_raw:=ofF 217
def impl_isNode_raw:rF impl_isNode:=fun D L a0=>
 (impl_within D (a0,0,4)).bind fun r1=>
 some r1
theorem impl_isNode_of:OfF impl_isNode impl_isNode_raw:=ofF 218
def impl_EntryOk_raw:rF impl_EntryOk:=fun D L (a0,a1,a2,a3,a4)=>
 (impl_within D (a0,1,1000)).bind fun r1=>
 bif r1 then((impl_within D (a1,0,1)).bind fun r2=>
 bif r2 then((impl_within D (a2,0,100000)).bind fun r3=>
 bif r3 then((impl_within D (a3,0,1000)).bind fun r4=>
 bif r4 then(some (decide (((ByteArray.size a4):Int)≤8)))
 else(some false))
 else(some false))
 else(some false))
 else(some false)
theorem impl_EntryOk_of:OfF impl_EntryOk impl_EntryOk_raw:=ofF 219
def impl_FloorOf_l0:rL impl_FloorOf_k0:=fun D L (y0,y1,y2,y3)=>
 bif (decide (y3<y2))then(bif inb y3 y1.length then
 let e1:=(rd1 zFloor y1 y3);
 bif (decide (e1.1=y0))then(some (Sum.inl e1.2))
 else(impl_FloorOf_k0 L (y0,y1,y2,(IntKind.wrap .i64 (y3+1))))else none)
 else(some (Sum.inr ()))
theorem impl_FloorOf_l0_of:OfL impl_FloorOf_k0 impl_FloorOf_l0:=ofL 220 0
def impl_FloorOf_raw:rF impl_FloorOf:=fun D L (a0,a1,a2)=>
 (impl_FloorOf_k0 L (a2,a1,(a1.length:Int),0)).bind fun z2=>
 elimS z2 (fun u3=>
 some u3)
 (fun z4=>
 some 0)
theorem impl_FloorOf_of:OfF impl_FloorOf impl_FloorOf_raw:=ofF 220
def laws_eqByteS_l0:rL laws_eqByteS_k0:=fun D L (y0,y1,y2)=>
 bif (decide (y2<(y0.length:Int)))then(bif inb y2 y0.length then
 bif inb y2 y1.length then
 bif (!decide ((rd1 (0:Int) y0 y2)=(rd1 (0:Int) y1 y2)))then(some (Sum.inl false))
 else(laws_eqByteS_k0 L (y0,y1,(IntKind.wrap .i64 (y2+1))))else none else none)
 else(some (Sum.inr ()))
theorem laws_eqByteS_l0_of:OfL laws_eqByteS_k0 laws_eqByteS_l0:=ofL 221 0
def laws_eqByteS_raw:rF laws_eqByteS:=fun D L (a0,a1)=>
 bif (!decide ((a0.length:Int)=(a1.length:Int)))then(some false)
 else((laws_eqByteS_k0 L (a0,a1,0)).bind fun z1=>
 elimS z1 (fun u2=>
 some u2)
 (fun z3=>
 some true))
theorem laws_eqByteS_of:OfF laws_eqByteS laws_eqByteS_raw:=ofF 221
def spec_l3Node_raw:rF spec_l3Node:=fun D L a0=>
 (spec_l1In D (a0,0,4)).bind fun r1=>
 some r1
theorem spec_l3Node_of:OfF spec_l3Node spec_l3Node_raw:=ofF 222
def spec_EntryOk_raw:rF spec_EntryOk:=fun D L (a0,a1,a2,a3,a4)=>
 (spec_l1In D (a0,1,1000)).bind fun r1=>
 bif r1 then((spec_l1In D (a1,0,1)).bind fun r2=>
 bif r2 then((spec_l1In D (a2,0,100000)).bind fun r3=>
 bif r3 then((spec_l1In D (a3,0,1000)).bind fun r4=>
 bif r4 then(some (decide (((ByteArray.size a4):Int)≤8)))
 else(some false))
 else(some false))
 else(some false))
 else(some false)
theorem spec_EntryOk_of:OfF spec_EntryOk spec_EntryOk_raw:=ofF 223
def spec_FloorOf_l0:rL spec_FloorOf_k0:=fun D L (y0,y1,y2,y3)=>
 bif (decide (y1<(y3.length:Int)))then(bif inb y1 y3.length then
 let e1:=(rd1 zFloor y3 y1);
 bif (decide (e1.1=y0))then(bif inb y1 y3.length then
 let e2:=(rd1 zFloor y3 y1);
 some (Sum.inl e2.2)else none)
 else(spec_FloorOf_k0 L (y0,(IntKind.wrap .i64 (y1+1)),y2,y3))else none)
 else(some (Sum.inr ()))
theorem spec_FloorOf_l0_of:OfL spec_FloorOf_k0 spec_FloorOf_l0:=ofL 224 0
def spec_FloorOf_raw:rF spec_FloorOf:=fun D L (a0,a1,a2)=>
 (spec_FloorOf_k0 L (a2,0,a0,a1)).bind fun z3=>
 elimS z3 (fun u4=>
 some u4)
 (fun z5=>
 some 0)
theorem spec_FloorOf_of:OfF spec_FloorOf spec_FloorOf_raw:=ofF 224
def laws_szItem_raw:rF laws_szItem:=fun D L (a0,a1,a2,a3,a4,a5,a6)=>
 (laws_szEntry D (a1,a2,a3,a4,a5,a6)).bind fun r1=>
 bif (decide (r1<0))then(some (-1))
 else(some r1)
theorem laws_szItem_of:OfF laws_szItem laws_szItem_raw:=ofF 225
def spec_l1Same_l0:rL spec_l1Same_k0:=fun D L (y0,y1,y2)=>
 bif (decide (y2<(y0.length:Int)))then(bif inb y2 y0.length then
 bif inb y2 y1.length then
 bif (!decide ((rd1 (0:Int) y0 y2)=(rd1 (0:Int) y1 y2)))then(some (Sum.inl false))
 else(spec_l1Same_k0 L (y0,y1,(IntKind.wrap .i64 (y2+1))))else none else none)
 else(some (Sum.inr ()))
theorem spec_l1Same_l0_of:OfL spec_l1Same_k0 spec_l1Same_l0:=ofL 226 0
def spec_l1Same_raw:rF spec_l1Same:=fun D L (a0,a1)=>
 bif (!decide ((a0.length:Int)=(a1.length:Int)))then(some false)
 else((spec_l1Same_k0 L (a0,a1,0)).bind fun z1=>
 elimS z1 (fun u2=>
 some u2)
 (fun z3=>
 some true))
theorem spec_l1Same_of:OfF spec_l1Same spec_l1Same_raw:=ofF 226
def spec_LeafSum_raw:rF spec_LeafSum:=fun D L (a0,a1,a2)=>
 (spec_StateOk D (a0,a1)).bind fun r1=>
 bif (!r1)then(some 0)
 else((spec_l1In D (a2,0,3)).bind fun r2=>
 bif (!r2)then(some 0)
 else((spec_l6Slice D (a0,a1,[a2])).bind fun r3=>
 (spec_l6Bytes D r3).bind fun r4=>
 (spec_Crc D r4).bind fun r5=>
 bif decide ((1024:Int)≠0)then
 some (Int.tmod r5 1024)else none))
theorem spec_LeafSum_of:OfF spec_LeafSum spec_LeafSum_raw:=ofF 227
def spec_l6Root_l0:rL spec_l6Root_k0:=fun D L (y0,y1,y2)=>
 bif (decide (y1<(y0.length:Int)))then(bif inb y1 y0.length then
 (spec_PutNum D (rd1 (0:Int) y0 y1)).bind fun r1=>
 bif fits (y2.length+r1.length) 1 then
 spec_l6Root_k0 L (y0,(IntKind.wrap .i64 (y1+1)),(y2++r1))else none else none)
 else(some y2)
theorem spec_l6Root_l0_of:OfL spec_l6Root_k0 spec_l6Root_l0:=ofL 228 0
def spec_l6Root_raw:rF spec_l6Root:=fun D L a0=>
 (spec_l6Root_k0 L (a0,0,[])).bind fun z2=>
 (spec_Crc D z2).bind fun r3=>
 bif decide ((1024:Int)≠0)then
 some (Int.tmod r3 1024)else none
theorem spec_l6Root_of:OfF spec_l6Root spec_l6Root_raw:=ofF 228
def laws_toItem_raw:rF laws_toItem:=fun D L (a0,a1,a2,a3,a4,a5)=>
 (laws_toEntry D (a1,a2,a3,a4,a5)).bind fun r1=>
 some (a0,r1)
theorem laws_toItem_of:OfF laws_toItem laws_toItem_raw:=ofF 229
def laws_toFloor_raw:rF laws_toFloor:=fun D L (a0,a1)=>
 some (a0,a1)
theorem laws_toFloor_of:OfF laws_toFloor laws_toFloor_raw:=ofF 230
def slices_Equalint_int_l0:rL slices_Equalint_int_k0:=fun D L (y0,y1,y2,y3)=>
 bif (decide (y3<y2))then(bif inb y3 y0.length then
 bif inb y3 y1.length then
 bif (!decide ((rd1 (0:Int) y0 y3)=(rd1 (0:Int) y1 y3)))then(some (Sum.inl false))
 else(slices_Equalint_int_k0 L (y0,y1,y2,(IntKind.wrap .i64 (y3+1))))else none else none)
 else(some (Sum.inr ()))
theorem slices_Equalint_int_l0_of:OfL slices_Equalint_int_k0 slices_Equalint_int_l0:=ofL 231 0
def slices_Equalint_int_raw:rF slices_Equalint_int:=fun D L (a0,a1)=>
 bif (!decide ((a0.length:Int)=(a1.length:Int)))then(some false)
 else((slices_Equalint_int_k0 L (a0,a1,(a0.length:Int),0)).bind fun z1=>
 elimS z1 (fun u2=>
 some u2)
 (fun z3=>
 some true))
theorem slices_Equalint_int_of:OfF slices_Equalint_int slices_Equalint_int_raw:=ofF 231
def impl_LeafSum_raw:rF impl_LeafSum:=fun D L (a0,a1,a2)=>
 (impl_StateOk D (a0,a1)).bind fun r1=>
 bif (!r1)then(some 0)
 else((impl_within D (a2,0,3)).bind fun r2=>
 bif (!r2)then(some 0)
 else((impl_Slice D (a0,a1,[a2])).bind fun r3=>
 (impl_StateBytes D r3).bind fun r4=>
 (impl_Crc D r4).bind fun r5=>
 bif decide ((1024:Int)≠0)then
 some (Int.tmod r5 1024)else none))
theorem impl_LeafSum_of:OfF impl_LeafSum impl_LeafSum_raw:=ofF 232
def impl_rootOf_l0:rL impl_rootOf_k0:=fun D L (y0,y1,y2,y3)=>
 bif (decide (y2<y1))then(bif inb y2 y0.length then
 (impl_PutNum D (rd1 (0:Int) y0 y2)).bind fun r1=>
 (impl_joined D [y3,r1]).bind fun r2=>
 impl_rootOf_k0 L (y0,y1,(IntKind.wrap .i64 (y2+1)),r2)else none)
 else(some y3)
theorem impl_rootOf_l0_of:OfL impl_rootOf_k0 impl_rootOf_l0:=ofL 233 0
def impl_rootOf_raw:rF impl_rootOf:=fun D L a0=>
 (impl_rootOf_k0 L (a0,(a0.length:Int),0,[])).bind fun z3=>
 (impl_Crc D z3).bind fun r4=>
 bif decide ((1024:Int)≠0)then
 some (Int.tmod r4 1024)else none
theorem impl_rootOf_of:OfF impl_rootOf impl_rootOf_raw:=ofF 233
def impl_isPeer_raw:rF impl_isPeer:=fun D L (a0,a1,a2,a3,a4,a5,a6,a7,a8,a9,a10,a11,a12,a13,a14,a15,a16,a17,a18,a19)=>
 (impl_within D (a19,0,(IntKind.wrap .i64 (a1 - 1)))).bind fun r1=>
 bif r1 then(some (!decide (a19=a0)))
 else(some false)
theorem impl_isPeer_of:OfF impl_isPeer impl_isPeer_raw:=ofF 234
def impl_Slot_l0:rL impl_Slot_k0:=fun D L (y0,y1,y2,y3,y4)=>
 bif (decide (y4<y3))then(bif inb y4 y2.length then
 let e1:=(rd1 zSess y2 y4);
 bif (decide (e1.1=y0))then(bif (e1.2.2.1==y1)then(some (Sum.inl y4))
 else(impl_Slot_k0 L (y0,y1,y2,y3,(IntKind.wrap .i64 (y4+1)))))
 else(impl_Slot_k0 L (y0,y1,y2,y3,(IntKind.wrap .i64 (y4+1))))else none)
 else(some (Sum.inr ()))
theorem impl_Slot_l0_of:OfL impl_Slot_k0 impl_Slot_l0:=ofL 235 0
def impl_Slot_raw:rF impl_Slot:=fun D L (a0,a1,a2,a3,a4,a5,a6,a7,a8,a9,a10,a11,a12,a13,a14,a15,a16,a17,a18,a19,a20)=>
 (impl_Slot_k0 L (a19,a20,a14,(a14.length:Int),0)).bind fun z2=>
 elimS z2 (fun u3=>
 some u3)
 (fun z4=>
 some (-1))
theorem impl_Slot_of:OfF impl_Slot impl_Slot_raw:=ofF 235
def laws_eqFloor_raw:rF laws_eqFloor:=fun D L (a0,a1,a2,a3)=>
 bif (!decide (a0=a2))then(some false)
 else(bif (!decide (a1=a3))then(some false)
 else(some true))
theorem laws_eqFloor_of:OfF laws_eqFloor laws_eqFloor_raw:=ofF 236
def spec_Crc_l0:rL spec_Crc_k0:=fun D L (y0,y1,y2)=>
 bif (decide (y2<(y0.length:Int)))then(bif inb y2 y0.length then
 (spec_Crc_k2 L (y0,(bits .xor .i64 y1 (IntKind.wrap .i64 (rd1 (0:Int) y0 y2))),y2,0)).bind fun z1=>
 spec_Crc_k0 L (z1.1,z1.2.1,(IntKind.wrap .i64 (z1.2.2+1)))else none)
 else(some y1)
theorem spec_Crc_l0_of:OfL spec_Crc_k0 spec_Crc_l0:=ofL 239 0
def spec_Crc_l2:rL spec_Crc_k2:=fun D L (y0,y1,y2,y3)=>
 bif (decide (y3<8))then(bif decide ((2:Int)≠0)then
 bif decide ((2:Int)≠0)then
 bif (decide ((Int.tmod y1 2)=1))then(spec_Crc_k2 L (y0,(bits .xor .i64 (IntKind.wrap .i64 (Int.tdiv y1 2)) 3988292384),y2,(IntKind.wrap .i64 (y3+1))))
 else(spec_Crc_k2 L (y0,(IntKind.wrap .i64 (Int.tdiv y1 2)),y2,(IntKind.wrap .i64 (y3+1))))else none else none)
 else(some (y0,y1,y2))
theorem spec_Crc_l2_of:OfL spec_Crc_k2 spec_Crc_l2:=ofL 239 2
def spec_Crc_raw:rF spec_Crc:=fun D L a0=>
 (spec_Crc_k0 L (a0,4294967295,0)).bind fun z2=>
 some (bits .xor .i64 z2 4294967295)
theorem spec_Crc_of:OfF spec_Crc spec_Crc_raw:=ofF 239
def spec_l6Bytes_l0:rL spec_l6Bytes_k0:=fun D L (y0,y1,y2,y3)=>
 bif (decide (y0<(y1.length:Int)))then(bif inb y0 y1.length then
 let e2:=(rd1 zItem y1 y0);
 bif inb y0 y1.length then
 let e3:=(rd1 zItem y1 y0);
 (spec_l6Bytes_k2 L (y0,0,y1,y2,y3,e2.2.1,e2.2.2.1,e2.2.2.2.1,e2.2.2.2.2.1,e2.2.2.2.2.2,[e3.1,e2.2.1,e2.2.2.1,e2.2.2.2.1,e2.2.2.2.2.1])).bind fun z5=>
 (spec_PutText D z5.2.2.2.2.2.2.2.2).bind fun r6=>
 bif fits (z5.2.2.2.1.length+r6.length) 1 then
 spec_l6Bytes_k0 L ((IntKind.wrap .i64 (z5.1+1)),z5.2.1,z5.2.2.1,(z5.2.2.2.1++r6))else none else none else none)
 else(some (y1,y2,y3))
theorem spec_l6Bytes_l0_of:OfL spec_l6Bytes_k0 spec_l6Bytes_l0:=ofL 242 0
def spec_l6Bytes_l2:rL spec_l6Bytes_k2:=fun D L (y0,y1,y2,y3,y4,y5,y6,y7,y8,y9,y10)=>
 bif (decide (y1<(y10.length:Int)))then(bif inb y1 y10.length then
 (spec_PutNum D (rd1 (0:Int) y10 y1)).bind fun r4=>
 bif fits (y4.length+r4.length) 1 then
 spec_l6Bytes_k2 L (y0,(IntKind.wrap .i64 (y1+1)),y2,y3,(y4++r4),y5,y6,y7,y8,y9,y10)else none else none)
 else(some (y0,y2,y3,y4,y5,y6,y7,y8,y9))
theorem spec_l6Bytes_l2_of:OfL spec_l6Bytes_k2 spec_l6Bytes_l2:=ofL 242 2
def spec_l6Bytes_l4:rL spec_l6Bytes_k4:=fun D L (y0,y1,y2,y3)=>
 bif (decide (y0<(y2.length:Int)))then(bif inb y0 y2.length then
 let e9:=(rd1 zFloor y2 y0);
 (spec_PutNum D e9.1).bind fun r10=>
 bif fits (y3.length+r10.length) 1 then
 bif inb y0 y2.length then
 let e11:=(rd1 zFloor y2 y0);
 (spec_PutNum D e11.2).bind fun r12=>
 bif fits (List.length (y3++r10)+r12.length) 1 then
 spec_l6Bytes_k4 L ((IntKind.wrap .i64 (y0+1)),y1,y2,((y3++r10)++r12))else none else none else none else none)
 else(some y3)
theorem spec_l6Bytes_l4_of:OfL spec_l6Bytes_k4 spec_l6Bytes_l4:=ofL 242 4
def spec_l6Bytes_raw:rF spec_l6Bytes:=fun D L (a0,a1)=>
 (spec_PutNum D (a0.length:Int)).bind fun r1=>
 (spec_l6Bytes_k0 L (0,a0,a1,r1)).bind fun z7=>
 (spec_PutNum D (z7.2.1.length:Int)).bind fun r8=>
 bif fits (z7.2.2.length+r8.length) 1 then
 (spec_l6Bytes_k4 L (0,z7.1,z7.2.1,(z7.2.2++r8))).bind fun z13=>
 some z13 else none
theorem spec_l6Bytes_of:OfF spec_l6Bytes spec_l6Bytes_raw:=ofF 242
def impl_StateBytes_l0:rL impl_StateBytes_k0:=fun D L (y0,y1,y2,y3,y4,y5)=>
 bif (decide (y2<y1))then(bif inb y2 y0.length then
 let e3:=(rd1 zItem y0 y2);
 (impl_PutNum D e3.1).bind fun r4=>
 (impl_PutNum D e3.2.1).bind fun r5=>
 (impl_PutNum D e3.2.2.1).bind fun r6=>
 (impl_PutNum D e3.2.2.2.1).bind fun r7=>
 (impl_PutNum D e3.2.2.2.2.1).bind fun r8=>
 (impl_PutText D e3.2.2.2.2.2).bind fun r9=>
 (impl_joined D [y5,r4,r5,r6,r7,r8,r9]).bind fun r10=>
 impl_StateBytes_k0 L (y0,y1,(IntKind.wrap .i64 (y2+1)),y3,y4,r10)else none)
 else(some (y3,y4,y5))
theorem impl_StateBytes_l0_of:OfL impl_StateBytes_k0 impl_StateBytes_l0:=ofL 249 0
def impl_StateBytes_l2:rL impl_StateBytes_k2:=fun D L (y0,y1,y2,y3)=>
 bif (decide (y2<y1))then(bif inb y2 y0.length then
 let e14:=(rd1 zFloor y0 y2);
 (impl_PutNum D e14.1).bind fun r15=>
 (impl_PutNum D e14.2).bind fun r16=>
 (impl_joined D [y3,r15,r16]).bind fun r17=>
 impl_StateBytes_k2 L (y0,y1,(IntKind.wrap .i64 (y2+1)),r17)else none)
 else(some y3)
theorem impl_StateBytes_l2_of:OfL impl_StateBytes_k2 impl_StateBytes_l2:=ofL 249 2
def impl_StateBytes_raw:rF impl_StateBytes:=fun D L (a0,a1)=>
 (impl_StateOk D (a0,a1)).bind fun r1=>
 bif (!r1)then(some [])
 else((impl_PutNum D (a0.length:Int)).bind fun r2=>
 (impl_StateBytes_k0 L (a0,(a0.length:Int),0,a0,a1,r2)).bind fun z11=>
 (impl_PutNum D (z11.2.1.length:Int)).bind fun r12=>
 (impl_joined D [z11.2.2,r12]).bind fun r13=>
 (impl_StateBytes_k2 L (z11.2.1,(z11.2.1.length:Int),0,r13)).bind fun z18=>
 some z18)
theorem impl_StateBytes_of:OfF impl_StateBytes impl_StateBytes_raw:=ofF 249
def impl_joined_l0:rL impl_joined_k0:=fun D L (y0,y1,y2,y3)=>
 bif (decide (y2<y1))then(bif inb y2 y0.length then
 bif fits (y3.length+List.length (rd1 ([]:List Int) y0 y2)) 1 then
 impl_joined_k0 L (y0,y1,(IntKind.wrap .i64 (y2+1)),(y3++(rd1 ([]:List Int) y0 y2)))else none else none)
 else(some y3)
theorem impl_joined_l0_of:OfL impl_joined_k0 impl_joined_l0:=ofL 252 0
def impl_joined_raw:rF impl_joined:=fun D L a0=>
 (impl_joined_k0 L (a0,(a0.length:Int),0,[])).bind fun z1=>
 some z1
theorem impl_joined_of:OfF impl_joined impl_joined_raw:=ofF 252
def impl_PutNum_l0:rL impl_PutNum_k0:=fun D L (y0,y1)=>
 bif (decide (128≤y0))then(bif decide ((128:Int)≠0)then
 bif fits (y1.length+ [(IntKind.wrap .u8 (IntKind.wrap .i64 ((Int.tmod y0 128)+128)))].length) 1 then
 bif decide ((128:Int)≠0)then
 impl_PutNum_k0 L ((IntKind.wrap .i64 (Int.tdiv y0 128)),(y1++[(IntKind.wrap .u8 (IntKind.wrap .i64 ((Int.tmod y0 128)+128)))]))else none else none else none)
 else(some (y0,y1))
theorem impl_PutNum_l0_of:OfL impl_PutNum_k0 impl_PutNum_l0:=ofL 253 0
def impl_PutNum_raw:rF impl_PutNum:=fun D L a0=>
 (impl_within D (a0,0,2147483647)).bind fun r1=>
 bif (!r1)then(some [])
 else((impl_PutNum_k0 L (a0,[])).bind fun z2=>
 bif fits (z2.2.length+ [(IntKind.wrap .u8 z2.1)].length) 1 then
 some (z2.2++[(IntKind.wrap .u8 z2.1)])else none)
theorem impl_PutNum_of:OfF impl_PutNum impl_PutNum_raw:=ofF 253
def laws_szEntry_raw:rF laws_szEntry:=fun D L (a0,a1,a2,a3,a4,a5)=>
 bif (decide ((IntKind.wrap .i64 (a5 - ((ByteArray.size a4):Int)))<0))then(some (-1))
 else(some (IntKind.wrap .i64 (a5 - ((ByteArray.size a4):Int))))
theorem laws_szEntry_of:OfF laws_szEntry laws_szEntry_raw:=ofF 283
def spec_l6Slice_l0:rL spec_l6Slice_k0:=fun D L (y0,y1,y2,y3,y4,y5)=>
 bif (decide (y1<(y2.length:Int)))then(bif inb y1 y2.length then
 let e1:=(rd1 zItem y2 y1);
 (spec_LeafOf D e1.1).bind fun r2=>
 (spec_l1Has D (y0,r2)).bind fun r3=>
 bif r3 then(bif inb y1 y2.length then
 let e4:=(rd1 zItem y2 y1);
 bif fits (y4.length+ [e4].length) 56 then
 spec_l6Slice_k0 L (y0,(IntKind.wrap .i64 (y1+1)),y2,y3,(y4++[e4]),y5)else none else none)
 else(spec_l6Slice_k0 L (y0,(IntKind.wrap .i64 (y1+1)),y2,y3,y4,y5))else none)
 else(some (y0,y2,y3,y4,y5))
theorem spec_l6Slice_l0_of:OfL spec_l6Slice_k0 spec_l6Slice_l0:=ofL 284 0
def spec_l6Slice_l2:rL spec_l6Slice_k2:=fun D L (y0,y1,y2,y3,y4,y5)=>
 bif (decide (y1<(y3.length:Int)))then(bif inb y1 y3.length then
 let e6:=(rd1 zFloor y3 y1);
 (spec_LeafOf D e6.1).bind fun r7=>
 (spec_l1Has D (y0,r7)).bind fun r8=>
 bif r8 then(bif inb y1 y3.length then
 let e9:=(rd1 zFloor y3 y1);
 bif fits (y5.length+ [e9].length) 16 then
 spec_l6Slice_k2 L (y0,(IntKind.wrap .i64 (y1+1)),y2,y3,y4,(y5++[e9]))else none else none)
 else(spec_l6Slice_k2 L (y0,(IntKind.wrap .i64 (y1+1)),y2,y3,y4,y5))else none)
 else(some (y4,y5))
theorem spec_l6Slice_l2_of:OfL spec_l6Slice_k2 spec_l6Slice_l2:=ofL 284 2
def spec_l6Slice_raw:rF spec_l6Slice:=fun D L (a0,a1,a2)=>
 (spec_l6Slice_k0 L (a2,0,a0,a1,[],[])).bind fun z5=>
 (spec_l6Slice_k2 L (z5.1,0,z5.2)).bind fun z10=>
 some z10
theorem spec_l6Slice_of:OfF spec_l6Slice spec_l6Slice_raw:=ofF 284
end
end Go.Proofs.YtjenicbpdklpbaaGreat.M
