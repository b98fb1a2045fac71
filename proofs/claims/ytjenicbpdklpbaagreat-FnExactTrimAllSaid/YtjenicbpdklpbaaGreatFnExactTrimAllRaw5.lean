/- Plain forms of the functions that FnExactTrimAll reaches, part 5. No conditions. -/
import Derived.Test.YtjenicbpdklpbaaGreatFnExactTrimAllTab
set_option linter.all false
namespace Go.Proofs.YtjenicbpdklpbaaGreat.M
open Go Go.Eng Go.Proofs
set_option linter.unusedVariables false
noncomputable section
def spec_PutNum_l0:rL spec_PutNum_k0:=fun D L (y0,y1)=>
 bif (decide (127<y0))then(bif decide ((128:Int)≠0)then
 bif fits (y1.length+ [(IntKind.wrap .u8 (IntKind.wrap .i64 ((Int.tmod y0 128)+128)))].length) 1 then
 bif decide ((128:Int)≠0)then
 spec_PutNum_k0 L ((IntKind.wrap .i64 (Int.tdiv y0 128)),(y1++[(IntKind.wrap .u8 (IntKind.wrap .i64 ((Int.tmod y0 128)+128)))]))else none else none else none)
 else(some (y0,y1))
theorem spec_PutNum_l0_of:OfL spec_PutNum_k0 spec_PutNum_l0:=ofL 285 0
def spec_PutNum_raw:rF spec_PutNum:=fun D L a0=>
 (spec_l1In D (a0,0,2147483647)).bind fun r1=>
 bif (!r1)then(some [])
 else((spec_PutNum_k0 L (a0,[])).bind fun z2=>
 bif fits (z2.2.length+ [(IntKind.wrap .u8 z2.1)].length) 1 then
 some (z2.2++[(IntKind.wrap .u8 z2.1)])else none)
theorem spec_PutNum_of:OfF spec_PutNum spec_PutNum_raw:=ofF 285
def laws_toEntry_raw:rF laws_toEntry:=fun D L (a0,a1,a2,a3,a4)=>
 some (a0,a1,a2,a3,a4)
theorem laws_toEntry_of:OfF laws_toEntry laws_toEntry_raw:=ofF 286
def impl_Crc_l0:rL impl_Crc_k0:=fun D L (y0,y1,y2,y3)=>
 bif (decide (y3<y2))then(bif inb y3 y1.length then
 (impl_Crc_k2 L ((bits .xor .i64 y0 (IntKind.wrap .i64 (rd1 (0:Int) y1 y3))),y1,y2,y3,0)).bind fun z1=>
 impl_Crc_k0 L (z1.1,z1.2.1,z1.2.2.1,(IntKind.wrap .i64 (z1.2.2.2+1)))else none)
 else(some y0)
theorem impl_Crc_l0_of:OfL impl_Crc_k0 impl_Crc_l0:=ofL 287 0
def impl_Crc_l2:rL impl_Crc_k2:=fun D L (y0,y1,y2,y3,y4)=>
 bif (decide (y4<8))then(bif decide ((2:Int)≠0)then
 bif decide ((2:Int)≠0)then
 bif (decide ((Int.tmod y0 2)=1))then(impl_Crc_k2 L ((bits .xor .i64 (IntKind.wrap .i64 (Int.tdiv y0 2)) 3988292384),y1,y2,y3,(IntKind.wrap .i64 (y4+1))))
 else(impl_Crc_k2 L ((IntKind.wrap .i64 (Int.tdiv y0 2)),y1,y2,y3,(IntKind.wrap .i64 (y4+1))))else none else none)
 else(some (y0,y1,y2,y3))
theorem impl_Crc_l2_of:OfL impl_Crc_k2 impl_Crc_l2:=ofL 287 2
def impl_Crc_raw:rF impl_Crc:=fun D L a0=>
 (impl_Crc_k0 L (4294967295,a0,(a0.length:Int),0)).bind fun z2=>
 some (bits .xor .i64 z2 4294967295)
theorem impl_Crc_of:OfF impl_Crc impl_Crc_raw:=ofF 287
def impl_Slice_l0:rL impl_Slice_k0:=fun D L (y0,y1,y2,y3,y4,y5,y6,y7)=>
 bif (decide (y3<y2))then(bif inb y3 y1.length then
 let e2:=(rd1 zItem y1 y3);
 (impl_LeafOf D e2.1).bind fun r3=>
 (slices_Containsint_int D (y0,r3)).bind fun r4=>
 bif r4 then(bif fits (y6.length+ [e2].length) 56 then
 impl_Slice_k0 L (y0,y1,y2,(IntKind.wrap .i64 (y3+1)),y4,y5,(y6++[e2]),y7)else none)
 else(impl_Slice_k0 L (y0,y1,y2,(IntKind.wrap .i64 (y3+1)),y4,y5,y6,y7))else none)
 else(some (y0,y4,y5,y6,y7))
theorem impl_Slice_l0_of:OfL impl_Slice_k0 impl_Slice_l0:=ofL 288 0
def impl_Slice_l2:rL impl_Slice_k2:=fun D L (y0,y1,y2,y3,y4,y5)=>
 bif (decide (y3<y2))then(bif inb y3 y1.length then
 let e6:=(rd1 zFloor y1 y3);
 (impl_LeafOf D e6.1).bind fun r7=>
 (slices_Containsint_int D (y0,r7)).bind fun r8=>
 bif r8 then(bif fits (y5.length+ [e6].length) 16 then
 impl_Slice_k2 L (y0,y1,y2,(IntKind.wrap .i64 (y3+1)),y4,(y5++[e6]))else none)
 else(impl_Slice_k2 L (y0,y1,y2,(IntKind.wrap .i64 (y3+1)),y4,y5))else none)
 else(some (y4,y5))
theorem impl_Slice_l2_of:OfL impl_Slice_k2 impl_Slice_l2:=ofL 288 2
def impl_Slice_raw:rF impl_Slice:=fun D L (a0,a1,a2)=>
 (impl_StateOk D (a0,a1)).bind fun r1=>
 bif (!r1)then(some ([],[]))
 else((impl_Slice_k0 L (a2,a0,(a0.length:Int),0,a0,a1,[],[])).bind fun z5=>
 (impl_Slice_k2 L (z5.1,z5.2.2.1,(z5.2.2.1.length:Int),0,z5.2.2.2)).bind fun z9=>
 some z9)
theorem impl_Slice_of:OfF impl_Slice impl_Slice_raw:=ofF 288
def spec_PutText_raw:rF spec_PutText:=fun D L a0=>
 (spec_PutNum D ((ByteArray.size a0):Int)).bind fun r1=>
 bif fits (r1.length+List.length (ofBytes a0)) 1 then
 some (r1++(ofBytes a0))else none
theorem spec_PutText_of:OfF spec_PutText spec_PutText_raw:=ofF 294
def impl_PutText_raw:rF impl_PutText:=fun D L a0=>
 (impl_PutNum D ((ByteArray.size a0):Int)).bind fun r1=>
 (impl_joined D [r1,(ofBytes a0)]).bind fun r2=>
 some r2
theorem impl_PutText_of:OfF impl_PutText impl_PutText_raw:=ofF 297
def spec_l1Has_l0:rL spec_l1Has_k0:=fun D L (y0,y1,y2)=>
 bif (decide (y2<(y0.length:Int)))then(bif inb y2 y0.length then
 bif (decide ((rd1 (0:Int) y0 y2)=y1))then(some (Sum.inl true))
 else(spec_l1Has_k0 L (y0,y1,(IntKind.wrap .i64 (y2+1))))else none)
 else(some (Sum.inr ()))
theorem spec_l1Has_l0_of:OfL spec_l1Has_k0 spec_l1Has_l0:=ofL 315 0
def spec_l1Has_raw:rF spec_l1Has:=fun D L (a0,a1)=>
 (spec_l1Has_k0 L (a0,a1,0)).bind fun z1=>
 elimS z1 (fun u2=>
 some u2)
 (fun z3=>
 some false)
theorem spec_l1Has_of:OfF spec_l1Has spec_l1Has_raw:=ofF 315
def spec_LeafOf_raw:rF spec_LeafOf:=fun D L a0=>
 (spec_l3Node D a0).bind fun r1=>
 bif (!r1)then(some (-1))
 else((spec_PutNum D a0).bind fun r2=>
 (spec_Crc D r2).bind fun r3=>
 bif decide ((4:Int)≠0)then
 some (Int.tmod r3 4)else none)
theorem spec_LeafOf_of:OfF spec_LeafOf spec_LeafOf_raw:=ofF 316
def slices_Containsint_int_raw:rF slices_Containsint_int:=fun D L (a0,a1)=>
 (slices_Indexint_int D (a0,a1)).bind fun r1=>
 some (decide (0≤r1))
theorem slices_Containsint_int_of:OfF slices_Containsint_int slices_Containsint_int_raw:=ofF 317
def impl_LeafOf_raw:rF impl_LeafOf:=fun D L a0=>
 (impl_isNode D a0).bind fun r1=>
 bif (!r1)then(some (-1))
 else((impl_PutNum D a0).bind fun r2=>
 (impl_Crc D r2).bind fun r3=>
 bif decide ((4:Int)≠0)then
 some (Int.tmod r3 4)else none)
theorem impl_LeafOf_of:OfF impl_LeafOf impl_LeafOf_raw:=ofF 318
def slices_Indexint_int_l0:rL slices_Indexint_int_k0:=fun D L (y0,y1,y2,y3)=>
 bif (decide (y3<y2))then(bif inb y3 y0.length then
 bif (decide (y1=(rd1 (0:Int) y0 y3)))then(some (Sum.inl y3))
 else(slices_Indexint_int_k0 L (y0,y1,y2,(IntKind.wrap .i64 (y3+1))))else none)
 else(some (Sum.inr ()))
theorem slices_Indexint_int_l0_of:OfL slices_Indexint_int_k0 slices_Indexint_int_l0:=ofL 326 0
def slices_Indexint_int_raw:rF slices_Indexint_int:=fun D L (a0,a1)=>
 (slices_Indexint_int_k0 L (a0,a1,(a0.length:Int),0)).bind fun z1=>
 elimS z1 (fun u2=>
 some u2)
 (fun z3=>
 some (-1))
theorem slices_Indexint_int_of:OfF slices_Indexint_int slices_Indexint_int_raw:=ofF 326
end
end Go.Proofs.YtjenicbpdklpbaaGreat.M
