/- Plain forms of the functions that FnExactPlainWhen reaches, part 4. No conditions. -/
import Derived.Test.YtjenicbpdklpbaaGreatFnExactPlainWhenTab
set_option linter.all false
namespace Go.Proofs.YtjenicbpdklpbaaGreat.M
open Go Go.Eng Go.Proofs
set_option linter.unusedVariables false
noncomputable section
def impl_StateBytes_l0 : RT ((List XItem) × Int × Int × (List XItem) × (List XFloor) × (List Int)) (((List XItem) × (List XFloor) × (List Int))) := fun D L (y0, y1, y2, y3, y4, y5) =>
 bif (decide (y2 < y1)) then (bif inb y2 y0.length then
 let e3 := (rd1 zItem y0 y2);
 (impl_PutNum D e3.1).bind fun r4 =>
 (impl_PutNum D e3.2.1).bind fun r5 =>
 (impl_PutNum D e3.2.2.1).bind fun r6 =>
 (impl_PutNum D e3.2.2.2.1).bind fun r7 =>
 (impl_PutNum D e3.2.2.2.2.1).bind fun r8 =>
 (impl_PutText D e3.2.2.2.2.2).bind fun r9 =>
 (impl_joined D [y5, r4, r5, r6, r7, r8, r9]).bind fun r10 =>
 impl_StateBytes_k0 L (y0, y1, (IntKind.wrap .i64 (y2 + 1)), y3, y4, r10) else none)
 else (some (y3, y4, y5))
theorem impl_StateBytes_l0_of : OfL impl_StateBytes_k0 impl_StateBytes_l0 := ofL 249 0 fun _ _ _ => by kernel_rfl
def impl_StateBytes_l2 : RT ((List XFloor) × Int × Int × (List Int)) (List Int) := fun D L (y0, y1, y2, y3) =>
 bif (decide (y2 < y1)) then (bif inb y2 y0.length then
 let e14 := (rd1 zFloor y0 y2);
 (impl_PutNum D e14.1).bind fun r15 =>
 (impl_PutNum D e14.2).bind fun r16 =>
 (impl_joined D [y3, r15, r16]).bind fun r17 =>
 impl_StateBytes_k2 L (y0, y1, (IntKind.wrap .i64 (y2 + 1)), r17) else none)
 else (some y3)
theorem impl_StateBytes_l2_of : OfL impl_StateBytes_k2 impl_StateBytes_l2 := ofL 249 2 fun _ _ _ => by kernel_rfl
def impl_StateBytes_raw : RT XState (List Int) := fun D L (a0, a1) =>
 (impl_StateOk D (a0, a1)).bind fun r1 =>
 bif (!r1) then (some [])
 else ((impl_PutNum D (a0.length : Int)).bind fun r2 =>
 (impl_StateBytes_k0 L (a0, (a0.length : Int), 0, a0, a1, r2)).bind fun z11 =>
 (impl_PutNum D (z11.2.1.length : Int)).bind fun r12 =>
 (impl_joined D [z11.2.2, r12]).bind fun r13 =>
 (impl_StateBytes_k2 L (z11.2.1, (z11.2.1.length : Int), 0, r13)).bind fun z18 =>
 some z18)
theorem impl_StateBytes_of : OfF impl_StateBytes impl_StateBytes_raw := ofF 249 fun _ _ _ => by kernel_rfl
def impl_joined_l0 : RT ((List (List Int)) × Int × Int × (List Int)) (List Int) := fun D L (y0, y1, y2, y3) =>
 bif (decide (y2 < y1)) then (bif inb y2 y0.length then
 bif fits (List.length y3 + List.length (rd1 ([] : List Int) y0 y2)) 1 then
 impl_joined_k0 L (y0, y1, (IntKind.wrap .i64 (y2 + 1)), (y3 ++ (rd1 ([] : List Int) y0 y2))) else none else none)
 else (some y3)
theorem impl_joined_l0_of : OfL impl_joined_k0 impl_joined_l0 := ofL 252 0 fun _ _ _ => by kernel_rfl
def impl_joined_raw : RT (List (List Int)) (List Int) := fun D L a0 =>
 (impl_joined_k0 L (a0, (a0.length : Int), 0, [])).bind fun z1 =>
 some z1
theorem impl_joined_of : OfF impl_joined impl_joined_raw := ofF 252 fun _ _ _ => by kernel_rfl
def impl_PutNum_l0 : RT (Int × (List Int)) ((Int × (List Int))) := fun D L (y0, y1) =>
 bif (decide (128 ≤ y0)) then (bif decide ((128 : Int) ≠ 0) then
 bif fits (List.length y1 + List.length ([(IntKind.wrap .u8 (IntKind.wrap .i64 ((Int.tmod y0 128) + 128)))] : List Int)) 1 then
 bif decide ((128 : Int) ≠ 0) then
 impl_PutNum_k0 L ((IntKind.wrap .i64 (Int.tdiv y0 128)), (y1 ++ ([(IntKind.wrap .u8 (IntKind.wrap .i64 ((Int.tmod y0 128) + 128)))] : List Int))) else none else none else none)
 else (some (y0, y1))
theorem impl_PutNum_l0_of : OfL impl_PutNum_k0 impl_PutNum_l0 := ofL 253 0 fun _ _ _ => by kernel_rfl
def impl_PutNum_raw : RT Int (List Int) := fun D L a0 =>
 (impl_within D (a0, 0, 2147483647)).bind fun r1 =>
 bif (!r1) then (some [])
 else ((impl_PutNum_k0 L (a0, [])).bind fun z2 =>
 bif fits (List.length z2.2 + List.length ([(IntKind.wrap .u8 z2.1)] : List Int)) 1 then
 some (z2.2 ++ ([(IntKind.wrap .u8 z2.1)] : List Int)) else none)
theorem impl_PutNum_of : OfF impl_PutNum impl_PutNum_raw := ofF 253 fun _ _ _ => by kernel_rfl
def laws_szEntry_raw : RT (Int × Int × Int × Int × ByteArray × Int) Int := fun D L (a0, a1, a2, a3, a4, a5) =>
 bif (decide ((IntKind.wrap .i64 (a5 - ((ByteArray.size a4) : Int))) < 0)) then (some (-1))
 else (some (IntKind.wrap .i64 (a5 - ((ByteArray.size a4) : Int))))
theorem laws_szEntry_of : OfF laws_szEntry laws_szEntry_raw := ofF 283 fun _ _ _ => by kernel_rfl
def spec_l6Slice_l0 : RT ((List Int) × Int × (List XItem) × (List XFloor) × (List XItem) × (List XFloor)) (((List Int) × (List XItem) × (List XFloor) × (List XItem) × (List XFloor))) := fun D L (y0, y1, y2, y3, y4, y5) =>
 bif (decide (y1 < (y2.length : Int))) then (bif inb y1 y2.length then
 let e1 := (rd1 zItem y2 y1);
 (spec_LeafOf D e1.1).bind fun r2 =>
 (spec_l1Has D (y0, r2)).bind fun r3 =>
 bif r3 then (bif inb y1 y2.length then
 let e4 := (rd1 zItem y2 y1);
 bif fits (List.length y4 + List.length ([e4] : List XItem)) 56 then
 spec_l6Slice_k0 L (y0, (IntKind.wrap .i64 (y1 + 1)), y2, y3, (y4 ++ ([e4] : List XItem)), y5) else none else none)
 else (spec_l6Slice_k0 L (y0, (IntKind.wrap .i64 (y1 + 1)), y2, y3, y4, y5)) else none)
 else (some (y0, y2, y3, y4, y5))
theorem spec_l6Slice_l0_of : OfL spec_l6Slice_k0 spec_l6Slice_l0 := ofL 284 0 fun _ _ _ => by kernel_rfl
def spec_l6Slice_l2 : RT ((List Int) × Int × (List XItem) × (List XFloor) × (List XItem) × (List XFloor)) XState := fun D L (y0, y1, y2, y3, y4, y5) =>
 bif (decide (y1 < (y3.length : Int))) then (bif inb y1 y3.length then
 let e6 := (rd1 zFloor y3 y1);
 (spec_LeafOf D e6.1).bind fun r7 =>
 (spec_l1Has D (y0, r7)).bind fun r8 =>
 bif r8 then (bif inb y1 y3.length then
 let e9 := (rd1 zFloor y3 y1);
 bif fits (List.length y5 + List.length ([e9] : List XFloor)) 16 then
 spec_l6Slice_k2 L (y0, (IntKind.wrap .i64 (y1 + 1)), y2, y3, y4, (y5 ++ ([e9] : List XFloor))) else none else none)
 else (spec_l6Slice_k2 L (y0, (IntKind.wrap .i64 (y1 + 1)), y2, y3, y4, y5)) else none)
 else (some (y4, y5))
theorem spec_l6Slice_l2_of : OfL spec_l6Slice_k2 spec_l6Slice_l2 := ofL 284 2 fun _ _ _ => by kernel_rfl
def spec_l6Slice_raw : RT ((List XItem) × (List XFloor) × (List Int)) XState := fun D L (a0, a1, a2) =>
 (spec_l6Slice_k0 L (a2, 0, a0, a1, [], [])).bind fun z5 =>
 (spec_l6Slice_k2 L (z5.1, 0, z5.2)).bind fun z10 =>
 some z10
theorem spec_l6Slice_of : OfF spec_l6Slice spec_l6Slice_raw := ofF 284 fun _ _ _ => by kernel_rfl
def spec_PutNum_l0 : RT (Int × (List Int)) ((Int × (List Int))) := fun D L (y0, y1) =>
 bif (decide (127 < y0)) then (bif decide ((128 : Int) ≠ 0) then
 bif fits (List.length y1 + List.length ([(IntKind.wrap .u8 (IntKind.wrap .i64 ((Int.tmod y0 128) + 128)))] : List Int)) 1 then
 bif decide ((128 : Int) ≠ 0) then
 spec_PutNum_k0 L ((IntKind.wrap .i64 (Int.tdiv y0 128)), (y1 ++ ([(IntKind.wrap .u8 (IntKind.wrap .i64 ((Int.tmod y0 128) + 128)))] : List Int))) else none else none else none)
 else (some (y0, y1))
theorem spec_PutNum_l0_of : OfL spec_PutNum_k0 spec_PutNum_l0 := ofL 285 0 fun _ _ _ => by kernel_rfl
def spec_PutNum_raw : RT Int (List Int) := fun D L a0 =>
 (spec_l1In D (a0, 0, 2147483647)).bind fun r1 =>
 bif (!r1) then (some [])
 else ((spec_PutNum_k0 L (a0, [])).bind fun z2 =>
 bif fits (List.length z2.2 + List.length ([(IntKind.wrap .u8 z2.1)] : List Int)) 1 then
 some (z2.2 ++ ([(IntKind.wrap .u8 z2.1)] : List Int)) else none)
theorem spec_PutNum_of : OfF spec_PutNum spec_PutNum_raw := ofF 285 fun _ _ _ => by kernel_rfl
def laws_toEntry_raw : RT XEntry XEntry := fun D L (a0, a1, a2, a3, a4) =>
 some (a0, a1, a2, a3, a4)
theorem laws_toEntry_of : OfF laws_toEntry laws_toEntry_raw := ofF 286 fun _ _ _ => by kernel_rfl
def impl_Crc_l0 : RT (Int × (List Int) × Int × Int) Int := fun D L (y0, y1, y2, y3) =>
 bif (decide (y3 < y2)) then (bif inb y3 y1.length then
 (impl_Crc_k2 L ((bits .xor .i64 y0 (IntKind.wrap .i64 (rd1 (0 : Int) y1 y3))), y1, y2, y3, 0)).bind fun z1 =>
 impl_Crc_k0 L (z1.1, z1.2.1, z1.2.2.1, (IntKind.wrap .i64 (z1.2.2.2 + 1))) else none)
 else (some y0)
theorem impl_Crc_l0_of : OfL impl_Crc_k0 impl_Crc_l0 := ofL 287 0 fun _ _ _ => by kernel_rfl
def impl_Crc_l2 : RT (Int × (List Int) × Int × Int × Int) ((Int × (List Int) × Int × Int)) := fun D L (y0, y1, y2, y3, y4) =>
 bif (decide (y4 < 8)) then (bif decide ((2 : Int) ≠ 0) then
 bif decide ((2 : Int) ≠ 0) then
 bif (decide ((Int.tmod y0 2) = 1)) then (impl_Crc_k2 L ((bits .xor .i64 (IntKind.wrap .i64 (Int.tdiv y0 2)) 3988292384), y1, y2, y3, (IntKind.wrap .i64 (y4 + 1))))
 else (impl_Crc_k2 L ((IntKind.wrap .i64 (Int.tdiv y0 2)), y1, y2, y3, (IntKind.wrap .i64 (y4 + 1)))) else none else none)
 else (some (y0, y1, y2, y3))
theorem impl_Crc_l2_of : OfL impl_Crc_k2 impl_Crc_l2 := ofL 287 2 fun _ _ _ => by kernel_rfl
def impl_Crc_raw : RT (List Int) Int := fun D L a0 =>
 (impl_Crc_k0 L (4294967295, a0, (a0.length : Int), 0)).bind fun z2 =>
 some (bits .xor .i64 z2 4294967295)
theorem impl_Crc_of : OfF impl_Crc impl_Crc_raw := ofF 287 fun _ _ _ => by kernel_rfl
def impl_Slice_l0 : RT ((List Int) × (List XItem) × Int × Int × (List XItem) × (List XFloor) × (List XItem) × (List XFloor)) (((List Int) × (List XItem) × (List XFloor) × (List XItem) × (List XFloor))) := fun D L (y0, y1, y2, y3, y4, y5, y6, y7) =>
 bif (decide (y3 < y2)) then (bif inb y3 y1.length then
 let e2 := (rd1 zItem y1 y3);
 (impl_LeafOf D e2.1).bind fun r3 =>
 (slices_Containsint_int D (y0, r3)).bind fun r4 =>
 bif r4 then (bif fits (List.length y6 + List.length ([e2] : List XItem)) 56 then
 impl_Slice_k0 L (y0, y1, y2, (IntKind.wrap .i64 (y3 + 1)), y4, y5, (y6 ++ ([e2] : List XItem)), y7) else none)
 else (impl_Slice_k0 L (y0, y1, y2, (IntKind.wrap .i64 (y3 + 1)), y4, y5, y6, y7)) else none)
 else (some (y0, y4, y5, y6, y7))
theorem impl_Slice_l0_of : OfL impl_Slice_k0 impl_Slice_l0 := ofL 288 0 fun _ _ _ => by kernel_rfl
def impl_Slice_l2 : RT ((List Int) × (List XFloor) × Int × Int × (List XItem) × (List XFloor)) XState := fun D L (y0, y1, y2, y3, y4, y5) =>
 bif (decide (y3 < y2)) then (bif inb y3 y1.length then
 let e6 := (rd1 zFloor y1 y3);
 (impl_LeafOf D e6.1).bind fun r7 =>
 (slices_Containsint_int D (y0, r7)).bind fun r8 =>
 bif r8 then (bif fits (List.length y5 + List.length ([e6] : List XFloor)) 16 then
 impl_Slice_k2 L (y0, y1, y2, (IntKind.wrap .i64 (y3 + 1)), y4, (y5 ++ ([e6] : List XFloor))) else none)
 else (impl_Slice_k2 L (y0, y1, y2, (IntKind.wrap .i64 (y3 + 1)), y4, y5)) else none)
 else (some (y4, y5))
theorem impl_Slice_l2_of : OfL impl_Slice_k2 impl_Slice_l2 := ofL 288 2 fun _ _ _ => by kernel_rfl
def impl_Slice_raw : RT ((List XItem) × (List XFloor) × (List Int)) XState := fun D L (a0, a1, a2) =>
 (impl_StateOk D (a0, a1)).bind fun r1 =>
 bif (!r1) then (some ([], []))
 else ((impl_Slice_k0 L (a2, a0, (a0.length : Int), 0, a0, a1, [], [])).bind fun z5 =>
 (impl_Slice_k2 L (z5.1, z5.2.2.1, (z5.2.2.1.length : Int), 0, z5.2.2.2)).bind fun z9 =>
 some z9)
theorem impl_Slice_of : OfF impl_Slice impl_Slice_raw := ofF 288 fun _ _ _ => by kernel_rfl
def spec_l2Cmp_raw : RT XFloor Int := fun D L (a0, a1) =>
 bif (decide (a0 < a1)) then (some (-1))
 else ((spec_l1Bit D (decide (a1 < a0))).bind fun r1 =>
 some r1)
theorem spec_l2Cmp_of : OfF spec_l2Cmp spec_l2Cmp_raw := ofF 289 fun _ _ _ => by kernel_rfl
def spec_l1Bit_raw : RT Bool Int := fun D L a0 =>
 bif a0 then (some 1)
 else (some 0)
theorem spec_l1Bit_of : OfF spec_l1Bit spec_l1Bit_raw := ofF 290 fun _ _ _ => by kernel_rfl
def cmp_Or_l0 : RT (Int × (List Int) × Int × Int) (Int ⊕ Int) := fun D L (y0, y1, y2, y3) =>
 bif (decide (y3 < y2)) then (bif inb y3 y1.length then
 bif (!decide ((rd1 (0 : Int) y1 y3) = y0)) then (some (Sum.inl (rd1 (0 : Int) y1 y3)))
 else (cmp_Or_k0 L (y0, y1, y2, (IntKind.wrap .i64 (y3 + 1)))) else none)
 else (some (Sum.inr y0))
theorem cmp_Or_l0_of : OfL cmp_Or_k0 cmp_Or_l0 := ofL 291 0 fun _ _ _ => by kernel_rfl
def cmp_Or_raw : RT (List Int) Int := fun D L a0 =>
 (cmp_Or_k0 L (0, a0, (a0.length : Int), 0)).bind fun z1 =>
 elimS z1 (fun u2 =>
 some u2)
 (fun z3 =>
 some z3)
theorem cmp_Or_of : OfF cmp_Or cmp_Or_raw := ofF 291 fun _ _ _ => by kernel_rfl
def cmp_Compare_raw : RT XFloor Int := fun D L (a0, a1) =>
 (cmp_isNaN D a0).bind fun r1 =>
 (cmp_isNaN D a1).bind fun r2 =>
 bif r1 then (bif r2 then (some 0)
 else (some (-1)))
 else (bif r2 then (some 1)
 else (bif (decide (a0 < a1)) then (some (-1))
 else (bif (decide (a1 < a0)) then (some 1)
 else (some 0))))
theorem cmp_Compare_of : OfF cmp_Compare cmp_Compare_raw := ofF 292 fun _ _ _ => by kernel_rfl
def strings_Compare_raw : RT (ByteArray × ByteArray) Int := fun D L (a0, a1) =>
 (internal_bytealg_CompareString D (a0, a1)).bind fun r1 =>
 some r1
theorem strings_Compare_of : OfF strings_Compare strings_Compare_raw := ofF 293 fun _ _ _ => by kernel_rfl
def spec_PutText_raw : RT ByteArray (List Int) := fun D L a0 =>
 (spec_PutNum D ((ByteArray.size a0) : Int)).bind fun r1 =>
 bif fits (List.length r1 + List.length (ofBytes a0)) 1 then
 some (r1 ++ (ofBytes a0)) else none
theorem spec_PutText_of : OfF spec_PutText spec_PutText_raw := ofF 294 fun _ _ _ => by kernel_rfl
def impl_PutText_raw : RT ByteArray (List Int) := fun D L a0 =>
 (impl_PutNum D ((ByteArray.size a0) : Int)).bind fun r1 =>
 (impl_joined D [r1, (ofBytes a0)]).bind fun r2 =>
 some r2
theorem impl_PutText_of : OfF impl_PutText impl_PutText_raw := ofF 297 fun _ _ _ => by kernel_rfl
def spec_l1Has_l0 : RT ((List Int) × Int × Int) (Bool ⊕ Unit) := fun D L (y0, y1, y2) =>
 bif (decide (y2 < (y0.length : Int))) then (bif inb y2 y0.length then
 bif (decide ((rd1 (0 : Int) y0 y2) = y1)) then (some (Sum.inl true))
 else (spec_l1Has_k0 L (y0, y1, (IntKind.wrap .i64 (y2 + 1)))) else none)
 else (some (Sum.inr ()))
theorem spec_l1Has_l0_of : OfL spec_l1Has_k0 spec_l1Has_l0 := ofL 315 0 fun _ _ _ => by kernel_rfl
def spec_l1Has_raw : RT XTree Bool := fun D L (a0, a1) =>
 (spec_l1Has_k0 L (a0, a1, 0)).bind fun z1 =>
 elimS z1 (fun u2 =>
 some u2)
 (fun z3 =>
 some false)
theorem spec_l1Has_of : OfF spec_l1Has spec_l1Has_raw := ofF 315 fun _ _ _ => by kernel_rfl
def spec_LeafOf_raw : RT Int Int := fun D L a0 =>
 (spec_l3Node D a0).bind fun r1 =>
 bif (!r1) then (some (-1))
 else ((spec_PutNum D a0).bind fun r2 =>
 (spec_Crc D r2).bind fun r3 =>
 bif decide ((4 : Int) ≠ 0) then
 some (Int.tmod r3 4) else none)
theorem spec_LeafOf_of : OfF spec_LeafOf spec_LeafOf_raw := ofF 316 fun _ _ _ => by kernel_rfl
def slices_Containsint_int_raw : RT XTree Bool := fun D L (a0, a1) =>
 (slices_Indexint_int D (a0, a1)).bind fun r1 =>
 some (decide (0 ≤ r1))
theorem slices_Containsint_int_of : OfF slices_Containsint_int slices_Containsint_int_raw := ofF 317 fun _ _ _ => by kernel_rfl
def impl_LeafOf_raw : RT Int Int := fun D L a0 =>
 (impl_isNode D a0).bind fun r1 =>
 bif (!r1) then (some (-1))
 else ((impl_PutNum D a0).bind fun r2 =>
 (impl_Crc D r2).bind fun r3 =>
 bif decide ((4 : Int) ≠ 0) then
 some (Int.tmod r3 4) else none)
theorem impl_LeafOf_of : OfF impl_LeafOf impl_LeafOf_raw := ofF 318 fun _ _ _ => by kernel_rfl
def cmp_isNaN_raw : RT Int Bool := fun D L a0 =>
 some (!decide (a0 = a0))
theorem cmp_isNaN_of : OfF cmp_isNaN cmp_isNaN_raw := ofF 319 fun _ _ _ => by kernel_rfl
def internal_bytealg_CompareString_raw : RT (ByteArray × ByteArray) Int := fun _ _ => cmpX
theorem internal_bytealg_CompareString_of : OfF internal_bytealg_CompareString internal_bytealg_CompareString_raw := ofF 320 fun _ _ _ => by kernel_rfl
def slices_Indexint_int_l0 : RT ((List Int) × Int × Int × Int) (Int ⊕ Unit) := fun D L (y0, y1, y2, y3) =>
 bif (decide (y3 < y2)) then (bif inb y3 y0.length then
 bif (decide (y1 = (rd1 (0 : Int) y0 y3))) then (some (Sum.inl y3))
 else (slices_Indexint_int_k0 L (y0, y1, y2, (IntKind.wrap .i64 (y3 + 1)))) else none)
 else (some (Sum.inr ()))
theorem slices_Indexint_int_l0_of : OfL slices_Indexint_int_k0 slices_Indexint_int_l0 := ofL 326 0 fun _ _ _ => by kernel_rfl
def slices_Indexint_int_raw : RT XTree Int := fun D L (a0, a1) =>
 (slices_Indexint_int_k0 L (a0, a1, (a0.length : Int), 0)).bind fun z1 =>
 elimS z1 (fun u2 =>
 some u2)
 (fun z3 =>
 some (-1))
theorem slices_Indexint_int_of : OfF slices_Indexint_int slices_Indexint_int_raw := ofF 326 fun _ _ _ => by kernel_rfl
end
end Go.Proofs.YtjenicbpdklpbaaGreat.M
