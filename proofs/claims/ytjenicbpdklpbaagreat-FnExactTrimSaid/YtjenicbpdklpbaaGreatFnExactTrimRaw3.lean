/- Plain forms of the functions that FnExactTrim reaches, part 3. No conditions. -/
import Derived.Test.YtjenicbpdklpbaaGreatFnExactTrimTab
set_option linter.all false
namespace Go.Proofs.YtjenicbpdklpbaaGreat.M
open Go Go.Eng Go.Proofs
set_option linter.unusedVariables false
noncomputable section
def laws_markStateS_l0 : RT XLog ((Int × (List XState))) := fun D L (y0, y1, y2) =>
 bif (decide (y1 < (y2.length : Int))) then (bif inb y1 y2.length then
 let e1 := (rd1 zState y2 y1);
 (laws_markItemS D ((rd1 zState y2 y1).1, y0)).bind fun r2 =>
 let e3 := (rd1 zState y2 y1);
 let l4 := List.set y2 (Int.toNat y1) (r2.2, e3.2);
 bif inb y1 l4.length then
 let e5 := (rd1 zState l4 y1);
 (laws_markFloorS D ((rd1 zState l4 y1).2, r2.1)).bind fun r6 =>
 let e7 := (rd1 zState l4 y1);
 let l8 := List.set l4 (Int.toNat y1) (e7.1, r6.2);
 laws_markStateS_k0 L (r6.1, (IntKind.wrap .i64 (y1 + 1)), l8) else none else none)
 else (some (y0, y2))
theorem laws_markStateS_l0_of : OfL laws_markStateS_k0 laws_markStateS_l0 := ofL 181 0 fun _ _ _ => by kernel_rfl
def laws_markStateS_raw : RT ((List XState) × Int) (Int × (List XState)) := fun D L (a0, a1) =>
 (laws_markStateS_k0 L (a1, 0, a0)).bind fun z9 =>
 some z9
theorem laws_markStateS_of : OfF laws_markStateS laws_markStateS_raw := ofF 181 fun _ _ _ => by kernel_rfl
def laws_heldFloorS_l0 : RT ((List XFloor) × Int × Int) (Int ⊕ Int) := fun D L (y0, y1, y2) =>
 bif (decide (y2 < (y0.length : Int))) then (bif inb y2 y0.length then
 let e1 := (rd1 zFloor y0 y2);
 bif (!decide (e1.1 = y1)) then (some (Sum.inl (-1)))
 else (bif inb y2 y0.length then
 let e2 := (rd1 zFloor y0 y2);
 bif (!decide (e2.2 = (IntKind.wrap .i64 (y1 + 1)))) then (some (Sum.inl (-1)))
 else (laws_heldFloorS_k0 L (y0, (IntKind.wrap .i64 ((IntKind.wrap .i64 (y1 + 1)) + 1)), (IntKind.wrap .i64 (y2 + 1)))) else none) else none)
 else (some (Sum.inr y1))
theorem laws_heldFloorS_l0_of : OfL laws_heldFloorS_k0 laws_heldFloorS_l0 := ofL 182 0 fun _ _ _ => by kernel_rfl
def laws_heldFloorS_raw : RT ((List XFloor) × Int) Int := fun D L (a0, a1) =>
 (laws_heldFloorS_k0 L (a0, a1, 0)).bind fun z3 =>
 elimS z3 (fun u4 =>
 some u4)
 (fun z5 =>
 some z5)
theorem laws_heldFloorS_of : OfF laws_heldFloorS laws_heldFloorS_raw := ofF 182 fun _ _ _ => by kernel_rfl
def laws_heldStateS_l0 : RT ((List XState) × Int × Int) (Int ⊕ Int) := fun D L (y0, y1, y2) =>
 bif (decide (y2 < (y0.length : Int))) then (bif inb y2 y0.length then
 let e1 := (rd1 zState y0 y2);
 (laws_heldItemS D (e1.1, y1)).bind fun r2 =>
 bif (decide (r2 < 0)) then (some (Sum.inl (-1)))
 else (bif inb y2 y0.length then
 let e3 := (rd1 zState y0 y2);
 (laws_heldFloorS D (e3.2, r2)).bind fun r4 =>
 bif (decide (r4 < 0)) then (some (Sum.inl (-1)))
 else (laws_heldStateS_k0 L (y0, r4, (IntKind.wrap .i64 (y2 + 1)))) else none) else none)
 else (some (Sum.inr y1))
theorem laws_heldStateS_l0_of : OfL laws_heldStateS_k0 laws_heldStateS_l0 := ofL 183 0 fun _ _ _ => by kernel_rfl
def laws_heldStateS_raw : RT ((List XState) × Int) Int := fun D L (a0, a1) =>
 (laws_heldStateS_k0 L (a0, a1, 0)).bind fun z5 =>
 elimS z5 (fun u6 =>
 some u6)
 (fun z7 =>
 some z7)
theorem laws_heldStateS_of : OfF laws_heldStateS laws_heldStateS_raw := ofF 183 fun _ _ _ => by kernel_rfl
def laws_eqEntry_raw : RT (Int × Int × Int × Int × ByteArray × Int × Int × Int × Int × ByteArray) Bool := fun D L (a0, a1, a2, a3, a4, a5, a6, a7, a8, a9) =>
 bif (!decide (a0 = a5)) then (some false)
 else (bif (!decide (a1 = a6)) then (some false)
 else (bif (!decide (a2 = a7)) then (some false)
 else (bif (!decide (a3 = a8)) then (some false)
 else (bif (!beqS a4 a9) then (some false)
 else (some true)))))
theorem laws_eqEntry_of : OfF laws_eqEntry laws_eqEntry_raw := ofF 184 fun _ _ _ => by kernel_rfl
def impl_isNode_raw : RT Int Bool := fun D L a0 =>
 (impl_within D (a0, 0, 4)).bind fun r1 =>
 some r1
theorem impl_isNode_of : OfF impl_isNode impl_isNode_raw := ofF 218 fun _ _ _ => by kernel_rfl
def impl_EntryOk_raw : RT XEntry Bool := fun D L (a0, a1, a2, a3, a4) =>
 (impl_within D (a0, 1, 1000)).bind fun r1 =>
 bif r1 then ((impl_within D (a1, 0, 1)).bind fun r2 =>
 bif r2 then ((impl_within D (a2, 0, 100000)).bind fun r3 =>
 bif r3 then ((impl_within D (a3, 0, 1000)).bind fun r4 =>
 bif r4 then (some (decide (((ByteArray.size a4) : Int) ≤ 8)))
 else (some false))
 else (some false))
 else (some false))
 else (some false)
theorem impl_EntryOk_of : OfF impl_EntryOk impl_EntryOk_raw := ofF 219 fun _ _ _ => by kernel_rfl
def impl_FloorOf_l0 : RT (Int × (List XFloor) × Int × Int) (Int ⊕ Unit) := fun D L (y0, y1, y2, y3) =>
 bif (decide (y3 < y2)) then (bif inb y3 y1.length then
 let e1 := (rd1 zFloor y1 y3);
 bif (decide (e1.1 = y0)) then (some (Sum.inl e1.2))
 else (impl_FloorOf_k0 L (y0, y1, y2, (IntKind.wrap .i64 (y3 + 1)))) else none)
 else (some (Sum.inr ()))
theorem impl_FloorOf_l0_of : OfL impl_FloorOf_k0 impl_FloorOf_l0 := ofL 220 0 fun _ _ _ => by kernel_rfl
def impl_FloorOf_raw : RT ((List XItem) × (List XFloor) × Int) Int := fun D L (a0, a1, a2) =>
 (impl_FloorOf_k0 L (a2, a1, (a1.length : Int), 0)).bind fun z2 =>
 elimS z2 (fun u3 =>
 some u3)
 (fun z4 =>
 some 0)
theorem impl_FloorOf_of : OfF impl_FloorOf impl_FloorOf_raw := ofF 220 fun _ _ _ => by kernel_rfl
def spec_l3Node_raw : RT Int Bool := fun D L a0 =>
 (spec_l1In D (a0, 0, 4)).bind fun r1 =>
 some r1
theorem spec_l3Node_of : OfF spec_l3Node spec_l3Node_raw := ofF 222 fun _ _ _ => by kernel_rfl
def spec_EntryOk_raw : RT XEntry Bool := fun D L (a0, a1, a2, a3, a4) =>
 (spec_l1In D (a0, 1, 1000)).bind fun r1 =>
 bif r1 then ((spec_l1In D (a1, 0, 1)).bind fun r2 =>
 bif r2 then ((spec_l1In D (a2, 0, 100000)).bind fun r3 =>
 bif r3 then ((spec_l1In D (a3, 0, 1000)).bind fun r4 =>
 bif r4 then (some (decide (((ByteArray.size a4) : Int) ≤ 8)))
 else (some false))
 else (some false))
 else (some false))
 else (some false)
theorem spec_EntryOk_of : OfF spec_EntryOk spec_EntryOk_raw := ofF 223 fun _ _ _ => by kernel_rfl
def spec_FloorOf_l0 : RT (Int × Int × (List XItem) × (List XFloor)) (Int ⊕ Unit) := fun D L (y0, y1, y2, y3) =>
 bif (decide (y1 < (y3.length : Int))) then (bif inb y1 y3.length then
 let e1 := (rd1 zFloor y3 y1);
 bif (decide (e1.1 = y0)) then (bif inb y1 y3.length then
 let e2 := (rd1 zFloor y3 y1);
 some (Sum.inl e2.2) else none)
 else (spec_FloorOf_k0 L (y0, (IntKind.wrap .i64 (y1 + 1)), y2, y3)) else none)
 else (some (Sum.inr ()))
theorem spec_FloorOf_l0_of : OfL spec_FloorOf_k0 spec_FloorOf_l0 := ofL 224 0 fun _ _ _ => by kernel_rfl
def spec_FloorOf_raw : RT ((List XItem) × (List XFloor) × Int) Int := fun D L (a0, a1, a2) =>
 (spec_FloorOf_k0 L (a2, 0, a0, a1)).bind fun z3 =>
 elimS z3 (fun u4 =>
 some u4)
 (fun z5 =>
 some 0)
theorem spec_FloorOf_of : OfF spec_FloorOf spec_FloorOf_raw := ofF 224 fun _ _ _ => by kernel_rfl
def laws_szItem_raw : RT (Int × Int × Int × Int × Int × ByteArray × Int) Int := fun D L (a0, a1, a2, a3, a4, a5, a6) =>
 (laws_szEntry D (a1, a2, a3, a4, a5, a6)).bind fun r1 =>
 bif (decide (r1 < 0)) then (some (-1))
 else (some r1)
theorem laws_szItem_of : OfF laws_szItem laws_szItem_raw := ofF 225 fun _ _ _ => by kernel_rfl
def spec_l1Same_l0 : RT ((List Int) × (List Int) × Int) (Bool ⊕ Unit) := fun D L (y0, y1, y2) =>
 bif (decide (y2 < (y0.length : Int))) then (bif inb y2 y0.length then
 bif inb y2 y1.length then
 bif (!decide ((rd1 (0 : Int) y0 y2) = (rd1 (0 : Int) y1 y2))) then (some (Sum.inl false))
 else (spec_l1Same_k0 L (y0, y1, (IntKind.wrap .i64 (y2 + 1)))) else none else none)
 else (some (Sum.inr ()))
theorem spec_l1Same_l0_of : OfL spec_l1Same_k0 spec_l1Same_l0 := ofL 226 0 fun _ _ _ => by kernel_rfl
def spec_l1Same_raw : RT ((List Int) × (List Int)) Bool := fun D L (a0, a1) =>
 bif (!decide ((a0.length : Int) = (a1.length : Int))) then (some false)
 else ((spec_l1Same_k0 L (a0, a1, 0)).bind fun z1 =>
 elimS z1 (fun u2 =>
 some u2)
 (fun z3 =>
 some true))
theorem spec_l1Same_of : OfF spec_l1Same spec_l1Same_raw := ofF 226 fun _ _ _ => by kernel_rfl
def spec_LeafSum_raw : RT ((List XItem) × (List XFloor) × Int) Int := fun D L (a0, a1, a2) =>
 (spec_StateOk D (a0, a1)).bind fun r1 =>
 bif (!r1) then (some 0)
 else ((spec_l1In D (a2, 0, 3)).bind fun r2 =>
 bif (!r2) then (some 0)
 else ((spec_l6Slice D (a0, a1, [a2])).bind fun r3 =>
 (spec_l6Bytes D r3).bind fun r4 =>
 (spec_Crc D r4).bind fun r5 =>
 bif decide ((1024 : Int) ≠ 0) then
 some (Int.tmod r5 1024) else none))
theorem spec_LeafSum_of : OfF spec_LeafSum spec_LeafSum_raw := ofF 227 fun _ _ _ => by kernel_rfl
def spec_l6Root_l0 : RT ((List Int) × Int × (List Int)) (List Int) := fun D L (y0, y1, y2) =>
 bif (decide (y1 < (y0.length : Int))) then (bif inb y1 y0.length then
 (spec_PutNum D (rd1 (0 : Int) y0 y1)).bind fun r1 =>
 bif fits (List.length y2 + List.length r1) 1 then
 spec_l6Root_k0 L (y0, (IntKind.wrap .i64 (y1 + 1)), (y2 ++ r1)) else none else none)
 else (some y2)
theorem spec_l6Root_l0_of : OfL spec_l6Root_k0 spec_l6Root_l0 := ofL 228 0 fun _ _ _ => by kernel_rfl
def spec_l6Root_raw : RT (List Int) Int := fun D L a0 =>
 (spec_l6Root_k0 L (a0, 0, [])).bind fun z2 =>
 (spec_Crc D z2).bind fun r3 =>
 bif decide ((1024 : Int) ≠ 0) then
 some (Int.tmod r3 1024) else none
theorem spec_l6Root_of : OfF spec_l6Root spec_l6Root_raw := ofF 228 fun _ _ _ => by kernel_rfl
def laws_toItem_raw : RT XItem XItem := fun D L (a0, a1, a2, a3, a4, a5) =>
 (laws_toEntry D (a1, a2, a3, a4, a5)).bind fun r1 =>
 some (a0, r1)
theorem laws_toItem_of : OfF laws_toItem laws_toItem_raw := ofF 229 fun _ _ _ => by kernel_rfl
def laws_toFloor_raw : RT XFloor XFloor := fun D L (a0, a1) =>
 some (a0, a1)
theorem laws_toFloor_of : OfF laws_toFloor laws_toFloor_raw := ofF 230 fun _ _ _ => by kernel_rfl
def slices_Equalint_int_l0 : RT ((List Int) × (List Int) × Int × Int) (Bool ⊕ Unit) := fun D L (y0, y1, y2, y3) =>
 bif (decide (y3 < y2)) then (bif inb y3 y0.length then
 bif inb y3 y1.length then
 bif (!decide ((rd1 (0 : Int) y0 y3) = (rd1 (0 : Int) y1 y3))) then (some (Sum.inl false))
 else (slices_Equalint_int_k0 L (y0, y1, y2, (IntKind.wrap .i64 (y3 + 1)))) else none else none)
 else (some (Sum.inr ()))
theorem slices_Equalint_int_l0_of : OfL slices_Equalint_int_k0 slices_Equalint_int_l0 := ofL 231 0 fun _ _ _ => by kernel_rfl
def slices_Equalint_int_raw : RT ((List Int) × (List Int)) Bool := fun D L (a0, a1) =>
 bif (!decide ((a0.length : Int) = (a1.length : Int))) then (some false)
 else ((slices_Equalint_int_k0 L (a0, a1, (a0.length : Int), 0)).bind fun z1 =>
 elimS z1 (fun u2 =>
 some u2)
 (fun z3 =>
 some true))
theorem slices_Equalint_int_of : OfF slices_Equalint_int slices_Equalint_int_raw := ofF 231 fun _ _ _ => by kernel_rfl
def impl_LeafSum_raw : RT ((List XItem) × (List XFloor) × Int) Int := fun D L (a0, a1, a2) =>
 (impl_StateOk D (a0, a1)).bind fun r1 =>
 bif (!r1) then (some 0)
 else ((impl_within D (a2, 0, 3)).bind fun r2 =>
 bif (!r2) then (some 0)
 else ((impl_Slice D (a0, a1, [a2])).bind fun r3 =>
 (impl_StateBytes D r3).bind fun r4 =>
 (impl_Crc D r4).bind fun r5 =>
 bif decide ((1024 : Int) ≠ 0) then
 some (Int.tmod r5 1024) else none))
theorem impl_LeafSum_of : OfF impl_LeafSum impl_LeafSum_raw := ofF 232 fun _ _ _ => by kernel_rfl
def impl_rootOf_l0 : RT ((List Int) × Int × Int × (List Int)) (List Int) := fun D L (y0, y1, y2, y3) =>
 bif (decide (y2 < y1)) then (bif inb y2 y0.length then
 (impl_PutNum D (rd1 (0 : Int) y0 y2)).bind fun r1 =>
 (impl_joined D [y3, r1]).bind fun r2 =>
 impl_rootOf_k0 L (y0, y1, (IntKind.wrap .i64 (y2 + 1)), r2) else none)
 else (some y3)
theorem impl_rootOf_l0_of : OfL impl_rootOf_k0 impl_rootOf_l0 := ofL 233 0 fun _ _ _ => by kernel_rfl
def impl_rootOf_raw : RT (List Int) Int := fun D L a0 =>
 (impl_rootOf_k0 L (a0, (a0.length : Int), 0, [])).bind fun z3 =>
 (impl_Crc D z3).bind fun r4 =>
 bif decide ((1024 : Int) ≠ 0) then
 some (Int.tmod r4 1024) else none
theorem impl_rootOf_of : OfF impl_rootOf impl_rootOf_raw := ofF 233 fun _ _ _ => by kernel_rfl
def impl_isPeer_raw : RT (Int × Int × (List XItem) × (List XFloor) × (List Int) × Int × Int × Int × (List XState) × (List Int) × (List Int) × (List (List Int)) × Int × Int × (List XSess) × Int × Int × Int × (List XRise) × Int) Bool := fun D L (a0, a1, a2, a3, a4, a5, a6, a7, a8, a9, a10, a11, a12, a13, a14, a15, a16, a17, a18, a19) =>
 (impl_within D (a19, 0, (IntKind.wrap .i64 (a1 - 1)))).bind fun r1 =>
 bif r1 then (some (!decide (a19 = a0)))
 else (some false)
theorem impl_isPeer_of : OfF impl_isPeer impl_isPeer_raw := ofF 234 fun _ _ _ => by kernel_rfl
def impl_Slot_l0 : RT (Int × Bool × (List XSess) × Int × Int) (Int ⊕ Unit) := fun D L (y0, y1, y2, y3, y4) =>
 bif (decide (y4 < y3)) then (bif inb y4 y2.length then
 let e1 := (rd1 zSess y2 y4);
 bif (decide (e1.1 = y0)) then (bif (e1.2.2.1 == y1) then (some (Sum.inl y4))
 else (impl_Slot_k0 L (y0, y1, y2, y3, (IntKind.wrap .i64 (y4 + 1)))))
 else (impl_Slot_k0 L (y0, y1, y2, y3, (IntKind.wrap .i64 (y4 + 1)))) else none)
 else (some (Sum.inr ()))
theorem impl_Slot_l0_of : OfL impl_Slot_k0 impl_Slot_l0 := ofL 235 0 fun _ _ _ => by kernel_rfl
def impl_Slot_raw : RT (Int × Int × (List XItem) × (List XFloor) × (List Int) × Int × Int × Int × (List XState) × (List Int) × (List Int) × (List (List Int)) × Int × Int × (List XSess) × Int × Int × Int × (List XRise) × Int × Bool) Int := fun D L (a0, a1, a2, a3, a4, a5, a6, a7, a8, a9, a10, a11, a12, a13, a14, a15, a16, a17, a18, a19, a20) =>
 (impl_Slot_k0 L (a19, a20, a14, (a14.length : Int), 0)).bind fun z2 =>
 elimS z2 (fun u3 =>
 some u3)
 (fun z4 =>
 some (-1))
theorem impl_Slot_of : OfF impl_Slot impl_Slot_raw := ofF 235 fun _ _ _ => by kernel_rfl
def laws_eqFloor_raw : RT (Int × Int × Int × Int) Bool := fun D L (a0, a1, a2, a3) =>
 bif (!decide (a0 = a2)) then (some false)
 else (bif (!decide (a1 = a3)) then (some false)
 else (some true))
theorem laws_eqFloor_of : OfF laws_eqFloor laws_eqFloor_raw := ofF 236 fun _ _ _ => by kernel_rfl
def spec_Crc_l0 : RT ((List Int) × Int × Int) Int := fun D L (y0, y1, y2) =>
 bif (decide (y2 < (y0.length : Int))) then (bif inb y2 y0.length then
 (spec_Crc_k2 L (y0, (bits .xor .i64 y1 (IntKind.wrap .i64 (rd1 (0 : Int) y0 y2))), y2, 0)).bind fun z1 =>
 spec_Crc_k0 L (z1.1, z1.2.1, (IntKind.wrap .i64 (z1.2.2 + 1))) else none)
 else (some y1)
theorem spec_Crc_l0_of : OfL spec_Crc_k0 spec_Crc_l0 := ofL 239 0 fun _ _ _ => by kernel_rfl
def spec_Crc_l2 : RT ((List Int) × Int × Int × Int) (((List Int) × Int × Int)) := fun D L (y0, y1, y2, y3) =>
 bif (decide (y3 < 8)) then (bif decide ((2 : Int) ≠ 0) then
 bif decide ((2 : Int) ≠ 0) then
 bif (decide ((Int.tmod y1 2) = 1)) then (spec_Crc_k2 L (y0, (bits .xor .i64 (IntKind.wrap .i64 (Int.tdiv y1 2)) 3988292384), y2, (IntKind.wrap .i64 (y3 + 1))))
 else (spec_Crc_k2 L (y0, (IntKind.wrap .i64 (Int.tdiv y1 2)), y2, (IntKind.wrap .i64 (y3 + 1)))) else none else none)
 else (some (y0, y1, y2))
theorem spec_Crc_l2_of : OfL spec_Crc_k2 spec_Crc_l2 := ofL 239 2 fun _ _ _ => by kernel_rfl
def spec_Crc_raw : RT (List Int) Int := fun D L a0 =>
 (spec_Crc_k0 L (a0, 4294967295, 0)).bind fun z2 =>
 some (bits .xor .i64 z2 4294967295)
theorem spec_Crc_of : OfF spec_Crc spec_Crc_raw := ofF 239 fun _ _ _ => by kernel_rfl
def spec_l6Bytes_l0 : RT (Int × (List XItem) × (List XFloor) × (List Int)) (((List XItem) × (List XFloor) × (List Int))) := fun D L (y0, y1, y2, y3) =>
 bif (decide (y0 < (y1.length : Int))) then (bif inb y0 y1.length then
 let e2 := (rd1 zItem y1 y0);
 bif inb y0 y1.length then
 let e3 := (rd1 zItem y1 y0);
 (spec_l6Bytes_k2 L (y0, 0, y1, y2, y3, e2.2.1, e2.2.2.1, e2.2.2.2.1, e2.2.2.2.2.1, e2.2.2.2.2.2, [e3.1, e2.2.1, e2.2.2.1, e2.2.2.2.1, e2.2.2.2.2.1])).bind fun z5 =>
 (spec_PutText D z5.2.2.2.2.2.2.2.2).bind fun r6 =>
 bif fits (List.length z5.2.2.2.1 + List.length r6) 1 then
 spec_l6Bytes_k0 L ((IntKind.wrap .i64 (z5.1 + 1)), z5.2.1, z5.2.2.1, (z5.2.2.2.1 ++ r6)) else none else none else none)
 else (some (y1, y2, y3))
theorem spec_l6Bytes_l0_of : OfL spec_l6Bytes_k0 spec_l6Bytes_l0 := ofL 242 0 fun _ _ _ => by kernel_rfl
def spec_l6Bytes_l2 : RT (Int × Int × (List XItem) × (List XFloor) × (List Int) × Int × Int × Int × Int × ByteArray × (List Int)) ((Int × (List XItem) × (List XFloor) × (List Int) × Int × Int × Int × Int × ByteArray)) := fun D L (y0, y1, y2, y3, y4, y5, y6, y7, y8, y9, y10) =>
 bif (decide (y1 < (y10.length : Int))) then (bif inb y1 y10.length then
 (spec_PutNum D (rd1 (0 : Int) y10 y1)).bind fun r4 =>
 bif fits (List.length y4 + List.length r4) 1 then
 spec_l6Bytes_k2 L (y0, (IntKind.wrap .i64 (y1 + 1)), y2, y3, (y4 ++ r4), y5, y6, y7, y8, y9, y10) else none else none)
 else (some (y0, y2, y3, y4, y5, y6, y7, y8, y9))
theorem spec_l6Bytes_l2_of : OfL spec_l6Bytes_k2 spec_l6Bytes_l2 := ofL 242 2 fun _ _ _ => by kernel_rfl
def spec_l6Bytes_l4 : RT (Int × (List XItem) × (List XFloor) × (List Int)) (List Int) := fun D L (y0, y1, y2, y3) =>
 bif (decide (y0 < (y2.length : Int))) then (bif inb y0 y2.length then
 let e9 := (rd1 zFloor y2 y0);
 (spec_PutNum D e9.1).bind fun r10 =>
 bif fits (List.length y3 + List.length r10) 1 then
 bif inb y0 y2.length then
 let e11 := (rd1 zFloor y2 y0);
 (spec_PutNum D e11.2).bind fun r12 =>
 bif fits (List.length (y3 ++ r10) + List.length r12) 1 then
 spec_l6Bytes_k4 L ((IntKind.wrap .i64 (y0 + 1)), y1, y2, ((y3 ++ r10) ++ r12)) else none else none else none else none)
 else (some y3)
theorem spec_l6Bytes_l4_of : OfL spec_l6Bytes_k4 spec_l6Bytes_l4 := ofL 242 4 fun _ _ _ => by kernel_rfl
def spec_l6Bytes_raw : RT XState (List Int) := fun D L (a0, a1) =>
 (spec_PutNum D (a0.length : Int)).bind fun r1 =>
 (spec_l6Bytes_k0 L (0, a0, a1, r1)).bind fun z7 =>
 (spec_PutNum D (z7.2.1.length : Int)).bind fun r8 =>
 bif fits (List.length z7.2.2 + List.length r8) 1 then
 (spec_l6Bytes_k4 L (0, z7.1, z7.2.1, (z7.2.2 ++ r8))).bind fun z13 =>
 some z13 else none
theorem spec_l6Bytes_of : OfF spec_l6Bytes spec_l6Bytes_raw := ofF 242 fun _ _ _ => by kernel_rfl
def impl_StateBytes_l0 : RT ((List XItem) × Int × Int × (List XItem) × (List XFloor) × (List Int)) (((List XItem) × (List XFloor) × (List Int))) := fun D L (y0, y1, y2, y3, y4, y5) =>
 bif (decide (y2 < y1)) then (bif inb y2 y0.length then
 let e3 := (rd1 zItem y0 y2);
 (impl_PutNum D e3.1).bind fun r4 =>
 (impl_PutNum D e3.2.1).bind fun r5 =>
 (impl_PutNum D e3.2.2.1).bind fun r6 =>
 (impl_PutNum D e3.2.2.2.1).bind fun r7 =>
 (impl_PutNum D e3.2.2.2.2.1).bind fun r8 =>
 (impl_PutText D e3.2.2.2.2.2).bind fun r9 =>
 (impl_joined D [y5, r4, r5, r6, r7, r8, r9]).bind fun r10 =>
 impl_StateBytes_k0 L (y0, y1, (IntKind.wrap .i64 (y2 + 1)), y3, y4, r10) else none)
 else (some (y3, y4, y5))
theorem impl_StateBytes_l0_of : OfL impl_StateBytes_k0 impl_StateBytes_l0 := ofL 249 0 fun _ _ _ => by kernel_rfl
def impl_StateBytes_l2 : RT ((List XFloor) × Int × Int × (List Int)) (List Int) := fun D L (y0, y1, y2, y3) =>
 bif (decide (y2 < y1)) then (bif inb y2 y0.length then
 let e14 := (rd1 zFloor y0 y2);
 (impl_PutNum D e14.1).bind fun r15 =>
 (impl_PutNum D e14.2).bind fun r16 =>
 (impl_joined D [y3, r15, r16]).bind fun r17 =>
 impl_StateBytes_k2 L (y0, y1, (IntKind.wrap .i64 (y2 + 1)), r17) else none)
 else (some y3)
theorem impl_StateBytes_l2_of : OfL impl_StateBytes_k2 impl_StateBytes_l2 := ofL 249 2 fun _ _ _ => by kernel_rfl
def impl_StateBytes_raw : RT XState (List Int) := fun D L (a0, a1) =>
 (impl_StateOk D (a0, a1)).bind fun r1 =>
 bif (!r1) then (some [])
 else ((impl_PutNum D (a0.length : Int)).bind fun r2 =>
 (impl_StateBytes_k0 L (a0, (a0.length : Int), 0, a0, a1, r2)).bind fun z11 =>
 (impl_PutNum D (z11.2.1.length : Int)).bind fun r12 =>
 (impl_joined D [z11.2.2, r12]).bind fun r13 =>
 (impl_StateBytes_k2 L (z11.2.1, (z11.2.1.length : Int), 0, r13)).bind fun z18 =>
 some z18)
theorem impl_StateBytes_of : OfF impl_StateBytes impl_StateBytes_raw := ofF 249 fun _ _ _ => by kernel_rfl
def impl_joined_l0 : RT ((List (List Int)) × Int × Int × (List Int)) (List Int) := fun D L (y0, y1, y2, y3) =>
 bif (decide (y2 < y1)) then (bif inb y2 y0.length then
 bif fits (List.length y3 + List.length (rd1 ([] : List Int) y0 y2)) 1 then
 impl_joined_k0 L (y0, y1, (IntKind.wrap .i64 (y2 + 1)), (y3 ++ (rd1 ([] : List Int) y0 y2))) else none else none)
 else (some y3)
theorem impl_joined_l0_of : OfL impl_joined_k0 impl_joined_l0 := ofL 252 0 fun _ _ _ => by kernel_rfl
def impl_joined_raw : RT (List (List Int)) (List Int) := fun D L a0 =>
 (impl_joined_k0 L (a0, (a0.length : Int), 0, [])).bind fun z1 =>
 some z1
theorem impl_joined_of : OfF impl_joined impl_joined_raw := ofF 252 fun _ _ _ => by kernel_rfl
def impl_PutNum_l0 : RT (Int × (List Int)) ((Int × (List Int))) := fun D L (y0, y1) =>
 bif (decide (128 ≤ y0)) then (bif decide ((128 : Int) ≠ 0) then
 bif fits (List.length y1 + List.length ([(IntKind.wrap .u8 (IntKind.wrap .i64 ((Int.tmod y0 128) + 128)))] : List Int)) 1 then
 bif decide ((128 : Int) ≠ 0) then
 impl_PutNum_k0 L ((IntKind.wrap .i64 (Int.tdiv y0 128)), (y1 ++ ([(IntKind.wrap .u8 (IntKind.wrap .i64 ((Int.tmod y0 128) + 128)))] : List Int))) else none else none else none)
 else (some (y0, y1))
theorem impl_PutNum_l0_of : OfL impl_PutNum_k0 impl_PutNum_l0 := ofL 253 0 fun _ _ _ => by kernel_rfl
def impl_PutNum_raw : RT Int (List Int) := fun D L a0 =>
 (impl_within D (a0, 0, 2147483647)).bind fun r1 =>
 bif (!r1) then (some [])
 else ((impl_PutNum_k0 L (a0, [])).bind fun z2 =>
 bif fits (List.length z2.2 + List.length ([(IntKind.wrap .u8 z2.1)] : List Int)) 1 then
 some (z2.2 ++ ([(IntKind.wrap .u8 z2.1)] : List Int)) else none)
theorem impl_PutNum_of : OfF impl_PutNum impl_PutNum_raw := ofF 253 fun _ _ _ => by kernel_rfl
def laws_szEntry_raw : RT (Int × Int × Int × Int × ByteArray × Int) Int := fun D L (a0, a1, a2, a3, a4, a5) =>
 bif (decide ((IntKind.wrap .i64 (a5 - ((ByteArray.size a4) : Int))) < 0)) then (some (-1))
 else (some (IntKind.wrap .i64 (a5 - ((ByteArray.size a4) : Int))))
theorem laws_szEntry_of : OfF laws_szEntry laws_szEntry_raw := ofF 283 fun _ _ _ => by kernel_rfl
def spec_l6Slice_l0 : RT ((List Int) × Int × (List XItem) × (List XFloor) × (List XItem) × (List XFloor)) (((List Int) × (List XItem) × (List XFloor) × (List XItem) × (List XFloor))) := fun D L (y0, y1, y2, y3, y4, y5) =>
 bif (decide (y1 < (y2.length : Int))) then (bif inb y1 y2.length then
 let e1 := (rd1 zItem y2 y1);
 (spec_LeafOf D e1.1).bind fun r2 =>
 (spec_l1Has D (y0, r2)).bind fun r3 =>
 bif r3 then (bif inb y1 y2.length then
 let e4 := (rd1 zItem y2 y1);
 bif fits (List.length y4 + List.length ([e4] : List XItem)) 56 then
 spec_l6Slice_k0 L (y0, (IntKind.wrap .i64 (y1 + 1)), y2, y3, (y4 ++ ([e4] : List XItem)), y5) else none else none)
 else (spec_l6Slice_k0 L (y0, (IntKind.wrap .i64 (y1 + 1)), y2, y3, y4, y5)) else none)
 else (some (y0, y2, y3, y4, y5))
theorem spec_l6Slice_l0_of : OfL spec_l6Slice_k0 spec_l6Slice_l0 := ofL 284 0 fun _ _ _ => by kernel_rfl
def spec_l6Slice_l2 : RT ((List Int) × Int × (List XItem) × (List XFloor) × (List XItem) × (List XFloor)) XState := fun D L (y0, y1, y2, y3, y4, y5) =>
 bif (decide (y1 < (y3.length : Int))) then (bif inb y1 y3.length then
 let e6 := (rd1 zFloor y3 y1);
 (spec_LeafOf D e6.1).bind fun r7 =>
 (spec_l1Has D (y0, r7)).bind fun r8 =>
 bif r8 then (bif inb y1 y3.length then
 let e9 := (rd1 zFloor y3 y1);
 bif fits (List.length y5 + List.length ([e9] : List XFloor)) 16 then
 spec_l6Slice_k2 L (y0, (IntKind.wrap .i64 (y1 + 1)), y2, y3, y4, (y5 ++ ([e9] : List XFloor))) else none else none)
 else (spec_l6Slice_k2 L (y0, (IntKind.wrap .i64 (y1 + 1)), y2, y3, y4, y5)) else none)
 else (some (y4, y5))
theorem spec_l6Slice_l2_of : OfL spec_l6Slice_k2 spec_l6Slice_l2 := ofL 284 2 fun _ _ _ => by kernel_rfl
def spec_l6Slice_raw : RT ((List XItem) × (List XFloor) × (List Int)) XState := fun D L (a0, a1, a2) =>
 (spec_l6Slice_k0 L (a2, 0, a0, a1, [], [])).bind fun z5 =>
 (spec_l6Slice_k2 L (z5.1, 0, z5.2)).bind fun z10 =>
 some z10
theorem spec_l6Slice_of : OfF spec_l6Slice spec_l6Slice_raw := ofF 284 fun _ _ _ => by kernel_rfl
def spec_PutNum_l0 : RT (Int × (List Int)) ((Int × (List Int))) := fun D L (y0, y1) =>
 bif (decide (127 < y0)) then (bif decide ((128 : Int) ≠ 0) then
 bif fits (List.length y1 + List.length ([(IntKind.wrap .u8 (IntKind.wrap .i64 ((Int.tmod y0 128) + 128)))] : List Int)) 1 then
 bif decide ((128 : Int) ≠ 0) then
 spec_PutNum_k0 L ((IntKind.wrap .i64 (Int.tdiv y0 128)), (y1 ++ ([(IntKind.wrap .u8 (IntKind.wrap .i64 ((Int.tmod y0 128) + 128)))] : List Int))) else none else none else none)
 else (some (y0, y1))
theorem spec_PutNum_l0_of : OfL spec_PutNum_k0 spec_PutNum_l0 := ofL 285 0 fun _ _ _ => by kernel_rfl
def spec_PutNum_raw : RT Int (List Int) := fun D L a0 =>
 (spec_l1In D (a0, 0, 2147483647)).bind fun r1 =>
 bif (!r1) then (some [])
 else ((spec_PutNum_k0 L (a0, [])).bind fun z2 =>
 bif fits (List.length z2.2 + List.length ([(IntKind.wrap .u8 z2.1)] : List Int)) 1 then
 some (z2.2 ++ ([(IntKind.wrap .u8 z2.1)] : List Int)) else none)
theorem spec_PutNum_of : OfF spec_PutNum spec_PutNum_raw := ofF 285 fun _ _ _ => by kernel_rfl
def laws_toEntry_raw : RT XEntry XEntry := fun D L (a0, a1, a2, a3, a4) =>
 some (a0, a1, a2, a3, a4)
theorem laws_toEntry_of : OfF laws_toEntry laws_toEntry_raw := ofF 286 fun _ _ _ => by kernel_rfl
def impl_Crc_l0 : RT (Int × (List Int) × Int × Int) Int := fun D L (y0, y1, y2, y3) =>
 bif (decide (y3 < y2)) then (bif inb y3 y1.length then
 (impl_Crc_k2 L ((bits .xor .i64 y0 (IntKind.wrap .i64 (rd1 (0 : Int) y1 y3))), y1, y2, y3, 0)).bind fun z1 =>
 impl_Crc_k0 L (z1.1, z1.2.1, z1.2.2.1, (IntKind.wrap .i64 (z1.2.2.2 + 1))) else none)
 else (some y0)
theorem impl_Crc_l0_of : OfL impl_Crc_k0 impl_Crc_l0 := ofL 287 0 fun _ _ _ => by kernel_rfl
def impl_Crc_l2 : RT (Int × (List Int) × Int × Int × Int) ((Int × (List Int) × Int × Int)) := fun D L (y0, y1, y2, y3, y4) =>
 bif (decide (y4 < 8)) then (bif decide ((2 : Int) ≠ 0) then
 bif decide ((2 : Int) ≠ 0) then
 bif (decide ((Int.tmod y0 2) = 1)) then (impl_Crc_k2 L ((bits .xor .i64 (IntKind.wrap .i64 (Int.tdiv y0 2)) 3988292384), y1, y2, y3, (IntKind.wrap .i64 (y4 + 1))))
 else (impl_Crc_k2 L ((IntKind.wrap .i64 (Int.tdiv y0 2)), y1, y2, y3, (IntKind.wrap .i64 (y4 + 1)))) else none else none)
 else (some (y0, y1, y2, y3))
theorem impl_Crc_l2_of : OfL impl_Crc_k2 impl_Crc_l2 := ofL 287 2 fun _ _ _ => by kernel_rfl
def impl_Crc_raw : RT (List Int) Int := fun D L a0 =>
 (impl_Crc_k0 L (4294967295, a0, (a0.length : Int), 0)).bind fun z2 =>
 some (bits .xor .i64 z2 4294967295)
theorem impl_Crc_of : OfF impl_Crc impl_Crc_raw := ofF 287 fun _ _ _ => by kernel_rfl
def impl_Slice_l0 : RT ((List Int) × (List XItem) × Int × Int × (List XItem) × (List XFloor) × (List XItem) × (List XFloor)) (((List Int) × (List XItem) × (List XFloor) × (List XItem) × (List XFloor))) := fun D L (y0, y1, y2, y3, y4, y5, y6, y7) =>
 bif (decide (y3 < y2)) then (bif inb y3 y1.length then
 let e2 := (rd1 zItem y1 y3);
 (impl_LeafOf D e2.1).bind fun r3 =>
 (slices_Containsint_int D (y0, r3)).bind fun r4 =>
 bif r4 then (bif fits (List.length y6 + List.length ([e2] : List XItem)) 56 then
 impl_Slice_k0 L (y0, y1, y2, (IntKind.wrap .i64 (y3 + 1)), y4, y5, (y6 ++ ([e2] : List XItem)), y7) else none)
 else (impl_Slice_k0 L (y0, y1, y2, (IntKind.wrap .i64 (y3 + 1)), y4, y5, y6, y7)) else none)
 else (some (y0, y4, y5, y6, y7))
theorem impl_Slice_l0_of : OfL impl_Slice_k0 impl_Slice_l0 := ofL 288 0 fun _ _ _ => by kernel_rfl
def impl_Slice_l2 : RT ((List Int) × (List XFloor) × Int × Int × (List XItem) × (List XFloor)) XState := fun D L (y0, y1, y2, y3, y4, y5) =>
 bif (decide (y3 < y2)) then (bif inb y3 y1.length then
 let e6 := (rd1 zFloor y1 y3);
 (impl_LeafOf D e6.1).bind fun r7 =>
 (slices_Containsint_int D (y0, r7)).bind fun r8 =>
 bif r8 then (bif fits (List.length y5 + List.length ([e6] : List XFloor)) 16 then
 impl_Slice_k2 L (y0, y1, y2, (IntKind.wrap .i64 (y3 + 1)), y4, (y5 ++ ([e6] : List XFloor))) else none)
 else (impl_Slice_k2 L (y0, y1, y2, (IntKind.wrap .i64 (y3 + 1)), y4, y5)) else none)
 else (some (y4, y5))
theorem impl_Slice_l2_of : OfL impl_Slice_k2 impl_Slice_l2 := ofL 288 2 fun _ _ _ => by kernel_rfl
def impl_Slice_raw : RT ((List XItem) × (List XFloor) × (List Int)) XState := fun D L (a0, a1, a2) =>
 (impl_StateOk D (a0, a1)).bind fun r1 =>
 bif (!r1) then (some ([], []))
 else ((impl_Slice_k0 L (a2, a0, (a0.length : Int), 0, a0, a1, [], [])).bind fun z5 =>
 (impl_Slice_k2 L (z5.1, z5.2.2.1, (z5.2.2.1.length : Int), 0, z5.2.2.2)).bind fun z9 =>
 some z9)
theorem impl_Slice_of : OfF impl_Slice impl_Slice_raw := ofF 288 fun _ _ _ => by kernel_rfl
def spec_PutText_raw : RT ByteArray (List Int) := fun D L a0 =>
 (spec_PutNum D ((ByteArray.size a0) : Int)).bind fun r1 =>
 bif fits (List.length r1 + List.length (ofBytes a0)) 1 then
 some (r1 ++ (ofBytes a0)) else none
theorem spec_PutText_of : OfF spec_PutText spec_PutText_raw := ofF 294 fun _ _ _ => by kernel_rfl
def impl_PutText_raw : RT ByteArray (List Int) := fun D L a0 =>
 (impl_PutNum D ((ByteArray.size a0) : Int)).bind fun r1 =>
 (impl_joined D [r1, (ofBytes a0)]).bind fun r2 =>
 some r2
theorem impl_PutText_of : OfF impl_PutText impl_PutText_raw := ofF 297 fun _ _ _ => by kernel_rfl
def spec_l1Has_l0 : RT ((List Int) × Int × Int) (Bool ⊕ Unit) := fun D L (y0, y1, y2) =>
 bif (decide (y2 < (y0.length : Int))) then (bif inb y2 y0.length then
 bif (decide ((rd1 (0 : Int) y0 y2) = y1)) then (some (Sum.inl true))
 else (spec_l1Has_k0 L (y0, y1, (IntKind.wrap .i64 (y2 + 1)))) else none)
 else (some (Sum.inr ()))
theorem spec_l1Has_l0_of : OfL spec_l1Has_k0 spec_l1Has_l0 := ofL 315 0 fun _ _ _ => by kernel_rfl
def spec_l1Has_raw : RT XTree Bool := fun D L (a0, a1) =>
 (spec_l1Has_k0 L (a0, a1, 0)).bind fun z1 =>
 elimS z1 (fun u2 =>
 some u2)
 (fun z3 =>
 some false)
theorem spec_l1Has_of : OfF spec_l1Has spec_l1Has_raw := ofF 315 fun _ _ _ => by kernel_rfl
def spec_LeafOf_raw : RT Int Int := fun D L a0 =>
 (spec_l3Node D a0).bind fun r1 =>
 bif (!r1) then (some (-1))
 else ((spec_PutNum D a0).bind fun r2 =>
 (spec_Crc D r2).bind fun r3 =>
 bif decide ((4 : Int) ≠ 0) then
 some (Int.tmod r3 4) else none)
theorem spec_LeafOf_of : OfF spec_LeafOf spec_LeafOf_raw := ofF 316 fun _ _ _ => by kernel_rfl
def slices_Containsint_int_raw : RT XTree Bool := fun D L (a0, a1) =>
 (slices_Indexint_int D (a0, a1)).bind fun r1 =>
 some (decide (0 ≤ r1))
theorem slices_Containsint_int_of : OfF slices_Containsint_int slices_Containsint_int_raw := ofF 317 fun _ _ _ => by kernel_rfl
end
end Go.Proofs.YtjenicbpdklpbaaGreat.M
