/- Plain forms of the functions that FnExactPlainWhen reaches, part 3. No conditions. -/
import Derived.Test.YtjenicbpdklpbaaGreatFnExactPlainWhenTab
set_option linter.all false
namespace Go.Proofs.YtjenicbpdklpbaaGreat.M
open Go Go.Eng Go.Proofs
set_option linter.unusedVariables false
noncomputable section
def impl_TableOk_l0 : RT ((List (List Int)) × Int × (List (List Int)) × Int × Int) (Bool ⊕ (((List (List Int)) × Int))) := fun D L (y0, y1, y2, y3, y4) =>
 bif (decide (y4 < y3)) then (bif inb y4 y2.length then
 (impl_TableOk_k2 L (y0, y1, (rd1 ([] : List Int) y2 y4), y2, y3, y4, (rd1 ([] : List Int) y2 y4), ((List.length (rd1 ([] : List Int) y2 y4)) : Int), 0)).bind fun z2 =>
 elimS z2 (fun u3 =>
 some (Sum.inl u3))
 (fun z4 =>
 bif (!decide ((z4.2.2.1.length : Int) = 5)) then (some (Sum.inl false))
 else (impl_TableOk_k0 L (z4.1, z4.2.1, z4.2.2.2.1, z4.2.2.2.2.1, (IntKind.wrap .i64 (z4.2.2.2.2.2 + 1))))) else none)
 else (some (Sum.inr (y0, y1)))
theorem impl_TableOk_l0_of : OfL impl_TableOk_k0 impl_TableOk_l0 := ofL 173 0 fun _ _ _ => by kernel_rfl
def impl_TableOk_l2 : RT ((List (List Int)) × Int × (List Int) × (List (List Int)) × Int × Int × (List Int) × Int × Int) (Bool ⊕ (((List (List Int)) × Int × (List Int) × (List (List Int)) × Int × Int))) := fun D L (y0, y1, y2, y3, y4, y5, y6, y7, y8) =>
 bif (decide (y8 < y7)) then (bif inb y8 y6.length then
 (impl_within D ((rd1 (0 : Int) y6 y8), 0, 1000)).bind fun r1 =>
 bif (!r1) then (some (Sum.inl false))
 else (impl_TableOk_k2 L (y0, y1, y2, y3, y4, y5, y6, y7, (IntKind.wrap .i64 (y8 + 1)))) else none)
 else (some (Sum.inr (y0, y1, y2, y3, y4, y5)))
theorem impl_TableOk_l2_of : OfL impl_TableOk_k2 impl_TableOk_l2 := ofL 173 2 fun _ _ _ => by kernel_rfl
def impl_TableOk_raw : RT ((List (List Int)) × Int) Bool := fun D L (a0, a1) =>
 (impl_TableOk_k0 L (a0, a1, a0, (a0.length : Int), 0)).bind fun z5 =>
 elimS z5 (fun u6 =>
 some u6)
 (fun z7 =>
 (impl_within D (z7.2, 1, 5)).bind fun r8 =>
 bif r8 then (some (decide ((z7.1.length : Int) = z7.2)))
 else (some false))
theorem impl_TableOk_of : OfF impl_TableOk impl_TableOk_raw := ofF 173 fun _ _ _ => by kernel_rfl
def impl_sessOk_l0 : RT ((List XSess) × Int × Int × Int × Int × (List XItem) × (List XFloor) × (List Int) × Int × Int × Int × (List XState) × (List Int) × (List Int) × (List (List Int)) × Int × Int × (List XSess) × Int × Int × Int × (List XRise)) (Bool ⊕ XNode) := fun D L (y0, y1, y2, y3, y4, y5, y6, y7, y8, y9, y10, y11, y12, y13, y14, y15, y16, y17, y18, y19, y20, y21) =>
 bif (decide (y2 < y1)) then (bif inb y2 y0.length then
 let e1 := (rd1 zSess y0 y2);
 (impl_isPeer D (y3, y4, y5, y6, y7, y8, y9, y10, y11, y12, y13, y14, y15, y16, y17, y18, y19, y20, y21, e1.1)).bind fun r2 =>
 bif (!r2) then (some (Sum.inl false))
 else ((impl_within D (e1.2.1, 0, 100000)).bind fun r3 =>
 bif (!r3) then (some (Sum.inl false))
 else ((impl_within D (e1.2.2.2, 0, y18)).bind fun r4 =>
 bif (!r4) then (some (Sum.inl false))
 else ((impl_Slot D (y3, y4, y5, y6, y7, y8, y9, y10, y11, y12, y13, y14, y15, y16, y17, y18, y19, y20, y21, e1.1, e1.2.2.1)).bind fun r5 =>
 bif (!decide (r5 = y2)) then (some (Sum.inl false))
 else (impl_sessOk_k0 L (y0, y1, (IntKind.wrap .i64 (y2 + 1)), y3, y4, y5, y6, y7, y8, y9, y10, y11, y12, y13, y14, y15, y16, y17, y18, y19, y20, y21))))) else none)
 else (some (Sum.inr (y3, y4, y5, y6, y7, y8, y9, y10, y11, y12, y13, y14, y15, y16, y17, y18, y19, y20, y21)))
theorem impl_sessOk_l0_of : OfL impl_sessOk_k0 impl_sessOk_l0 := ofL 174 0 fun _ _ _ => by kernel_rfl
def impl_sessOk_raw : RT XNode Bool := fun D L (a0, a1, a2, a3, a4, a5, a6, a7, a8, a9, a10, a11, a12, a13, a14, a15, a16, a17, a18) =>
 (impl_sessOk_k0 L (a14, (a14.length : Int), 0, a0, a1, a2, a3, a4, a5, a6, a7, a8, a9, a10, a11, a12, a13, a14, a15, a16, a17, a18)).bind fun z6 =>
 elimS z6 (fun u7 =>
 some u7)
 (fun z8 =>
 (impl_within D (z8.2.2.2.2.2.2.2.2.2.2.2.2.2.1, 1, 4)).bind fun r9 =>
 bif r9 then (some (decide ((z8.2.2.2.2.2.2.2.2.2.2.2.2.2.2.1.length : Int) ≤ z8.2.2.2.2.2.2.2.2.2.2.2.2.2.1)))
 else (some false))
theorem impl_sessOk_of : OfF impl_sessOk impl_sessOk_raw := ofF 174 fun _ _ _ => by kernel_rfl
def impl_risesOk_l0 : RT ((List XRise) × Int × Int × Int × Int × (List XItem) × (List XFloor) × (List Int) × Int × Int × Int × (List XState) × (List Int) × (List Int) × (List (List Int)) × Int × Int × (List XSess) × Int × Int × Int × (List XRise)) (Bool ⊕ XNode) := fun D L (y0, y1, y2, y3, y4, y5, y6, y7, y8, y9, y10, y11, y12, y13, y14, y15, y16, y17, y18, y19, y20, y21) =>
 bif (decide (y2 < y1)) then (bif inb y2 y0.length then
 let e1 := (rd1 zRise y0 y2);
 (impl_within D (e1.1, 0, 1000)).bind fun r2 =>
 bif (!r2) then (some (Sum.inl false))
 else ((impl_within D (e1.2.1, 0, 100000)).bind fun r3 =>
 bif (!r3) then (some (Sum.inl false))
 else ((impl_within D (e1.2.2, 0, y20)).bind fun r4 =>
 bif (!r4) then (some (Sum.inl false))
 else (impl_risesOk_k0 L (y0, y1, (IntKind.wrap .i64 (y2 + 1)), y3, y4, y5, y6, y7, y8, y9, y10, y11, y12, y13, y14, y15, y16, y17, y18, y19, y20, y21)))) else none)
 else (some (Sum.inr (y3, y4, y5, y6, y7, y8, y9, y10, y11, y12, y13, y14, y15, y16, y17, y18, y19, y20, y21)))
theorem impl_risesOk_l0_of : OfL impl_risesOk_k0 impl_risesOk_l0 := ofL 175 0 fun _ _ _ => by kernel_rfl
def impl_risesOk_raw : RT XNode Bool := fun D L (a0, a1, a2, a3, a4, a5, a6, a7, a8, a9, a10, a11, a12, a13, a14, a15, a16, a17, a18) =>
 (impl_risesOk_k0 L (a18, (a18.length : Int), 0, a0, a1, a2, a3, a4, a5, a6, a7, a8, a9, a10, a11, a12, a13, a14, a15, a16, a17, a18)).bind fun z5 =>
 elimS z5 (fun u6 =>
 some u6)
 (fun z7 =>
 some (decide ((z7.2.2.2.2.2.2.2.2.2.2.2.2.2.2.2.2.2.2.length : Int) = 5)))
theorem impl_risesOk_of : OfF impl_risesOk impl_risesOk_raw := ofF 175 fun _ _ _ => by kernel_rfl
def laws_eqFloorS_l0 : RT ((List XFloor) × (List XFloor) × Int) (Bool ⊕ Unit) := fun D L (y0, y1, y2) =>
 bif (decide (y2 < (y0.length : Int))) then (bif inb y2 y0.length then
 let e1 := (rd1 zFloor y0 y2);
 bif inb y2 y1.length then
 let e2 := (rd1 zFloor y1 y2);
 (laws_eqFloor D (e1.1, e1.2, e2)).bind fun r3 =>
 bif (!r3) then (some (Sum.inl false))
 else (laws_eqFloorS_k0 L (y0, y1, (IntKind.wrap .i64 (y2 + 1)))) else none else none)
 else (some (Sum.inr ()))
theorem laws_eqFloorS_l0_of : OfL laws_eqFloorS_k0 laws_eqFloorS_l0 := ofL 176 0 fun _ _ _ => by kernel_rfl
def laws_eqFloorS_raw : RT ((List XFloor) × (List XFloor)) Bool := fun D L (a0, a1) =>
 bif (!decide ((a0.length : Int) = (a1.length : Int))) then (some false)
 else ((laws_eqFloorS_k0 L (a0, a1, 0)).bind fun z4 =>
 elimS z4 (fun u5 =>
 some u5)
 (fun z6 =>
 some true))
theorem laws_eqFloorS_of : OfF laws_eqFloorS laws_eqFloorS_raw := ofF 176 fun _ _ _ => by kernel_rfl
def laws_eqStateS_l0 : RT ((List XState) × (List XState) × Int) (Bool ⊕ Unit) := fun D L (y0, y1, y2) =>
 bif (decide (y2 < (y0.length : Int))) then (bif inb y2 y0.length then
 let e1 := (rd1 zState y0 y2);
 bif inb y2 y1.length then
 let e2 := (rd1 zState y1 y2);
 (laws_eqState D (e1.1, e1.2, e2)).bind fun r3 =>
 bif (!r3) then (some (Sum.inl false))
 else (laws_eqStateS_k0 L (y0, y1, (IntKind.wrap .i64 (y2 + 1)))) else none else none)
 else (some (Sum.inr ()))
theorem laws_eqStateS_l0_of : OfL laws_eqStateS_k0 laws_eqStateS_l0 := ofL 177 0 fun _ _ _ => by kernel_rfl
def laws_eqStateS_raw : RT ((List XState) × (List XState)) Bool := fun D L (a0, a1) =>
 bif (!decide ((a0.length : Int) = (a1.length : Int))) then (some false)
 else ((laws_eqStateS_k0 L (a0, a1, 0)).bind fun z4 =>
 elimS z4 (fun u5 =>
 some u5)
 (fun z6 =>
 some true))
theorem laws_eqStateS_of : OfF laws_eqStateS laws_eqStateS_raw := ofF 177 fun _ _ _ => by kernel_rfl
def laws_eqSess_raw : RT (Int × Int × Bool × Int × Int × Int × Bool × Int) Bool := fun D L (a0, a1, a2, a3, a4, a5, a6, a7) =>
 bif (!decide (a0 = a4)) then (some false)
 else (bif (!decide (a1 = a5)) then (some false)
 else (bif (!(a2 == a6)) then (some false)
 else (bif (!decide (a3 = a7)) then (some false)
 else (some true))))
theorem laws_eqSess_of : OfF laws_eqSess laws_eqSess_raw := ofF 178 fun _ _ _ => by kernel_rfl
def laws_eqRise_raw : RT (Int × Int × Int × Int × Int × Int) Bool := fun D L (a0, a1, a2, a3, a4, a5) =>
 bif (!decide (a0 = a3)) then (some false)
 else (bif (!decide (a1 = a4)) then (some false)
 else (bif (!decide (a2 = a5)) then (some false)
 else (some true)))
theorem laws_eqRise_of : OfF laws_eqRise laws_eqRise_raw := ofF 179 fun _ _ _ => by kernel_rfl
def laws_markFloorS_l0 : RT (Int × Int × (List XFloor)) ((Int × (List XFloor))) := fun D L (y0, y1, y2) =>
 bif (decide (y1 < (y2.length : Int))) then (bif inb y1 y2.length then
 let e1 := (rd1 zFloor y2 y1);
 let l2 := List.set y2 (Int.toNat y1) (y0, e1.2);
 bif inb y1 l2.length then
 let e3 := (rd1 zFloor l2 y1);
 let l4 := List.set l2 (Int.toNat y1) (e3.1, (IntKind.wrap .i64 (y0 + 1)));
 laws_markFloorS_k0 L ((IntKind.wrap .i64 ((IntKind.wrap .i64 (y0 + 1)) + 1)), (IntKind.wrap .i64 (y1 + 1)), l4) else none else none)
 else (some (y0, y2))
theorem laws_markFloorS_l0_of : OfL laws_markFloorS_k0 laws_markFloorS_l0 := ofL 180 0 fun _ _ _ => by kernel_rfl
def laws_markFloorS_raw : RT ((List XFloor) × Int) (Int × (List XFloor)) := fun D L (a0, a1) =>
 (laws_markFloorS_k0 L (a1, 0, a0)).bind fun z5 =>
 some z5
theorem laws_markFloorS_of : OfF laws_markFloorS laws_markFloorS_raw := ofF 180 fun _ _ _ => by kernel_rfl
def laws_markStateS_l0 : RT XLog ((Int × (List XState))) := fun D L (y0, y1, y2) =>
 bif (decide (y1 < (y2.length : Int))) then (bif inb y1 y2.length then
 let e1 := (rd1 zState y2 y1);
 (laws_markItemS D ((rd1 zState y2 y1).1, y0)).bind fun r2 =>
 let e3 := (rd1 zState y2 y1);
 let l4 := List.set y2 (Int.toNat y1) (r2.2, e3.2);
 bif inb y1 l4.length then
 let e5 := (rd1 zState l4 y1);
 (laws_markFloorS D ((rd1 zState l4 y1).2, r2.1)).bind fun r6 =>
 let e7 := (rd1 zState l4 y1);
 let l8 := List.set l4 (Int.toNat y1) (e7.1, r6.2);
 laws_markStateS_k0 L (r6.1, (IntKind.wrap .i64 (y1 + 1)), l8) else none else none)
 else (some (y0, y2))
theorem laws_markStateS_l0_of : OfL laws_markStateS_k0 laws_markStateS_l0 := ofL 181 0 fun _ _ _ => by kernel_rfl
def laws_markStateS_raw : RT ((List XState) × Int) (Int × (List XState)) := fun D L (a0, a1) =>
 (laws_markStateS_k0 L (a1, 0, a0)).bind fun z9 =>
 some z9
theorem laws_markStateS_of : OfF laws_markStateS laws_markStateS_raw := ofF 181 fun _ _ _ => by kernel_rfl
def laws_eqEntry_raw : RT (Int × Int × Int × Int × ByteArray × Int × Int × Int × Int × ByteArray) Bool := fun D L (a0, a1, a2, a3, a4, a5, a6, a7, a8, a9) =>
 bif (!decide (a0 = a5)) then (some false)
 else (bif (!decide (a1 = a6)) then (some false)
 else (bif (!decide (a2 = a7)) then (some false)
 else (bif (!decide (a3 = a8)) then (some false)
 else (bif (!beqS a4 a9) then (some false)
 else (some true)))))
theorem laws_eqEntry_of : OfF laws_eqEntry laws_eqEntry_raw := ofF 184 fun _ _ _ => by kernel_rfl
def laws_markByteS_l0 : RT (Int × Int × (List Int)) ((Int × (List Int))) := fun D L (y0, y1, y2) =>
 bif (decide (y1 < (y2.length : Int))) then (bif inb y1 y2.length then
 let l1 := List.set y2 (Int.toNat y1) (IntKind.wrap .u8 y0);
 laws_markByteS_k0 L ((IntKind.wrap .i64 (y0 + 1)), (IntKind.wrap .i64 (y1 + 1)), l1) else none)
 else (some (y0, y2))
theorem laws_markByteS_l0_of : OfL laws_markByteS_k0 laws_markByteS_l0 := ofL 185 0 fun _ _ _ => by kernel_rfl
def laws_markByteS_raw : RT ((List Int) × Int) (Int × (List Int)) := fun D L (a0, a1) =>
 (laws_markByteS_k0 L (a1, 0, a0)).bind fun z2 =>
 some z2
theorem laws_markByteS_of : OfF laws_markByteS laws_markByteS_raw := ofF 185 fun _ _ _ => by kernel_rfl
def spec_EntryOf_l0 : RT (Int × Int × (List XItem) × (List XFloor)) (((Bool × Int × Int × Int × Int × ByteArray)) ⊕ Unit) := fun D L (y0, y1, y2, y3) =>
 bif (decide (y1 < (y2.length : Int))) then (bif inb y1 y2.length then
 let e1 := (rd1 zItem y2 y1);
 bif (decide (e1.1 = y0)) then (bif inb y1 y2.length then
 let e2 := (rd1 zItem y2 y1);
 some (Sum.inl (true, e2.2)) else none)
 else (spec_EntryOf_k0 L (y0, (IntKind.wrap .i64 (y1 + 1)), y2, y3)) else none)
 else (some (Sum.inr ()))
theorem spec_EntryOf_l0_of : OfL spec_EntryOf_k0 spec_EntryOf_l0 := ofL 186 0 fun _ _ _ => by kernel_rfl
def spec_EntryOf_raw : RT ((List XItem) × (List XFloor) × Int) (Int × Int × Int × Int × ByteArray × Bool) := fun D L (a0, a1, a2) =>
 (spec_EntryOf_k0 L (a2, 0, a0, a1)).bind fun z3 =>
 elimS z3 (fun u4 =>
 some (u4.2.1, u4.2.2.1, u4.2.2.2.1, u4.2.2.2.2.1, u4.2.2.2.2.2, u4.1))
 (fun z5 =>
 some (0, 0, 0, 0, ByteArray.empty, false))
theorem spec_EntryOf_of : OfF spec_EntryOf spec_EntryOf_raw := ofF 186 fun _ _ _ => by kernel_rfl
def impl_EntryOf_l0 : RT (Int × (List XItem) × Int × Int) (((Bool × Int × Int × Int × Int × ByteArray)) ⊕ Unit) := fun D L (y0, y1, y2, y3) =>
 bif (decide (y3 < y2)) then (bif inb y3 y1.length then
 let e1 := (rd1 zItem y1 y3);
 bif (decide (e1.1 = y0)) then (some (Sum.inl (true, e1.2)))
 else (impl_EntryOf_k0 L (y0, y1, y2, (IntKind.wrap .i64 (y3 + 1)))) else none)
 else (some (Sum.inr ()))
theorem impl_EntryOf_l0_of : OfL impl_EntryOf_k0 impl_EntryOf_l0 := ofL 187 0 fun _ _ _ => by kernel_rfl
def impl_EntryOf_raw : RT ((List XItem) × (List XFloor) × Int) (Int × Int × Int × Int × ByteArray × Bool) := fun D L (a0, a1, a2) =>
 (impl_EntryOf_k0 L (a2, a0, (a0.length : Int), 0)).bind fun z2 =>
 elimS z2 (fun u3 =>
 some (u3.2.1, u3.2.2.1, u3.2.2.2.1, u3.2.2.2.2.1, u3.2.2.2.2.2, u3.1))
 (fun z4 =>
 some (0, 0, 0, 0, ByteArray.empty, false))
theorem impl_EntryOf_of : OfF impl_EntryOf impl_EntryOf_raw := ofF 187 fun _ _ _ => by kernel_rfl
def spec_EntryMax_raw : RT (Int × Int × Int × Int × ByteArray × Int × Int × Int × Int × ByteArray) XEntry := fun D L (a0, a1, a2, a3, a4, a5, a6, a7, a8, a9) =>
 (spec_EntryCmp D (a0, a1, a2, a3, a4, a5, a6, a7, a8, a9)).bind fun r1 =>
 bif (decide (r1 < 0)) then (some (a5, a6, a7, a8, a9))
 else (some (a0, a1, a2, a3, a4))
theorem spec_EntryMax_of : OfF spec_EntryMax spec_EntryMax_raw := ofF 188 fun _ _ _ => by kernel_rfl
def impl_EntryMax_raw : RT (Int × Int × Int × Int × ByteArray × Int × Int × Int × Int × ByteArray) XEntry := fun D L (a0, a1, a2, a3, a4, a5, a6, a7, a8, a9) =>
 (impl_EntryCmp D (a0, a1, a2, a3, a4, a5, a6, a7, a8, a9)).bind fun r1 =>
 bif (decide (r1 < 0)) then (some (a5, a6, a7, a8, a9))
 else (some (a0, a1, a2, a3, a4))
theorem impl_EntryMax_of : OfF impl_EntryMax impl_EntryMax_raw := ofF 189 fun _ _ _ => by kernel_rfl
def laws_szByteS_raw : RT ((List Int) × Int) Int := fun D L (a0, a1) =>
 bif (decide ((IntKind.wrap .i64 (a1 - (a0.length : Int))) < 0)) then (some (-1))
 else (some (IntKind.wrap .i64 (a1 - (a0.length : Int))))
theorem laws_szByteS_of : OfF laws_szByteS laws_szByteS_raw := ofF 216 fun _ _ _ => by kernel_rfl
def laws_toByteS_l0 : RT ((List Int) × Int × (List Int)) (List Int) := fun D L (y0, y1, y2) =>
 bif (decide (y1 < (y0.length : Int))) then (bif inb y1 y0.length then
 bif inb y1 y2.length then
 let l1 := List.set y2 (Int.toNat y1) (rd1 (0 : Int) y0 y1);
 laws_toByteS_k0 L (y0, (IntKind.wrap .i64 (y1 + 1)), l1) else none else none)
 else (some y2)
theorem laws_toByteS_l0_of : OfL laws_toByteS_k0 laws_toByteS_l0 := ofL 217 0 fun _ _ _ => by kernel_rfl
def laws_toByteS_raw : RT (List Int) (List Int) := fun D L a0 =>
 bif (decide ((0 : Int) ≤ (a0.length : Int) ∧ ((a0.length : Int) : Int) = (a0.length : Int)) && fits (Int.toNat (a0.length : Int)) 1) then
 (laws_toByteS_k0 L (a0, 0, (List.replicate (Int.toNat (a0.length : Int)) 0))).bind fun z2 =>
 some z2 else none
theorem laws_toByteS_of : OfF laws_toByteS laws_toByteS_raw := ofF 217 fun _ _ _ => by kernel_rfl
def impl_isNode_raw : RT Int Bool := fun D L a0 =>
 (impl_within D (a0, 0, 4)).bind fun r1 =>
 some r1
theorem impl_isNode_of : OfF impl_isNode impl_isNode_raw := ofF 218 fun _ _ _ => by kernel_rfl
def impl_EntryOk_raw : RT XEntry Bool := fun D L (a0, a1, a2, a3, a4) =>
 (impl_within D (a0, 1, 1000)).bind fun r1 =>
 bif r1 then ((impl_within D (a1, 0, 1)).bind fun r2 =>
 bif r2 then ((impl_within D (a2, 0, 100000)).bind fun r3 =>
 bif r3 then ((impl_within D (a3, 0, 1000)).bind fun r4 =>
 bif r4 then (some (decide (((ByteArray.size a4) : Int) ≤ 8)))
 else (some false))
 else (some false))
 else (some false))
 else (some false)
theorem impl_EntryOk_of : OfF impl_EntryOk impl_EntryOk_raw := ofF 219 fun _ _ _ => by kernel_rfl
def impl_FloorOf_l0 : RT (Int × (List XFloor) × Int × Int) (Int ⊕ Unit) := fun D L (y0, y1, y2, y3) =>
 bif (decide (y3 < y2)) then (bif inb y3 y1.length then
 let e1 := (rd1 zFloor y1 y3);
 bif (decide (e1.1 = y0)) then (some (Sum.inl e1.2))
 else (impl_FloorOf_k0 L (y0, y1, y2, (IntKind.wrap .i64 (y3 + 1)))) else none)
 else (some (Sum.inr ()))
theorem impl_FloorOf_l0_of : OfL impl_FloorOf_k0 impl_FloorOf_l0 := ofL 220 0 fun _ _ _ => by kernel_rfl
def impl_FloorOf_raw : RT ((List XItem) × (List XFloor) × Int) Int := fun D L (a0, a1, a2) =>
 (impl_FloorOf_k0 L (a2, a1, (a1.length : Int), 0)).bind fun z2 =>
 elimS z2 (fun u3 =>
 some u3)
 (fun z4 =>
 some 0)
theorem impl_FloorOf_of : OfF impl_FloorOf impl_FloorOf_raw := ofF 220 fun _ _ _ => by kernel_rfl
def laws_eqByteS_l0 : RT ((List Int) × (List Int) × Int) (Bool ⊕ Unit) := fun D L (y0, y1, y2) =>
 bif (decide (y2 < (y0.length : Int))) then (bif inb y2 y0.length then
 bif inb y2 y1.length then
 bif (!decide ((rd1 (0 : Int) y0 y2) = (rd1 (0 : Int) y1 y2))) then (some (Sum.inl false))
 else (laws_eqByteS_k0 L (y0, y1, (IntKind.wrap .i64 (y2 + 1)))) else none else none)
 else (some (Sum.inr ()))
theorem laws_eqByteS_l0_of : OfL laws_eqByteS_k0 laws_eqByteS_l0 := ofL 221 0 fun _ _ _ => by kernel_rfl
def laws_eqByteS_raw : RT ((List Int) × (List Int)) Bool := fun D L (a0, a1) =>
 bif (!decide ((a0.length : Int) = (a1.length : Int))) then (some false)
 else ((laws_eqByteS_k0 L (a0, a1, 0)).bind fun z1 =>
 elimS z1 (fun u2 =>
 some u2)
 (fun z3 =>
 some true))
theorem laws_eqByteS_of : OfF laws_eqByteS laws_eqByteS_raw := ofF 221 fun _ _ _ => by kernel_rfl
def spec_l3Node_raw : RT Int Bool := fun D L a0 =>
 (spec_l1In D (a0, 0, 4)).bind fun r1 =>
 some r1
theorem spec_l3Node_of : OfF spec_l3Node spec_l3Node_raw := ofF 222 fun _ _ _ => by kernel_rfl
def spec_EntryOk_raw : RT XEntry Bool := fun D L (a0, a1, a2, a3, a4) =>
 (spec_l1In D (a0, 1, 1000)).bind fun r1 =>
 bif r1 then ((spec_l1In D (a1, 0, 1)).bind fun r2 =>
 bif r2 then ((spec_l1In D (a2, 0, 100000)).bind fun r3 =>
 bif r3 then ((spec_l1In D (a3, 0, 1000)).bind fun r4 =>
 bif r4 then (some (decide (((ByteArray.size a4) : Int) ≤ 8)))
 else (some false))
 else (some false))
 else (some false))
 else (some false)
theorem spec_EntryOk_of : OfF spec_EntryOk spec_EntryOk_raw := ofF 223 fun _ _ _ => by kernel_rfl
def spec_FloorOf_l0 : RT (Int × Int × (List XItem) × (List XFloor)) (Int ⊕ Unit) := fun D L (y0, y1, y2, y3) =>
 bif (decide (y1 < (y3.length : Int))) then (bif inb y1 y3.length then
 let e1 := (rd1 zFloor y3 y1);
 bif (decide (e1.1 = y0)) then (bif inb y1 y3.length then
 let e2 := (rd1 zFloor y3 y1);
 some (Sum.inl e2.2) else none)
 else (spec_FloorOf_k0 L (y0, (IntKind.wrap .i64 (y1 + 1)), y2, y3)) else none)
 else (some (Sum.inr ()))
theorem spec_FloorOf_l0_of : OfL spec_FloorOf_k0 spec_FloorOf_l0 := ofL 224 0 fun _ _ _ => by kernel_rfl
def spec_FloorOf_raw : RT ((List XItem) × (List XFloor) × Int) Int := fun D L (a0, a1, a2) =>
 (spec_FloorOf_k0 L (a2, 0, a0, a1)).bind fun z3 =>
 elimS z3 (fun u4 =>
 some u4)
 (fun z5 =>
 some 0)
theorem spec_FloorOf_of : OfF spec_FloorOf spec_FloorOf_raw := ofF 224 fun _ _ _ => by kernel_rfl
def laws_szItem_raw : RT (Int × Int × Int × Int × Int × ByteArray × Int) Int := fun D L (a0, a1, a2, a3, a4, a5, a6) =>
 (laws_szEntry D (a1, a2, a3, a4, a5, a6)).bind fun r1 =>
 bif (decide (r1 < 0)) then (some (-1))
 else (some r1)
theorem laws_szItem_of : OfF laws_szItem laws_szItem_raw := ofF 225 fun _ _ _ => by kernel_rfl
def spec_l1Same_l0 : RT ((List Int) × (List Int) × Int) (Bool ⊕ Unit) := fun D L (y0, y1, y2) =>
 bif (decide (y2 < (y0.length : Int))) then (bif inb y2 y0.length then
 bif inb y2 y1.length then
 bif (!decide ((rd1 (0 : Int) y0 y2) = (rd1 (0 : Int) y1 y2))) then (some (Sum.inl false))
 else (spec_l1Same_k0 L (y0, y1, (IntKind.wrap .i64 (y2 + 1)))) else none else none)
 else (some (Sum.inr ()))
theorem spec_l1Same_l0_of : OfL spec_l1Same_k0 spec_l1Same_l0 := ofL 226 0 fun _ _ _ => by kernel_rfl
def spec_l1Same_raw : RT ((List Int) × (List Int)) Bool := fun D L (a0, a1) =>
 bif (!decide ((a0.length : Int) = (a1.length : Int))) then (some false)
 else ((spec_l1Same_k0 L (a0, a1, 0)).bind fun z1 =>
 elimS z1 (fun u2 =>
 some u2)
 (fun z3 =>
 some true))
theorem spec_l1Same_of : OfF spec_l1Same spec_l1Same_raw := ofF 226 fun _ _ _ => by kernel_rfl
def spec_LeafSum_raw : RT ((List XItem) × (List XFloor) × Int) Int := fun D L (a0, a1, a2) =>
 (spec_StateOk D (a0, a1)).bind fun r1 =>
 bif (!r1) then (some 0)
 else ((spec_l1In D (a2, 0, 3)).bind fun r2 =>
 bif (!r2) then (some 0)
 else ((spec_l6Slice D (a0, a1, [a2])).bind fun r3 =>
 (spec_l6Bytes D r3).bind fun r4 =>
 (spec_Crc D r4).bind fun r5 =>
 bif decide ((1024 : Int) ≠ 0) then
 some (Int.tmod r5 1024) else none))
theorem spec_LeafSum_of : OfF spec_LeafSum spec_LeafSum_raw := ofF 227 fun _ _ _ => by kernel_rfl
def spec_l6Root_l0 : RT ((List Int) × Int × (List Int)) (List Int) := fun D L (y0, y1, y2) =>
 bif (decide (y1 < (y0.length : Int))) then (bif inb y1 y0.length then
 (spec_PutNum D (rd1 (0 : Int) y0 y1)).bind fun r1 =>
 bif fits (List.length y2 + List.length r1) 1 then
 spec_l6Root_k0 L (y0, (IntKind.wrap .i64 (y1 + 1)), (y2 ++ r1)) else none else none)
 else (some y2)
theorem spec_l6Root_l0_of : OfL spec_l6Root_k0 spec_l6Root_l0 := ofL 228 0 fun _ _ _ => by kernel_rfl
def spec_l6Root_raw : RT (List Int) Int := fun D L a0 =>
 (spec_l6Root_k0 L (a0, 0, [])).bind fun z2 =>
 (spec_Crc D z2).bind fun r3 =>
 bif decide ((1024 : Int) ≠ 0) then
 some (Int.tmod r3 1024) else none
theorem spec_l6Root_of : OfF spec_l6Root spec_l6Root_raw := ofF 228 fun _ _ _ => by kernel_rfl
def laws_toItem_raw : RT XItem XItem := fun D L (a0, a1, a2, a3, a4, a5) =>
 (laws_toEntry D (a1, a2, a3, a4, a5)).bind fun r1 =>
 some (a0, r1)
theorem laws_toItem_of : OfF laws_toItem laws_toItem_raw := ofF 229 fun _ _ _ => by kernel_rfl
def laws_toFloor_raw : RT XFloor XFloor := fun D L (a0, a1) =>
 some (a0, a1)
theorem laws_toFloor_of : OfF laws_toFloor laws_toFloor_raw := ofF 230 fun _ _ _ => by kernel_rfl
def slices_Equalint_int_l0 : RT ((List Int) × (List Int) × Int × Int) (Bool ⊕ Unit) := fun D L (y0, y1, y2, y3) =>
 bif (decide (y3 < y2)) then (bif inb y3 y0.length then
 bif inb y3 y1.length then
 bif (!decide ((rd1 (0 : Int) y0 y3) = (rd1 (0 : Int) y1 y3))) then (some (Sum.inl false))
 else (slices_Equalint_int_k0 L (y0, y1, y2, (IntKind.wrap .i64 (y3 + 1)))) else none else none)
 else (some (Sum.inr ()))
theorem slices_Equalint_int_l0_of : OfL slices_Equalint_int_k0 slices_Equalint_int_l0 := ofL 231 0 fun _ _ _ => by kernel_rfl
def slices_Equalint_int_raw : RT ((List Int) × (List Int)) Bool := fun D L (a0, a1) =>
 bif (!decide ((a0.length : Int) = (a1.length : Int))) then (some false)
 else ((slices_Equalint_int_k0 L (a0, a1, (a0.length : Int), 0)).bind fun z1 =>
 elimS z1 (fun u2 =>
 some u2)
 (fun z3 =>
 some true))
theorem slices_Equalint_int_of : OfF slices_Equalint_int slices_Equalint_int_raw := ofF 231 fun _ _ _ => by kernel_rfl
def impl_LeafSum_raw : RT ((List XItem) × (List XFloor) × Int) Int := fun D L (a0, a1, a2) =>
 (impl_StateOk D (a0, a1)).bind fun r1 =>
 bif (!r1) then (some 0)
 else ((impl_within D (a2, 0, 3)).bind fun r2 =>
 bif (!r2) then (some 0)
 else ((impl_Slice D (a0, a1, [a2])).bind fun r3 =>
 (impl_StateBytes D r3).bind fun r4 =>
 (impl_Crc D r4).bind fun r5 =>
 bif decide ((1024 : Int) ≠ 0) then
 some (Int.tmod r5 1024) else none))
theorem impl_LeafSum_of : OfF impl_LeafSum impl_LeafSum_raw := ofF 232 fun _ _ _ => by kernel_rfl
def impl_rootOf_l0 : RT ((List Int) × Int × Int × (List Int)) (List Int) := fun D L (y0, y1, y2, y3) =>
 bif (decide (y2 < y1)) then (bif inb y2 y0.length then
 (impl_PutNum D (rd1 (0 : Int) y0 y2)).bind fun r1 =>
 (impl_joined D [y3, r1]).bind fun r2 =>
 impl_rootOf_k0 L (y0, y1, (IntKind.wrap .i64 (y2 + 1)), r2) else none)
 else (some y3)
theorem impl_rootOf_l0_of : OfL impl_rootOf_k0 impl_rootOf_l0 := ofL 233 0 fun _ _ _ => by kernel_rfl
def impl_rootOf_raw : RT (List Int) Int := fun D L a0 =>
 (impl_rootOf_k0 L (a0, (a0.length : Int), 0, [])).bind fun z3 =>
 (impl_Crc D z3).bind fun r4 =>
 bif decide ((1024 : Int) ≠ 0) then
 some (Int.tmod r4 1024) else none
theorem impl_rootOf_of : OfF impl_rootOf impl_rootOf_raw := ofF 233 fun _ _ _ => by kernel_rfl
def impl_isPeer_raw : RT (Int × Int × (List XItem) × (List XFloor) × (List Int) × Int × Int × Int × (List XState) × (List Int) × (List Int) × (List (List Int)) × Int × Int × (List XSess) × Int × Int × Int × (List XRise) × Int) Bool := fun D L (a0, a1, a2, a3, a4, a5, a6, a7, a8, a9, a10, a11, a12, a13, a14, a15, a16, a17, a18, a19) =>
 (impl_within D (a19, 0, (IntKind.wrap .i64 (a1 - 1)))).bind fun r1 =>
 bif r1 then (some (!decide (a19 = a0)))
 else (some false)
theorem impl_isPeer_of : OfF impl_isPeer impl_isPeer_raw := ofF 234 fun _ _ _ => by kernel_rfl
def impl_Slot_l0 : RT (Int × Bool × (List XSess) × Int × Int) (Int ⊕ Unit) := fun D L (y0, y1, y2, y3, y4) =>
 bif (decide (y4 < y3)) then (bif inb y4 y2.length then
 let e1 := (rd1 zSess y2 y4);
 bif (decide (e1.1 = y0)) then (bif (e1.2.2.1 == y1) then (some (Sum.inl y4))
 else (impl_Slot_k0 L (y0, y1, y2, y3, (IntKind.wrap .i64 (y4 + 1)))))
 else (impl_Slot_k0 L (y0, y1, y2, y3, (IntKind.wrap .i64 (y4 + 1)))) else none)
 else (some (Sum.inr ()))
theorem impl_Slot_l0_of : OfL impl_Slot_k0 impl_Slot_l0 := ofL 235 0 fun _ _ _ => by kernel_rfl
def impl_Slot_raw : RT (Int × Int × (List XItem) × (List XFloor) × (List Int) × Int × Int × Int × (List XState) × (List Int) × (List Int) × (List (List Int)) × Int × Int × (List XSess) × Int × Int × Int × (List XRise) × Int × Bool) Int := fun D L (a0, a1, a2, a3, a4, a5, a6, a7, a8, a9, a10, a11, a12, a13, a14, a15, a16, a17, a18, a19, a20) =>
 (impl_Slot_k0 L (a19, a20, a14, (a14.length : Int), 0)).bind fun z2 =>
 elimS z2 (fun u3 =>
 some u3)
 (fun z4 =>
 some (-1))
theorem impl_Slot_of : OfF impl_Slot impl_Slot_raw := ofF 235 fun _ _ _ => by kernel_rfl
def laws_eqFloor_raw : RT (Int × Int × Int × Int) Bool := fun D L (a0, a1, a2, a3) =>
 bif (!decide (a0 = a2)) then (some false)
 else (bif (!decide (a1 = a3)) then (some false)
 else (some true))
theorem laws_eqFloor_of : OfF laws_eqFloor laws_eqFloor_raw := ofF 236 fun _ _ _ => by kernel_rfl
def spec_EntryCmp_l0 : RT (Int × Int × Int × Int × Int × ByteArray × Int × Int × Int × Int × ByteArray × (List Int)) (Int ⊕ ((Int × Int × Int × Int × ByteArray × Int × Int × Int × Int × ByteArray))) := fun D L (y0, y1, y2, y3, y4, y5, y6, y7, y8, y9, y10, y11) =>
 bif (decide (y0 < (y11.length : Int))) then (bif inb y0 y11.length then
 bif (!decide ((rd1 (0 : Int) y11 y0) = 0)) then (bif inb y0 y11.length then
 some (Sum.inl (rd1 (0 : Int) y11 y0)) else none)
 else (spec_EntryCmp_k0 L ((IntKind.wrap .i64 (y0 + 1)), y1, y2, y3, y4, y5, y6, y7, y8, y9, y10, y11)) else none)
 else (some (Sum.inr (y1, y2, y3, y4, y5, y6, y7, y8, y9, y10)))
theorem spec_EntryCmp_l0_of : OfL spec_EntryCmp_k0 spec_EntryCmp_l0 := ofL 237 0 fun _ _ _ => by kernel_rfl
def spec_EntryCmp_raw : RT (Int × Int × Int × Int × ByteArray × Int × Int × Int × Int × ByteArray) Int := fun D L (a0, a1, a2, a3, a4, a5, a6, a7, a8, a9) =>
 (spec_l2Cmp D (a0, a5)).bind fun r1 =>
 (spec_l2Cmp D (a1, a6)).bind fun r2 =>
 (spec_l2Cmp D (a2, a7)).bind fun r3 =>
 (spec_l2Cmp D (a3, a8)).bind fun r4 =>
 (spec_EntryCmp_k0 L (0, a0, a1, a2, a3, a4, a5, a6, a7, a8, a9, [r1, r2, r3, r4])).bind fun z5 =>
 elimS z5 (fun u6 =>
 some u6)
 (fun z7 =>
 bif (Op.bytesLess (ByteArray.toList z7.2.2.2.2.1) (ByteArray.toList z7.2.2.2.2.2.2.2.2.2)) then (some (-1))
 else ((spec_l1Bit D (!(Op.bytesLess (ByteArray.toList z7.2.2.2.2.1) (ByteArray.toList z7.2.2.2.2.2.2.2.2.2) || beqS z7.2.2.2.2.1 z7.2.2.2.2.2.2.2.2.2))).bind fun r8 =>
 some r8))
theorem spec_EntryCmp_of : OfF spec_EntryCmp spec_EntryCmp_raw := ofF 237 fun _ _ _ => by kernel_rfl
def impl_EntryCmp_raw : RT (Int × Int × Int × Int × ByteArray × Int × Int × Int × Int × ByteArray) Int := fun D L (a0, a1, a2, a3, a4, a5, a6, a7, a8, a9) =>
 (cmp_Compare D (a0, a5)).bind fun r1 =>
 (cmp_Compare D (a1, a6)).bind fun r2 =>
 (cmp_Compare D (a2, a7)).bind fun r3 =>
 (cmp_Compare D (a3, a8)).bind fun r4 =>
 (strings_Compare D (a4, a9)).bind fun r5 =>
 (cmp_Or D [r1, r2, r3, r4, r5]).bind fun r6 =>
 some r6
theorem impl_EntryCmp_of : OfF impl_EntryCmp impl_EntryCmp_raw := ofF 238 fun _ _ _ => by kernel_rfl
def spec_Crc_l0 : RT ((List Int) × Int × Int) Int := fun D L (y0, y1, y2) =>
 bif (decide (y2 < (y0.length : Int))) then (bif inb y2 y0.length then
 (spec_Crc_k2 L (y0, (bits .xor .i64 y1 (IntKind.wrap .i64 (rd1 (0 : Int) y0 y2))), y2, 0)).bind fun z1 =>
 spec_Crc_k0 L (z1.1, z1.2.1, (IntKind.wrap .i64 (z1.2.2 + 1))) else none)
 else (some y1)
theorem spec_Crc_l0_of : OfL spec_Crc_k0 spec_Crc_l0 := ofL 239 0 fun _ _ _ => by kernel_rfl
def spec_Crc_l2 : RT ((List Int) × Int × Int × Int) (((List Int) × Int × Int)) := fun D L (y0, y1, y2, y3) =>
 bif (decide (y3 < 8)) then (bif decide ((2 : Int) ≠ 0) then
 bif decide ((2 : Int) ≠ 0) then
 bif (decide ((Int.tmod y1 2) = 1)) then (spec_Crc_k2 L (y0, (bits .xor .i64 (IntKind.wrap .i64 (Int.tdiv y1 2)) 3988292384), y2, (IntKind.wrap .i64 (y3 + 1))))
 else (spec_Crc_k2 L (y0, (IntKind.wrap .i64 (Int.tdiv y1 2)), y2, (IntKind.wrap .i64 (y3 + 1)))) else none else none)
 else (some (y0, y1, y2))
theorem spec_Crc_l2_of : OfL spec_Crc_k2 spec_Crc_l2 := ofL 239 2 fun _ _ _ => by kernel_rfl
def spec_Crc_raw : RT (List Int) Int := fun D L a0 =>
 (spec_Crc_k0 L (a0, 4294967295, 0)).bind fun z2 =>
 some (bits .xor .i64 z2 4294967295)
theorem spec_Crc_of : OfF spec_Crc spec_Crc_raw := ofF 239 fun _ _ _ => by kernel_rfl
def spec_l6Bytes_l0 : RT (Int × (List XItem) × (List XFloor) × (List Int)) (((List XItem) × (List XFloor) × (List Int))) := fun D L (y0, y1, y2, y3) =>
 bif (decide (y0 < (y1.length : Int))) then (bif inb y0 y1.length then
 let e2 := (rd1 zItem y1 y0);
 bif inb y0 y1.length then
 let e3 := (rd1 zItem y1 y0);
 (spec_l6Bytes_k2 L (y0, 0, y1, y2, y3, e2.2.1, e2.2.2.1, e2.2.2.2.1, e2.2.2.2.2.1, e2.2.2.2.2.2, [e3.1, e2.2.1, e2.2.2.1, e2.2.2.2.1, e2.2.2.2.2.1])).bind fun z5 =>
 (spec_PutText D z5.2.2.2.2.2.2.2.2).bind fun r6 =>
 bif fits (List.length z5.2.2.2.1 + List.length r6) 1 then
 spec_l6Bytes_k0 L ((IntKind.wrap .i64 (z5.1 + 1)), z5.2.1, z5.2.2.1, (z5.2.2.2.1 ++ r6)) else none else none else none)
 else (some (y1, y2, y3))
theorem spec_l6Bytes_l0_of : OfL spec_l6Bytes_k0 spec_l6Bytes_l0 := ofL 242 0 fun _ _ _ => by kernel_rfl
def spec_l6Bytes_l2 : RT (Int × Int × (List XItem) × (List XFloor) × (List Int) × Int × Int × Int × Int × ByteArray × (List Int)) ((Int × (List XItem) × (List XFloor) × (List Int) × Int × Int × Int × Int × ByteArray)) := fun D L (y0, y1, y2, y3, y4, y5, y6, y7, y8, y9, y10) =>
 bif (decide (y1 < (y10.length : Int))) then (bif inb y1 y10.length then
 (spec_PutNum D (rd1 (0 : Int) y10 y1)).bind fun r4 =>
 bif fits (List.length y4 + List.length r4) 1 then
 spec_l6Bytes_k2 L (y0, (IntKind.wrap .i64 (y1 + 1)), y2, y3, (y4 ++ r4), y5, y6, y7, y8, y9, y10) else none else none)
 else (some (y0, y2, y3, y4, y5, y6, y7, y8, y9))
theorem spec_l6Bytes_l2_of : OfL spec_l6Bytes_k2 spec_l6Bytes_l2 := ofL 242 2 fun _ _ _ => by kernel_rfl
def spec_l6Bytes_l4 : RT (Int × (List XItem) × (List XFloor) × (List Int)) (List Int) := fun D L (y0, y1, y2, y3) =>
 bif (decide (y0 < (y2.length : Int))) then (bif inb y0 y2.length then
 let e9 := (rd1 zFloor y2 y0);
 (spec_PutNum D e9.1).bind fun r10 =>
 bif fits (List.length y3 + List.length r10) 1 then
 bif inb y0 y2.length then
 let e11 := (rd1 zFloor y2 y0);
 (spec_PutNum D e11.2).bind fun r12 =>
 bif fits (List.length (y3 ++ r10) + List.length r12) 1 then
 spec_l6Bytes_k4 L ((IntKind.wrap .i64 (y0 + 1)), y1, y2, ((y3 ++ r10) ++ r12)) else none else none else none else none)
 else (some y3)
theorem spec_l6Bytes_l4_of : OfL spec_l6Bytes_k4 spec_l6Bytes_l4 := ofL 242 4 fun _ _ _ => by kernel_rfl
def spec_l6Bytes_raw : RT XState (List Int) := fun D L (a0, a1) =>
 (spec_PutNum D (a0.length : Int)).bind fun r1 =>
 (spec_l6Bytes_k0 L (0, a0, a1, r1)).bind fun z7 =>
 (spec_PutNum D (z7.2.1.length : Int)).bind fun r8 =>
 bif fits (List.length z7.2.2 + List.length r8) 1 then
 (spec_l6Bytes_k4 L (0, z7.1, z7.2.1, (z7.2.2 ++ r8))).bind fun z13 =>
 some z13 else none
theorem spec_l6Bytes_of : OfF spec_l6Bytes spec_l6Bytes_raw := ofF 242 fun _ _ _ => by kernel_rfl
end
end Go.Proofs.YtjenicbpdklpbaaGreat.M
