/- Plain forms of the functions that FnExactDeedsOf reaches, part 0. No conditions. -/
import Derived.Test.YtameehmkoglkeaaDoorFnExactDeedsOfTab
set_option linter.all false
namespace Go.Proofs.YtameehmkoglkeaaDoor.M
open Go Go.Eng Go.Proofs
set_option linter.unusedVariables false
noncomputable section
def laws_FnExactDeedsOf_raw : RT ByteArray Bool := fun D L a0 =>
 bif (decide (1048576 < ((ByteArray.size a0) : Int))) then (some true)
 else ((spec_DeedsOf D a0).bind fun r1 =>
 (impl_DeedsOf D a0).bind fun r2 =>
 (laws_eqDeedS D (r2.1, r1.1)).bind fun r3 =>
 bif (!r3) then (some false)
 else (bif (!(r2.2 == r1.2)) then (some false)
 else ((laws_markDeedS D (r2.1, 1)).bind fun r4 =>
 (laws_heldDeedS D (r4.2, 1)).bind fun r5 =>
 bif (decide (r5 < 0)) then (some false)
 else (bif (!decide (r5 = r4.1)) then (some false)
 else ((impl_DeedsOf D a0).bind fun r6 =>
 (laws_eqDeedS D (r6.1, r1.1)).bind fun r7 =>
 bif (!r7) then (some false)
 else (bif (!(r6.2 == r1.2)) then (some false)
 else ((laws_heldDeedS D (r4.2, 1)).bind fun r8 =>
 bif (decide (r8 < 0)) then (some false)
 else (bif (!decide (r8 = r4.1)) then (some false)
 else (some true)))))))))
theorem laws_FnExactDeedsOf_of : OfF laws_FnExactDeedsOf laws_FnExactDeedsOf_raw := ofF 7 fun _ _ _ => by kernel_rfl
def spec_DeedText_raw : RT XEntry ByteArray := fun D L (a0, a1, a2, a3, a4) =>
 (spec_l1In D (a0, 0, 7)).bind fun r1 =>
 bif (!r1) then (some (⟨#[]⟩ : ByteArray))
 else ((spec_l1In D (a1, 0, 999999)).bind fun r2 =>
 bif (!r2) then (some (⟨#[]⟩ : ByteArray))
 else ((spec_l1In D (a2, 0, 999999)).bind fun r3 =>
 bif (!r3) then (some (⟨#[]⟩ : ByteArray))
 else ((spec_l1In D (a3, 0, 999999)).bind fun r4 =>
 bif (!r4) then (some (⟨#[]⟩ : ByteArray))
 else (bif (decide (8 < ((ByteArray.size a4) : Int))) then (some (⟨#[]⟩ : ByteArray))
 else ((spec_Parts D (a4, 10)).bind fun r5 =>
 bif (decide (1 < (r5.length : Int))) then (some (⟨#[]⟩ : ByteArray))
 else ((spec_Digits D a0).bind fun r6 =>
 bif fits (ByteArray.size r6 + ByteArray.size (⟨#[32]⟩ : ByteArray)) 1 then
 (spec_Digits D a1).bind fun r7 =>
 bif fits (ByteArray.size (r6 ++ (⟨#[32]⟩ : ByteArray)) + ByteArray.size r7) 1 then
 bif fits (ByteArray.size ((r6 ++ (⟨#[32]⟩ : ByteArray)) ++ r7) + ByteArray.size (⟨#[32]⟩ : ByteArray)) 1 then
 (spec_Digits D a2).bind fun r8 =>
 bif fits (ByteArray.size (((r6 ++ (⟨#[32]⟩ : ByteArray)) ++ r7) ++ (⟨#[32]⟩ : ByteArray)) + ByteArray.size r8) 1 then
 bif fits (ByteArray.size ((((r6 ++ (⟨#[32]⟩ : ByteArray)) ++ r7) ++ (⟨#[32]⟩ : ByteArray)) ++ r8) + ByteArray.size (⟨#[32]⟩ : ByteArray)) 1 then
 (spec_Digits D a3).bind fun r9 =>
 bif fits (ByteArray.size (((((r6 ++ (⟨#[32]⟩ : ByteArray)) ++ r7) ++ (⟨#[32]⟩ : ByteArray)) ++ r8) ++ (⟨#[32]⟩ : ByteArray)) + ByteArray.size r9) 1 then
 bif fits (ByteArray.size ((((((r6 ++ (⟨#[32]⟩ : ByteArray)) ++ r7) ++ (⟨#[32]⟩ : ByteArray)) ++ r8) ++ (⟨#[32]⟩ : ByteArray)) ++ r9) + ByteArray.size (⟨#[32]⟩ : ByteArray)) 1 then
 bif fits (ByteArray.size (((((((r6 ++ (⟨#[32]⟩ : ByteArray)) ++ r7) ++ (⟨#[32]⟩ : ByteArray)) ++ r8) ++ (⟨#[32]⟩ : ByteArray)) ++ r9) ++ (⟨#[32]⟩ : ByteArray)) + ByteArray.size a4) 1 then
 some ((((((((r6 ++ (⟨#[32]⟩ : ByteArray)) ++ r7) ++ (⟨#[32]⟩ : ByteArray)) ++ r8) ++ (⟨#[32]⟩ : ByteArray)) ++ r9) ++ (⟨#[32]⟩ : ByteArray)) ++ a4) else none else none else none else none else none else none else none else none))))))
theorem spec_DeedText_of : OfF spec_DeedText spec_DeedText_raw := ofF 10 fun _ _ _ => by kernel_rfl
def impl_DeedText_l0 : RT (Int × Int × Int × Int × Int × Int × ByteArray × (List ByteArray) × (List Int)) (ByteArray ⊕ ((Int × Int × Int × Int × ByteArray × (List ByteArray)))) := fun D L (y0, y1, y2, y3, y4, y5, y6, y7, y8) =>
 bif (decide (y1 < y0)) then (bif inb y1 y8.length then
 (impl_within D ((rd1 (0 : Int) y8 y1), 0, 999999)).bind fun r4 =>
 bif (!r4) then (some (Sum.inl (⟨#[]⟩ : ByteArray)))
 else ((impl_Digits D (rd1 (0 : Int) y8 y1)).bind fun r5 =>
 bif fits (List.length y7 + List.length ([r5] : List ByteArray)) 16 then
 impl_DeedText_k0 L (y0, (IntKind.wrap .i64 (y1 + 1)), y2, y3, y4, y5, y6, (y7 ++ ([r5] : List ByteArray)), y8) else none) else none)
 else (some (Sum.inr (y2, y3, y4, y5, y6, y7)))
theorem impl_DeedText_l0_of : OfL impl_DeedText_k0 impl_DeedText_l0 := ofL 12 0 fun _ _ _ => by kernel_rfl
def impl_DeedText_raw : RT XEntry ByteArray := fun D L (a0, a1, a2, a3, a4) =>
 (impl_within D (a0, 0, 7)).bind fun r1 =>
 bif (!r1) then (some (⟨#[]⟩ : ByteArray))
 else (bif (decide (8 < ((ByteArray.size a4) : Int))) then (some (⟨#[]⟩ : ByteArray))
 else ((strings_Contains D (a4, (⟨#[10]⟩ : ByteArray))).bind fun r2 =>
 bif r2 then (some (⟨#[]⟩ : ByteArray))
 else ((impl_Digits D a0).bind fun r3 =>
 (impl_DeedText_k0 L (((List.length [a1, a2, a3]) : Int), 0, a0, a1, a2, a3, a4, [r3], [a1, a2, a3])).bind fun z6 =>
 elimS z6 (fun u7 =>
 some u7)
 (fun z8 =>
 bif fits (List.length z8.2.2.2.2.2 + List.length ([z8.2.2.2.2.1] : List ByteArray)) 16 then
 (strings_Join D ((z8.2.2.2.2.2 ++ ([z8.2.2.2.2.1] : List ByteArray)), (⟨#[32]⟩ : ByteArray))).bind fun r9 =>
 some r9 else none))))
theorem impl_DeedText_of : OfF impl_DeedText impl_DeedText_raw := ofF 12 fun _ _ _ => by kernel_rfl
def laws_eqDeedS_l0 : RT ((List XEntry) × (List XEntry) × Int) (Bool ⊕ Unit) := fun D L (y0, y1, y2) =>
 bif (decide (y2 < (y0.length : Int))) then (bif inb y2 y0.length then
 let e1 := (rd1 zEntry y0 y2);
 bif inb y2 y1.length then
 let e2 := (rd1 zEntry y1 y2);
 (laws_eqDeed D (e1.1, e1.2.1, e1.2.2.1, e1.2.2.2.1, e1.2.2.2.2, e2)).bind fun r3 =>
 bif (!r3) then (some (Sum.inl false))
 else (laws_eqDeedS_k0 L (y0, y1, (IntKind.wrap .i64 (y2 + 1)))) else none else none)
 else (some (Sum.inr ()))
theorem laws_eqDeedS_l0_of : OfL laws_eqDeedS_k0 laws_eqDeedS_l0 := ofL 17 0 fun _ _ _ => by kernel_rfl
def laws_eqDeedS_raw : RT ((List XEntry) × (List XEntry)) Bool := fun D L (a0, a1) =>
 bif (!decide ((a0.length : Int) = (a1.length : Int))) then (some false)
 else ((laws_eqDeedS_k0 L (a0, a1, 0)).bind fun z4 =>
 elimS z4 (fun u5 =>
 some u5)
 (fun z6 =>
 some true))
theorem laws_eqDeedS_of : OfF laws_eqDeedS laws_eqDeedS_raw := ofF 17 fun _ _ _ => by kernel_rfl
def spec_DeedOf_l0 : RT (ByteArray × Int × Bool × Int × Bool × Int × Bool × Int × Bool × ByteArray × Int × (List ByteArray)) ((ByteArray × Int × Bool × Int × Bool × Int × Bool × Int × Bool × ByteArray)) := fun D L (y0, y1, y2, y3, y4, y5, y6, y7, y8, y9, y10, y11) =>
 bif (decide (y10 < (y11.length : Int))) then (bif fits (ByteArray.size y9 + ByteArray.size (⟨#[32]⟩ : ByteArray)) 1 then
 bif inb y10 y11.length then
 bif fits (ByteArray.size (y9 ++ (⟨#[32]⟩ : ByteArray)) + ByteArray.size (rd1 (ByteArray.empty : ByteArray) y11 y10)) 1 then
 spec_DeedOf_k0 L (y0, y1, y2, y3, y4, y5, y6, y7, y8, ((y9 ++ (⟨#[32]⟩ : ByteArray)) ++ (rd1 (ByteArray.empty : ByteArray) y11 y10)), (IntKind.wrap .i64 (y10 + 1)), y11) else none else none else none)
 else (some (y0, y1, y2, y3, y4, y5, y6, y7, y8, y9))
theorem spec_DeedOf_l0_of : OfL spec_DeedOf_k0 spec_DeedOf_l0 := ofL 23 0 fun _ _ _ => by kernel_rfl
def spec_DeedOf_raw : RT ByteArray (Int × Int × Int × Int × ByteArray × Bool) := fun D L a0 =>
 (spec_Parts D (a0, 32)).bind fun r1 =>
 bif (decide ((r1.length : Int) < 5)) then (some (0, 0, 0, 0, ByteArray.empty, false))
 else (bif inb 0 r1.length then
 (spec_Number D (rd1 (ByteArray.empty : ByteArray) r1 0)).bind fun r2 =>
 bif inb 1 r1.length then
 (spec_Number D (rd1 (ByteArray.empty : ByteArray) r1 1)).bind fun r3 =>
 bif inb 2 r1.length then
 (spec_Number D (rd1 (ByteArray.empty : ByteArray) r1 2)).bind fun r4 =>
 bif inb 3 r1.length then
 (spec_Number D (rd1 (ByteArray.empty : ByteArray) r1 3)).bind fun r5 =>
 bif inb 4 r1.length then
 (spec_DeedOf_k0 L (a0, r2.1, r2.2, r3.1, r3.2, r4.1, r4.2, r5.1, r5.2, (rd1 (ByteArray.empty : ByteArray) r1 4), 5, r1)).bind fun z6 =>
 bif (!z6.2.2.1) then (some (0, 0, 0, 0, ByteArray.empty, false))
 else (bif (!z6.2.2.2.2.1) then (some (0, 0, 0, 0, ByteArray.empty, false))
 else (bif (!z6.2.2.2.2.2.2.1) then (some (0, 0, 0, 0, ByteArray.empty, false))
 else (bif (!z6.2.2.2.2.2.2.2.2.1) then (some (0, 0, 0, 0, ByteArray.empty, false))
 else ((spec_DeedText D (z6.2.1, z6.2.2.2.1, z6.2.2.2.2.2.1, z6.2.2.2.2.2.2.2.1, z6.2.2.2.2.2.2.2.2.2)).bind fun r7 =>
 bif (!beqS r7 z6.1) then (some (0, 0, 0, 0, ByteArray.empty, false))
 else (some (z6.2.1, z6.2.2.2.1, z6.2.2.2.2.2.1, z6.2.2.2.2.2.2.2.1, z6.2.2.2.2.2.2.2.2.2, true)))))) else none else none else none else none else none)
theorem spec_DeedOf_of : OfF spec_DeedOf spec_DeedOf_raw := ofF 23 fun _ _ _ => by kernel_rfl
def impl_DeedOf_l0 : RT (ByteArray × (List ByteArray) × (List ByteArray) × Int × Int × (List Int)) (((Bool × Int × Int × Int × Int × ByteArray)) ⊕ ((ByteArray × (List ByteArray) × (List Int)))) := fun D L (y0, y1, y2, y3, y4, y5) =>
 bif (decide (y4 < y3)) then (bif inb y4 y2.length then
 (impl_Number D (rd1 (ByteArray.empty : ByteArray) y2 y4)).bind fun r2 =>
 bif (!r2.2) then (some (Sum.inl (false, 0, 0, 0, 0, ByteArray.empty)))
 else (bif fits (List.length y5 + List.length ([r2.1] : List Int)) 8 then
 impl_DeedOf_k0 L (y0, y1, y2, y3, (IntKind.wrap .i64 (y4 + 1)), (y5 ++ ([r2.1] : List Int))) else none) else none)
 else (some (Sum.inr (y0, y1, y5)))
theorem impl_DeedOf_l0_of : OfL impl_DeedOf_k0 impl_DeedOf_l0 := ofL 24 0 fun _ _ _ => by kernel_rfl
def impl_DeedOf_raw : RT ByteArray (Int × Int × Int × Int × ByteArray × Bool) := fun D L a0 =>
 (strings_SplitN D (a0, (⟨#[32]⟩ : ByteArray), 5)).bind fun r1 =>
 bif (!decide ((r1.length : Int) = 5)) then (some (0, 0, 0, 0, ByteArray.empty, false))
 else (bif decide ((0 : Int) ≤ 0 ∧ 0 ≤ (4 : Int) ∧ 4 ≤ (r1.length : Int)) then
 (impl_DeedOf_k0 L (a0, r1, List.take (Int.toNat (4 - 0)) (List.drop (Int.toNat 0) r1), ((List.length (List.take (Int.toNat (4 - 0)) (List.drop (Int.toNat 0) r1))) : Int), 0, [])).bind fun z3 =>
 elimS z3 (fun u4 =>
 some (u4.2.1, u4.2.2.1, u4.2.2.2.1, u4.2.2.2.2.1, u4.2.2.2.2.2, u4.1))
 (fun z5 =>
 bif inb 0 z5.2.2.length then
 bif inb 1 z5.2.2.length then
 bif inb 2 z5.2.2.length then
 bif inb 3 z5.2.2.length then
 bif inb 4 z5.2.1.length then
 (impl_DeedText D ((rd1 (0 : Int) z5.2.2 0), (rd1 (0 : Int) z5.2.2 1), (rd1 (0 : Int) z5.2.2 2), (rd1 (0 : Int) z5.2.2 3), (rd1 (ByteArray.empty : ByteArray) z5.2.1 4))).bind fun r6 =>
 bif (!beqS r6 z5.1) then (some (0, 0, 0, 0, ByteArray.empty, false))
 else (some ((rd1 (0 : Int) z5.2.2 0), (rd1 (0 : Int) z5.2.2 1), (rd1 (0 : Int) z5.2.2 2), (rd1 (0 : Int) z5.2.2 3), (rd1 (ByteArray.empty : ByteArray) z5.2.1 4), true)) else none else none else none else none else none) else none)
theorem impl_DeedOf_of : OfF impl_DeedOf impl_DeedOf_raw := ofF 24 fun _ _ _ => by kernel_rfl
def laws_eqDeed_raw : RT (Int × Int × Int × Int × ByteArray × Int × Int × Int × Int × ByteArray) Bool := fun D L (a0, a1, a2, a3, a4, a5, a6, a7, a8, a9) =>
 bif (!decide (a0 = a5)) then (some false)
 else (bif (!decide (a1 = a6)) then (some false)
 else (bif (!decide (a2 = a7)) then (some false)
 else (bif (!decide (a3 = a8)) then (some false)
 else (bif (!beqS a4 a9) then (some false)
 else (some true)))))
theorem laws_eqDeed_of : OfF laws_eqDeed laws_eqDeed_raw := ofF 25 fun _ _ _ => by kernel_rfl
def spec_DeedsOf_l0 : RT (Int × (List XEntry) × (List ByteArray)) (((Bool × (List XEntry))) ⊕ (List XEntry)) := fun D L (y0, y1, y2) =>
 bif (decide (y0 < (IntKind.wrap .i64 ((y2.length : Int) - 1)))) then (bif inb y0 y2.length then
 (spec_DeedOf D (rd1 (ByteArray.empty : ByteArray) y2 y0)).bind fun r2 =>
 bif (!r2.2.2.2.2.2) then (some (Sum.inl (false, [])))
 else (bif fits (List.length y1 + List.length ([(r2.1, r2.2.1, r2.2.2.1, r2.2.2.2.1, r2.2.2.2.2.1)] : List XEntry)) 48 then
 spec_DeedsOf_k0 L ((IntKind.wrap .i64 (y0 + 1)), (y1 ++ ([(r2.1, r2.2.1, r2.2.2.1, r2.2.2.2.1, r2.2.2.2.2.1)] : List XEntry)), y2) else none) else none)
 else (some (Sum.inr y1))
theorem spec_DeedsOf_l0_of : OfL spec_DeedsOf_k0 spec_DeedsOf_l0 := ofL 26 0 fun _ _ _ => by kernel_rfl
def spec_DeedsOf_raw : RT ByteArray ((List XEntry) × Bool) := fun D L a0 =>
 (spec_Parts D (a0, 10)).bind fun r1 =>
 bif inb (IntKind.wrap .i64 ((r1.length : Int) - 1)) r1.length then
 bif (!beqS (rd1 (ByteArray.empty : ByteArray) r1 (IntKind.wrap .i64 ((r1.length : Int) - 1))) (⟨#[]⟩ : ByteArray)) then (some ([], false))
 else ((spec_DeedsOf_k0 L (0, [], r1)).bind fun z3 =>
 elimS z3 (fun u4 =>
 some (u4.2, u4.1))
 (fun z5 =>
 some (z5, true))) else none
theorem spec_DeedsOf_of : OfF spec_DeedsOf spec_DeedsOf_raw := ofF 26 fun _ _ _ => by kernel_rfl
def impl_DeedsOf_l0 : RT ((List ByteArray) × Int × Int × (List XEntry)) (((Bool × (List XEntry))) ⊕ (List XEntry)) := fun D L (y0, y1, y2, y3) =>
 bif (decide (y2 < y1)) then (bif inb y2 y0.length then
 (impl_DeedOf D (rd1 (ByteArray.empty : ByteArray) y0 y2)).bind fun r3 =>
 bif (!r3.2.2.2.2.2) then (some (Sum.inl (false, [])))
 else (bif fits (List.length y3 + List.length ([(r3.1, r3.2.1, r3.2.2.1, r3.2.2.2.1, r3.2.2.2.2.1)] : List XEntry)) 48 then
 impl_DeedsOf_k0 L (y0, y1, (IntKind.wrap .i64 (y2 + 1)), (y3 ++ ([(r3.1, r3.2.1, r3.2.2.1, r3.2.2.2.1, r3.2.2.2.2.1)] : List XEntry))) else none) else none)
 else (some (Sum.inr y3))
theorem impl_DeedsOf_l0_of : OfL impl_DeedsOf_k0 impl_DeedsOf_l0 := ofL 27 0 fun _ _ _ => by kernel_rfl
def impl_DeedsOf_raw : RT ByteArray ((List XEntry) × Bool) := fun D L a0 =>
 bif (beqS a0 (⟨#[]⟩ : ByteArray)) then (some ([], true))
 else ((strings_CutSuffix D (a0, (⟨#[10]⟩ : ByteArray))).bind fun r1 =>
 bif (!r1.2) then (some ([], false))
 else ((strings_Split D (r1.1, (⟨#[10]⟩ : ByteArray))).bind fun r2 =>
 (impl_DeedsOf_k0 L (r2, (r2.length : Int), 0, [])).bind fun z4 =>
 elimS z4 (fun u5 =>
 some (u5.2, u5.1))
 (fun z6 =>
 some (z6, true))))
theorem impl_DeedsOf_of : OfF impl_DeedsOf impl_DeedsOf_raw := ofF 27 fun _ _ _ => by kernel_rfl
def laws_markDeedS_l0 : RT (Int × Int × (List XEntry)) ((Int × (List XEntry))) := fun D L (y0, y1, y2) =>
 bif (decide (y1 < (y2.length : Int))) then (bif inb y1 y2.length then
 let e1 := (rd1 zEntry y2 y1);
 let l2 := List.set y2 (Int.toNat y1) (y0, e1.2);
 bif inb y1 l2.length then
 let e3 := (rd1 zEntry l2 y1);
 let l4 := List.set l2 (Int.toNat y1) (e3.1, (IntKind.wrap .i64 (y0 + 1)), e3.2.2);
 bif inb y1 l4.length then
 let e5 := (rd1 zEntry l4 y1);
 let l6 := List.set l4 (Int.toNat y1) (e5.1, e5.2.1, (IntKind.wrap .i64 ((IntKind.wrap .i64 (y0 + 1)) + 1)), e5.2.2.2);
 bif inb y1 l6.length then
 let e7 := (rd1 zEntry l6 y1);
 let l8 := List.set l6 (Int.toNat y1) (e7.1, e7.2.1, e7.2.2.1, (IntKind.wrap .i64 ((IntKind.wrap .i64 ((IntKind.wrap .i64 (y0 + 1)) + 1)) + 1)), e7.2.2.2.2);
 (laws_markText D (IntKind.wrap .i64 ((IntKind.wrap .i64 ((IntKind.wrap .i64 ((IntKind.wrap .i64 (y0 + 1)) + 1)) + 1)) + 1))).bind fun r9 =>
 bif inb y1 l8.length then
 let e10 := (rd1 zEntry l8 y1);
 let l11 := List.set l8 (Int.toNat y1) (e10.1, e10.2.1, e10.2.2.1, e10.2.2.2.1, r9);
 laws_markDeedS_k0 L ((IntKind.wrap .i64 ((IntKind.wrap .i64 ((IntKind.wrap .i64 ((IntKind.wrap .i64 ((IntKind.wrap .i64 (y0 + 1)) + 1)) + 1)) + 1)) + 1)), (IntKind.wrap .i64 (y1 + 1)), l11) else none else none else none else none else none)
 else (some (y0, y2))
theorem laws_markDeedS_l0_of : OfL laws_markDeedS_k0 laws_markDeedS_l0 := ofL 28 0 fun _ _ _ => by kernel_rfl
def laws_markDeedS_raw : RT ((List XEntry) × Int) (Int × (List XEntry)) := fun D L (a0, a1) =>
 (laws_markDeedS_k0 L (a1, 0, a0)).bind fun z12 =>
 some z12
theorem laws_markDeedS_of : OfF laws_markDeedS laws_markDeedS_raw := ofF 28 fun _ _ _ => by kernel_rfl
def laws_heldDeedS_l0 : RT ((List XEntry) × Int × Int) (Int ⊕ Int) := fun D L (y0, y1, y2) =>
 bif (decide (y2 < (y0.length : Int))) then (bif inb y2 y0.length then
 let e1 := (rd1 zEntry y0 y2);
 bif (!decide (e1.1 = y1)) then (some (Sum.inl (-1)))
 else (bif inb y2 y0.length then
 let e2 := (rd1 zEntry y0 y2);
 bif (!decide (e2.2.1 = (IntKind.wrap .i64 (y1 + 1)))) then (some (Sum.inl (-1)))
 else (bif inb y2 y0.length then
 let e3 := (rd1 zEntry y0 y2);
 bif (!decide (e3.2.2.1 = (IntKind.wrap .i64 ((IntKind.wrap .i64 (y1 + 1)) + 1)))) then (some (Sum.inl (-1)))
 else (bif inb y2 y0.length then
 let e4 := (rd1 zEntry y0 y2);
 bif (!decide (e4.2.2.2.1 = (IntKind.wrap .i64 ((IntKind.wrap .i64 ((IntKind.wrap .i64 (y1 + 1)) + 1)) + 1)))) then (some (Sum.inl (-1)))
 else (bif inb y2 y0.length then
 let e5 := (rd1 zEntry y0 y2);
 (laws_markText D (IntKind.wrap .i64 ((IntKind.wrap .i64 ((IntKind.wrap .i64 ((IntKind.wrap .i64 (y1 + 1)) + 1)) + 1)) + 1))).bind fun r6 =>
 bif (!beqS e5.2.2.2.2 r6) then (some (Sum.inl (-1)))
 else (laws_heldDeedS_k0 L (y0, (IntKind.wrap .i64 ((IntKind.wrap .i64 ((IntKind.wrap .i64 ((IntKind.wrap .i64 ((IntKind.wrap .i64 (y1 + 1)) + 1)) + 1)) + 1)) + 1)), (IntKind.wrap .i64 (y2 + 1)))) else none) else none) else none) else none) else none)
 else (some (Sum.inr y1))
theorem laws_heldDeedS_l0_of : OfL laws_heldDeedS_k0 laws_heldDeedS_l0 := ofL 29 0 fun _ _ _ => by kernel_rfl
def laws_heldDeedS_raw : RT ((List XEntry) × Int) Int := fun D L (a0, a1) =>
 (laws_heldDeedS_k0 L (a0, a1, 0)).bind fun z7 =>
 elimS z7 (fun u8 =>
 some u8)
 (fun z9 =>
 some z9)
theorem laws_heldDeedS_of : OfF laws_heldDeedS laws_heldDeedS_raw := ofF 29 fun _ _ _ => by kernel_rfl
def spec_l1In_raw : RT (Int × Int × Int) Bool := fun D L (a0, a1, a2) =>
 bif (decide (a1 ≤ a0)) then (some (decide (a0 ≤ a2)))
 else (some false)
theorem spec_l1In_of : OfF spec_l1In spec_l1In_raw := ofF 34 fun _ _ _ => by kernel_rfl
def spec_Parts_l0 : RT (ByteArray × Int × Int × Int × (List ByteArray)) (List ByteArray) := fun D L (y0, y1, y2, y3, y4) =>
 bif (decide (y3 ≤ ((ByteArray.size y0) : Int))) then (bif (decide (y3 = ((ByteArray.size y0) : Int))) then (bif decide ((0 : Int) ≤ y2 ∧ y2 ≤ (y3 : Int) ∧ y3 ≤ ((ByteArray.size y0) : Int)) then
 bif fits (List.length y4 + List.length ([(ByteArray.extract y0 (Int.toNat y2) (Int.toNat y3))] : List ByteArray)) 16 then
 spec_Parts_k0 L (y0, y1, (IntKind.wrap .i64 (y3 + 1)), (IntKind.wrap .i64 (y3 + 1)), (y4 ++ ([(ByteArray.extract y0 (Int.toNat y2) (Int.toNat y3))] : List ByteArray))) else none else none)
 else (bif inb y3 (ByteArray.size y0) then
 bif (decide ((List.getD (ofBytes y0) (Int.toNat y3) 0) = y1)) then (bif decide ((0 : Int) ≤ y2 ∧ y2 ≤ (y3 : Int) ∧ y3 ≤ ((ByteArray.size y0) : Int)) then
 bif fits (List.length y4 + List.length ([(ByteArray.extract y0 (Int.toNat y2) (Int.toNat y3))] : List ByteArray)) 16 then
 spec_Parts_k0 L (y0, y1, (IntKind.wrap .i64 (y3 + 1)), (IntKind.wrap .i64 (y3 + 1)), (y4 ++ ([(ByteArray.extract y0 (Int.toNat y2) (Int.toNat y3))] : List ByteArray))) else none else none)
 else (spec_Parts_k0 L (y0, y1, y2, (IntKind.wrap .i64 (y3 + 1)), y4)) else none))
 else (some y4)
theorem spec_Parts_l0_of : OfL spec_Parts_k0 spec_Parts_l0 := ofL 35 0 fun _ _ _ => by kernel_rfl
def spec_Parts_raw : RT (ByteArray × Int) (List ByteArray) := fun D L (a0, a1) =>
 (spec_Parts_k0 L (a0, a1, 0, 0, [])).bind fun z1 =>
 some z1
theorem spec_Parts_of : OfF spec_Parts spec_Parts_raw := ofF 35 fun _ _ _ => by kernel_rfl
def spec_Digits_l0 : RT (Int × Bool × ByteArray) ((Bool × ByteArray)) := fun D L (y0, y1, y2) =>
 bif (!decide (y0 = 0)) then (bif decide ((10 : Int) ≠ 0) then
 bif (decide ((Int.tmod y0 10) < 0)) then (bif fits (ByteArray.size (toBytes [(IntKind.wrap .u8 (IntKind.wrap .i64 (48 + (IntKind.wrap .i64 (0 - (Int.tmod y0 10))))))]) + ByteArray.size y2) 1 then
 bif decide ((10 : Int) ≠ 0) then
 spec_Digits_k0 L ((IntKind.wrap .i64 (Int.tdiv y0 10)), y1, ((toBytes [(IntKind.wrap .u8 (IntKind.wrap .i64 (48 + (IntKind.wrap .i64 (0 - (Int.tmod y0 10))))))]) ++ y2)) else none else none)
 else (bif fits (ByteArray.size (toBytes [(IntKind.wrap .u8 (IntKind.wrap .i64 (48 + (Int.tmod y0 10))))]) + ByteArray.size y2) 1 then
 bif decide ((10 : Int) ≠ 0) then
 spec_Digits_k0 L ((IntKind.wrap .i64 (Int.tdiv y0 10)), y1, ((toBytes [(IntKind.wrap .u8 (IntKind.wrap .i64 (48 + (Int.tmod y0 10))))]) ++ y2)) else none else none) else none)
 else (some (y1, y2))
theorem spec_Digits_l0_of : OfL spec_Digits_k0 spec_Digits_l0 := ofL 36 0 fun _ _ _ => by kernel_rfl
def spec_Digits_raw : RT Int ByteArray := fun D L a0 =>
 bif (decide (a0 = 0)) then (some (⟨#[48]⟩ : ByteArray))
 else ((spec_Digits_k0 L (a0, (decide (a0 < 0)), (⟨#[]⟩ : ByteArray))).bind fun z1 =>
 bif z1.1 then (bif fits (ByteArray.size (⟨#[45]⟩ : ByteArray) + ByteArray.size z1.2) 1 then
 some ((⟨#[45]⟩ : ByteArray) ++ z1.2) else none)
 else (some z1.2))
theorem spec_Digits_of : OfF spec_Digits spec_Digits_raw := ofF 36 fun _ _ _ => by kernel_rfl
def impl_within_raw : RT (Int × Int × Int) Bool := fun D L (a0, a1, a2) =>
 bif (decide (a1 ≤ a0)) then (some (decide (a0 ≤ a2)))
 else (some false)
theorem impl_within_of : OfF impl_within impl_within_raw := ofF 37 fun _ _ _ => by kernel_rfl
def strings_Contains_raw : RT (ByteArray × ByteArray) Bool := fun _ _ => containsX
theorem strings_Contains_of : OfF strings_Contains strings_Contains_raw := ofF 38 fun _ _ _ => by kernel_rfl
def impl_Digits_raw : RT Int ByteArray := fun D L a0 =>
 (strconv_Itoa D a0).bind fun r1 =>
 some r1
theorem impl_Digits_of : OfF impl_Digits impl_Digits_raw := ofF 39 fun _ _ _ => by kernel_rfl
def strings_Join_raw : RT ((List ByteArray) × ByteArray) ByteArray := fun _ _ => joinX
theorem strings_Join_of : OfF strings_Join strings_Join_raw := ofF 40 fun _ _ _ => by kernel_rfl
def spec_Number_l0 : RT (ByteArray × Int × Int) (((Int × Bool)) ⊕ ((ByteArray × Int))) := fun D L (y0, y1, y2) =>
 bif (decide (y2 < ((ByteArray.size y0) : Int))) then (bif inb y2 (ByteArray.size y0) then
 bif (decide ((List.getD (ofBytes y0) (Int.toNat y2) 0) < 48)) then (some (Sum.inl (0, false)))
 else (bif inb y2 (ByteArray.size y0) then
 bif (decide (57 < (List.getD (ofBytes y0) (Int.toNat y2) 0))) then (some (Sum.inl (0, false)))
 else (bif inb y2 (ByteArray.size y0) then
 spec_Number_k0 L (y0, (IntKind.wrap .i64 ((IntKind.wrap .i64 ((IntKind.wrap .i64 (10 * y1)) + (IntKind.wrap .i64 (List.getD (ofBytes y0) (Int.toNat y2) 0)))) - 48)), (IntKind.wrap .i64 (y2 + 1))) else none) else none) else none)
 else (some (Sum.inr (y0, y1)))
theorem spec_Number_l0_of : OfL spec_Number_k0 spec_Number_l0 := ofL 58 0 fun _ _ _ => by kernel_rfl
def spec_Number_raw : RT ByteArray (Int × Bool) := fun D L a0 =>
 bif (decide (((ByteArray.size a0) : Int) < 1)) then (some (0, false))
 else (bif (decide (6 < ((ByteArray.size a0) : Int))) then (some (0, false))
 else ((spec_Number_k0 L (a0, 0, 0)).bind fun z1 =>
 elimS z1 (fun u2 =>
 some u2)
 (fun z3 =>
 (spec_Digits D z3.2).bind fun r4 =>
 bif (!beqS r4 z3.1) then (some (0, false))
 else (some (z3.2, true)))))
theorem spec_Number_of : OfF spec_Number spec_Number_raw := ofF 58 fun _ _ _ => by kernel_rfl
def strings_SplitN_raw : RT (ByteArray × ByteArray × Int) (List ByteArray) := fun _ _ => splitNX
theorem strings_SplitN_of : OfF strings_SplitN strings_SplitN_raw := ofF 59 fun _ _ _ => by kernel_rfl
def impl_Number_raw : RT ByteArray (Int × Bool) := fun _ _ => numberX
theorem impl_Number_of : OfF impl_Number impl_Number_raw := ofF 60 fun _ _ _ => by kernel_rfl
def strings_CutSuffix_raw : RT (ByteArray × ByteArray) (ByteArray × Bool) := fun D L (a0, a1) =>
 (internal_stringslite_CutSuffix D (a0, a1)).bind fun r1 =>
 some r1
theorem strings_CutSuffix_of : OfF strings_CutSuffix strings_CutSuffix_raw := ofF 61 fun _ _ _ => by kernel_rfl
def strings_Split_raw : RT (ByteArray × ByteArray) (List ByteArray) := fun _ _ => splitX
theorem strings_Split_of : OfF strings_Split strings_Split_raw := ofF 62 fun _ _ _ => by kernel_rfl
def laws_markText_l0 : RT (Int × ByteArray) ByteArray := fun D L (y0, y1) =>
 bif (decide (0 < y0)) then (bif decide ((10 : Int) ≠ 0) then
 bif fits (ByteArray.size (toBytes [(IntKind.wrap .u8 (IntKind.wrap .i64 (48 + (Int.tmod y0 10))))]) + ByteArray.size y1) 1 then
 bif decide ((10 : Int) ≠ 0) then
 laws_markText_k0 L ((IntKind.wrap .i64 (Int.tdiv y0 10)), ((toBytes [(IntKind.wrap .u8 (IntKind.wrap .i64 (48 + (Int.tmod y0 10))))]) ++ y1)) else none else none else none)
 else (some y1)
theorem laws_markText_l0_of : OfL laws_markText_k0 laws_markText_l0 := ofL 63 0 fun _ _ _ => by kernel_rfl
def laws_markText_raw : RT Int ByteArray := fun D L a0 =>
 bif (decide (a0 ≤ 0)) then (some (⟨#[109, 48]⟩ : ByteArray))
 else ((laws_markText_k0 L (a0, (⟨#[]⟩ : ByteArray))).bind fun z1 =>
 bif fits (ByteArray.size (⟨#[109]⟩ : ByteArray) + ByteArray.size z1) 1 then
 some ((⟨#[109]⟩ : ByteArray) ++ z1) else none)
theorem laws_markText_of : OfF laws_markText laws_markText_raw := ofF 63 fun _ _ _ => by kernel_rfl
def strconv_Itoa_raw : RT Int ByteArray := fun _ _ => itoaX
theorem strconv_Itoa_of : OfF strconv_Itoa strconv_Itoa_raw := ofF 71 fun _ _ _ => by kernel_rfl
def internal_stringslite_CutSuffix_raw : RT (ByteArray × ByteArray) (ByteArray × Bool) := fun D L (a0, a1) =>
 (internal_stringslite_HasSuffix D (a0, a1)).bind fun r1 =>
 bif (!r1) then (some (a0, false))
 else (bif decide ((0 : Int) ≤ 0 ∧ 0 ≤ ((IntKind.wrap .i64 (((ByteArray.size a0) : Int) - ((ByteArray.size a1) : Int))) : Int) ∧ (IntKind.wrap .i64 (((ByteArray.size a0) : Int) - ((ByteArray.size a1) : Int))) ≤ ((ByteArray.size a0) : Int)) then
 some ((ByteArray.extract a0 (Int.toNat 0) (Int.toNat (IntKind.wrap .i64 (((ByteArray.size a0) : Int) - ((ByteArray.size a1) : Int))))), true) else none)
theorem internal_stringslite_CutSuffix_of : OfF internal_stringslite_CutSuffix internal_stringslite_CutSuffix_raw := ofF 96 fun _ _ _ => by kernel_rfl
def internal_stringslite_HasSuffix_raw : RT (ByteArray × ByteArray) Bool := fun D L (a0, a1) =>
 bif (decide (((ByteArray.size a1) : Int) ≤ ((ByteArray.size a0) : Int))) then (bif decide ((0 : Int) ≤ (IntKind.wrap .i64 (((ByteArray.size a0) : Int) - ((ByteArray.size a1) : Int))) ∧ (IntKind.wrap .i64 (((ByteArray.size a0) : Int) - ((ByteArray.size a1) : Int))) ≤ (((ByteArray.size a0) : Int) : Int) ∧ ((ByteArray.size a0) : Int) ≤ ((ByteArray.size a0) : Int)) then
 some (beqS (ByteArray.extract a0 (Int.toNat (IntKind.wrap .i64 (((ByteArray.size a0) : Int) - ((ByteArray.size a1) : Int)))) (Int.toNat ((ByteArray.size a0) : Int))) a1) else none)
 else (some false)
theorem internal_stringslite_HasSuffix_of : OfF internal_stringslite_HasSuffix internal_stringslite_HasSuffix_raw := ofF 116 fun _ _ _ => by kernel_rfl
end
end Go.Proofs.YtameehmkoglkeaaDoor.M
