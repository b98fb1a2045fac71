/- Plain forms of the functions that FnExactDeedsText reaches, part 0. No conditions. -/
import Derived.Test.YtameehmkoglkeaaDoorFnExactDeedsTextTab
set_option linter.all false
namespace Go.Proofs.YtameehmkoglkeaaDoor.M
open Go Go.Eng Go.Proofs
set_option linter.unusedVariables false
noncomputable section
def laws_FnExactDeedsText_raw : RT (List XEntry) Bool := fun D L a0 =>
 (laws_szDeedS D (a0, 1048576)).bind fun r1 =>
 bif (decide (r1 < 0)) then (some true)
 else ((laws_toDeedS D a0).bind fun r2 =>
 (spec_DeedsText D r2).bind fun r3 =>
 (laws_toDeedS D a0).bind fun r4 =>
 (impl_DeedsText D r4).bind fun r5 =>
 bif (!beqS r5 r3) then (some false)
 else ((laws_toDeedS D a0).bind fun r6 =>
 (laws_eqDeedS D (r4, r6)).bind fun r7 =>
 bif (!r7) then (some false)
 else (some true)))
theorem laws_FnExactDeedsText_of : OfF laws_FnExactDeedsText laws_FnExactDeedsText_raw := ofF 4 fun _ _ _ => by kernel_rfl
def laws_szDeed_raw : RT (Int × Int × Int × Int × ByteArray × Int) Int := fun D L (a0, a1, a2, a3, a4, a5) =>
 bif (decide ((IntKind.wrap .i64 (a5 - ((ByteArray.size a4) : Int))) < 0)) then (some (-1))
 else (some (IntKind.wrap .i64 (a5 - ((ByteArray.size a4) : Int))))
theorem laws_szDeed_of : OfF laws_szDeed laws_szDeed_raw := ofF 9 fun _ _ _ => by kernel_rfl
def spec_DeedText_raw : RT XEntry ByteArray := fun D L (a0, a1, a2, a3, a4) =>
 (spec_l1In D (a0, 0, 7)).bind fun r1 =>
 bif (!r1) then (some (⟨#[]⟩ : ByteArray))
 else ((spec_l1In D (a1, 0, 999999)).bind fun r2 =>
 bif (!r2) then (some (⟨#[]⟩ : ByteArray))
 else ((spec_l1In D (a2, 0, 999999)).bind fun r3 =>
 bif (!r3) then (some (⟨#[]⟩ : ByteArray))
 else ((spec_l1In D (a3, 0, 999999)).bind fun r4 =>
 bif (!r4) then (some (⟨#[]⟩ : ByteArray))
 else (bif (decide (8 < ((ByteArray.size a4) : Int))) then (some (⟨#[]⟩ : ByteArray))
 else ((spec_Parts D (a4, 10)).bind fun r5 =>
 bif (decide (1 < (r5.length : Int))) then (some (⟨#[]⟩ : ByteArray))
 else ((spec_Digits D a0).bind fun r6 =>
 bif fits (ByteArray.size r6 + ByteArray.size (⟨#[32]⟩ : ByteArray)) 1 then
 (spec_Digits D a1).bind fun r7 =>
 bif fits (ByteArray.size (r6 ++ (⟨#[32]⟩ : ByteArray)) + ByteArray.size r7) 1 then
 bif fits (ByteArray.size ((r6 ++ (⟨#[32]⟩ : ByteArray)) ++ r7) + ByteArray.size (⟨#[32]⟩ : ByteArray)) 1 then
 (spec_Digits D a2).bind fun r8 =>
 bif fits (ByteArray.size (((r6 ++ (⟨#[32]⟩ : ByteArray)) ++ r7) ++ (⟨#[32]⟩ : ByteArray)) + ByteArray.size r8) 1 then
 bif fits (ByteArray.size ((((r6 ++ (⟨#[32]⟩ : ByteArray)) ++ r7) ++ (⟨#[32]⟩ : ByteArray)) ++ r8) + ByteArray.size (⟨#[32]⟩ : ByteArray)) 1 then
 (spec_Digits D a3).bind fun r9 =>
 bif fits (ByteArray.size (((((r6 ++ (⟨#[32]⟩ : ByteArray)) ++ r7) ++ (⟨#[32]⟩ : ByteArray)) ++ r8) ++ (⟨#[32]⟩ : ByteArray)) + ByteArray.size r9) 1 then
 bif fits (ByteArray.size ((((((r6 ++ (⟨#[32]⟩ : ByteArray)) ++ r7) ++ (⟨#[32]⟩ : ByteArray)) ++ r8) ++ (⟨#[32]⟩ : ByteArray)) ++ r9) + ByteArray.size (⟨#[32]⟩ : ByteArray)) 1 then
 bif fits (ByteArray.size (((((((r6 ++ (⟨#[32]⟩ : ByteArray)) ++ r7) ++ (⟨#[32]⟩ : ByteArray)) ++ r8) ++ (⟨#[32]⟩ : ByteArray)) ++ r9) ++ (⟨#[32]⟩ : ByteArray)) + ByteArray.size a4) 1 then
 some ((((((((r6 ++ (⟨#[32]⟩ : ByteArray)) ++ r7) ++ (⟨#[32]⟩ : ByteArray)) ++ r8) ++ (⟨#[32]⟩ : ByteArray)) ++ r9) ++ (⟨#[32]⟩ : ByteArray)) ++ a4) else none else none else none else none else none else none else none else none))))))
theorem spec_DeedText_of : OfF spec_DeedText spec_DeedText_raw := ofF 10 fun _ _ _ => by kernel_rfl
def laws_toDeed_raw : RT XEntry XEntry := fun D L (a0, a1, a2, a3, a4) =>
 some (a0, a1, a2, a3, a4)
theorem laws_toDeed_of : OfF laws_toDeed laws_toDeed_raw := ofF 11 fun _ _ _ => by kernel_rfl
def impl_DeedText_l0 : RT (Int × Int × Int × Int × Int × Int × ByteArray × (List ByteArray) × (List Int)) (ByteArray ⊕ ((Int × Int × Int × Int × ByteArray × (List ByteArray)))) := fun D L (y0, y1, y2, y3, y4, y5, y6, y7, y8) =>
 bif (decide (y1 < y0)) then (bif inb y1 y8.length then
 (impl_within D ((rd1 (0 : Int) y8 y1), 0, 999999)).bind fun r4 =>
 bif (!r4) then (some (Sum.inl (⟨#[]⟩ : ByteArray)))
 else ((impl_Digits D (rd1 (0 : Int) y8 y1)).bind fun r5 =>
 bif fits (List.length y7 + List.length ([r5] : List ByteArray)) 16 then
 impl_DeedText_k0 L (y0, (IntKind.wrap .i64 (y1 + 1)), y2, y3, y4, y5, y6, (y7 ++ ([r5] : List ByteArray)), y8) else none) else none)
 else (some (Sum.inr (y2, y3, y4, y5, y6, y7)))
theorem impl_DeedText_l0_of : OfL impl_DeedText_k0 impl_DeedText_l0 := ofL 12 0 fun _ _ _ => by kernel_rfl
def impl_DeedText_raw : RT XEntry ByteArray := fun D L (a0, a1, a2, a3, a4) =>
 (impl_within D (a0, 0, 7)).bind fun r1 =>
 bif (!r1) then (some (⟨#[]⟩ : ByteArray))
 else (bif (decide (8 < ((ByteArray.size a4) : Int))) then (some (⟨#[]⟩ : ByteArray))
 else ((strings_Contains D (a4, (⟨#[10]⟩ : ByteArray))).bind fun r2 =>
 bif r2 then (some (⟨#[]⟩ : ByteArray))
 else ((impl_Digits D a0).bind fun r3 =>
 (impl_DeedText_k0 L (((List.length [a1, a2, a3]) : Int), 0, a0, a1, a2, a3, a4, [r3], [a1, a2, a3])).bind fun z6 =>
 elimS z6 (fun u7 =>
 some u7)
 (fun z8 =>
 bif fits (List.length z8.2.2.2.2.2 + List.length ([z8.2.2.2.2.1] : List ByteArray)) 16 then
 (strings_Join D ((z8.2.2.2.2.2 ++ ([z8.2.2.2.2.1] : List ByteArray)), (⟨#[32]⟩ : ByteArray))).bind fun r9 =>
 some r9 else none))))
theorem impl_DeedText_of : OfF impl_DeedText impl_DeedText_raw := ofF 12 fun _ _ _ => by kernel_rfl
def laws_szDeedS_l0 : RT ((List XEntry) × Int × Int) (Int ⊕ Int) := fun D L (y0, y1, y2) =>
 bif (decide (y2 < (y0.length : Int))) then (bif inb y2 y0.length then
 let e1 := (rd1 zEntry y0 y2);
 (laws_szDeed D (e1.1, e1.2.1, e1.2.2.1, e1.2.2.2.1, e1.2.2.2.2, y1)).bind fun r2 =>
 bif (decide (r2 < 0)) then (some (Sum.inl (-1)))
 else (laws_szDeedS_k0 L (y0, r2, (IntKind.wrap .i64 (y2 + 1)))) else none)
 else (some (Sum.inr y1))
theorem laws_szDeedS_l0_of : OfL laws_szDeedS_k0 laws_szDeedS_l0 := ofL 13 0 fun _ _ _ => by kernel_rfl
def laws_szDeedS_raw : RT ((List XEntry) × Int) Int := fun D L (a0, a1) =>
 bif (decide ((IntKind.wrap .i64 (a1 - (a0.length : Int))) < 0)) then (some (-1))
 else ((laws_szDeedS_k0 L (a0, (IntKind.wrap .i64 (a1 - (a0.length : Int))), 0)).bind fun z3 =>
 elimS z3 (fun u4 =>
 some u4)
 (fun z5 =>
 some z5))
theorem laws_szDeedS_of : OfF laws_szDeedS laws_szDeedS_raw := ofF 13 fun _ _ _ => by kernel_rfl
def spec_DeedsText_l0 : RT ((List XEntry) × ByteArray × Int) (ByteArray ⊕ ByteArray) := fun D L (y0, y1, y2) =>
 bif (decide (y2 < (y0.length : Int))) then (bif inb y2 y0.length then
 let e1 := (rd1 zEntry y0 y2);
 (spec_DeedText D e1).bind fun r2 =>
 bif (beqS r2 (⟨#[]⟩ : ByteArray)) then (some (Sum.inl (⟨#[]⟩ : ByteArray)))
 else (bif fits (ByteArray.size y1 + ByteArray.size r2) 1 then
 bif fits (ByteArray.size (y1 ++ r2) + ByteArray.size (⟨#[10]⟩ : ByteArray)) 1 then
 spec_DeedsText_k0 L (y0, ((y1 ++ r2) ++ (⟨#[10]⟩ : ByteArray)), (IntKind.wrap .i64 (y2 + 1))) else none else none) else none)
 else (some (Sum.inr y1))
theorem spec_DeedsText_l0_of : OfL spec_DeedsText_k0 spec_DeedsText_l0 := ofL 14 0 fun _ _ _ => by kernel_rfl
def spec_DeedsText_raw : RT (List XEntry) ByteArray := fun D L a0 =>
 (spec_DeedsText_k0 L (a0, (⟨#[]⟩ : ByteArray), 0)).bind fun z3 =>
 elimS z3 (fun u4 =>
 some u4)
 (fun z5 =>
 some z5)
theorem spec_DeedsText_of : OfF spec_DeedsText spec_DeedsText_raw := ofF 14 fun _ _ _ => by kernel_rfl
def laws_toDeedS_l0 : RT ((List XEntry) × Int × (List XEntry)) (List XEntry) := fun D L (y0, y1, y2) =>
 bif (decide (y1 < (y0.length : Int))) then (bif inb y1 y0.length then
 let e1 := (rd1 zEntry y0 y1);
 (laws_toDeed D e1).bind fun r2 =>
 bif inb y1 y2.length then
 let l3 := List.set y2 (Int.toNat y1) r2;
 laws_toDeedS_k0 L (y0, (IntKind.wrap .i64 (y1 + 1)), l3) else none else none)
 else (some y2)
theorem laws_toDeedS_l0_of : OfL laws_toDeedS_k0 laws_toDeedS_l0 := ofL 15 0 fun _ _ _ => by kernel_rfl
def laws_toDeedS_raw : RT (List XEntry) (List XEntry) := fun D L a0 =>
 bif (decide ((0 : Int) ≤ (a0.length : Int) ∧ ((a0.length : Int) : Int) = (a0.length : Int)) && fits (Int.toNat (a0.length : Int)) 48) then
 (laws_toDeedS_k0 L (a0, 0, (List.replicate (Int.toNat (a0.length : Int)) (0, 0, 0, 0, ByteArray.empty)))).bind fun z4 =>
 some z4 else none
theorem laws_toDeedS_of : OfF laws_toDeedS laws_toDeedS_raw := ofF 15 fun _ _ _ => by kernel_rfl
def impl_DeedsText_l0 : RT (ByteArray × (List XEntry) × Int × Int) (ByteArray ⊕ ByteArray) := fun D L (y0, y1, y2, y3) =>
 bif (decide (y3 < y2)) then (bif inb y3 y1.length then
 let e1 := (rd1 zEntry y1 y3);
 (impl_DeedText D e1).bind fun r2 =>
 bif (beqS r2 (⟨#[]⟩ : ByteArray)) then (some (Sum.inl (⟨#[]⟩ : ByteArray)))
 else (bif fits (ByteArray.size r2 + ByteArray.size (⟨#[10]⟩ : ByteArray)) 1 then
 bif fits (ByteArray.size y0 + ByteArray.size (r2 ++ (⟨#[10]⟩ : ByteArray))) 1 then
 impl_DeedsText_k0 L ((y0 ++ (r2 ++ (⟨#[10]⟩ : ByteArray))), y1, y2, (IntKind.wrap .i64 (y3 + 1))) else none else none) else none)
 else (some (Sum.inr y0))
theorem impl_DeedsText_l0_of : OfL impl_DeedsText_k0 impl_DeedsText_l0 := ofL 16 0 fun _ _ _ => by kernel_rfl
def impl_DeedsText_raw : RT (List XEntry) ByteArray := fun D L a0 =>
 (impl_DeedsText_k0 L ((⟨#[]⟩ : ByteArray), a0, (a0.length : Int), 0)).bind fun z3 =>
 elimS z3 (fun u4 =>
 some u4)
 (fun z5 =>
 some z5)
theorem impl_DeedsText_of : OfF impl_DeedsText impl_DeedsText_raw := ofF 16 fun _ _ _ => by kernel_rfl
def laws_eqDeedS_l0 : RT ((List XEntry) × (List XEntry) × Int) (Bool ⊕ Unit) := fun D L (y0, y1, y2) =>
 bif (decide (y2 < (y0.length : Int))) then (bif inb y2 y0.length then
 let e1 := (rd1 zEntry y0 y2);
 bif inb y2 y1.length then
 let e2 := (rd1 zEntry y1 y2);
 (laws_eqDeed D (e1.1, e1.2.1, e1.2.2.1, e1.2.2.2.1, e1.2.2.2.2, e2)).bind fun r3 =>
 bif (!r3) then (some (Sum.inl false))
 else (laws_eqDeedS_k0 L (y0, y1, (IntKind.wrap .i64 (y2 + 1)))) else none else none)
 else (some (Sum.inr ()))
theorem laws_eqDeedS_l0_of : OfL laws_eqDeedS_k0 laws_eqDeedS_l0 := ofL 17 0 fun _ _ _ => by kernel_rfl
def laws_eqDeedS_raw : RT ((List XEntry) × (List XEntry)) Bool := fun D L (a0, a1) =>
 bif (!decide ((a0.length : Int) = (a1.length : Int))) then (some false)
 else ((laws_eqDeedS_k0 L (a0, a1, 0)).bind fun z4 =>
 elimS z4 (fun u5 =>
 some u5)
 (fun z6 =>
 some true))
theorem laws_eqDeedS_of : OfF laws_eqDeedS laws_eqDeedS_raw := ofF 17 fun _ _ _ => by kernel_rfl
def laws_eqDeed_raw : RT (Int × Int × Int × Int × ByteArray × Int × Int × Int × Int × ByteArray) Bool := fun D L (a0, a1, a2, a3, a4, a5, a6, a7, a8, a9) =>
 bif (!decide (a0 = a5)) then (some false)
 else (bif (!decide (a1 = a6)) then (some false)
 else (bif (!decide (a2 = a7)) then (some false)
 else (bif (!decide (a3 = a8)) then (some false)
 else (bif (!beqS a4 a9) then (some false)
 else (some true)))))
theorem laws_eqDeed_of : OfF laws_eqDeed laws_eqDeed_raw := ofF 25 fun _ _ _ => by kernel_rfl
def spec_l1In_raw : RT (Int × Int × Int) Bool := fun D L (a0, a1, a2) =>
 bif (decide (a1 ≤ a0)) then (some (decide (a0 ≤ a2)))
 else (some false)
theorem spec_l1In_of : OfF spec_l1In spec_l1In_raw := ofF 34 fun _ _ _ => by kernel_rfl
def spec_Parts_l0 : RT (ByteArray × Int × Int × Int × (List ByteArray)) (List ByteArray) := fun D L (y0, y1, y2, y3, y4) =>
 bif (decide (y3 ≤ ((ByteArray.size y0) : Int))) then (bif (decide (y3 = ((ByteArray.size y0) : Int))) then (bif decide ((0 : Int) ≤ y2 ∧ y2 ≤ (y3 : Int) ∧ y3 ≤ ((ByteArray.size y0) : Int)) then
 bif fits (List.length y4 + List.length ([(ByteArray.extract y0 (Int.toNat y2) (Int.toNat y3))] : List ByteArray)) 16 then
 spec_Parts_k0 L (y0, y1, (IntKind.wrap .i64 (y3 + 1)), (IntKind.wrap .i64 (y3 + 1)), (y4 ++ ([(ByteArray.extract y0 (Int.toNat y2) (Int.toNat y3))] : List ByteArray))) else none else none)
 else (bif inb y3 (ByteArray.size y0) then
 bif (decide ((List.getD (ofBytes y0) (Int.toNat y3) 0) = y1)) then (bif decide ((0 : Int) ≤ y2 ∧ y2 ≤ (y3 : Int) ∧ y3 ≤ ((ByteArray.size y0) : Int)) then
 bif fits (List.length y4 + List.length ([(ByteArray.extract y0 (Int.toNat y2) (Int.toNat y3))] : List ByteArray)) 16 then
 spec_Parts_k0 L (y0, y1, (IntKind.wrap .i64 (y3 + 1)), (IntKind.wrap .i64 (y3 + 1)), (y4 ++ ([(ByteArray.extract y0 (Int.toNat y2) (Int.toNat y3))] : List ByteArray))) else none else none)
 else (spec_Parts_k0 L (y0, y1, y2, (IntKind.wrap .i64 (y3 + 1)), y4)) else none))
 else (some y4)
theorem spec_Parts_l0_of : OfL spec_Parts_k0 spec_Parts_l0 := ofL 35 0 fun _ _ _ => by kernel_rfl
def spec_Parts_raw : RT (ByteArray × Int) (List ByteArray) := fun D L (a0, a1) =>
 (spec_Parts_k0 L (a0, a1, 0, 0, [])).bind fun z1 =>
 some z1
theorem spec_Parts_of : OfF spec_Parts spec_Parts_raw := ofF 35 fun _ _ _ => by kernel_rfl
def spec_Digits_l0 : RT (Int × Bool × ByteArray) ((Bool × ByteArray)) := fun D L (y0, y1, y2) =>
 bif (!decide (y0 = 0)) then (bif decide ((10 : Int) ≠ 0) then
 bif (decide ((Int.tmod y0 10) < 0)) then (bif fits (ByteArray.size (toBytes [(IntKind.wrap .u8 (IntKind.wrap .i64 (48 + (IntKind.wrap .i64 (0 - (Int.tmod y0 10))))))]) + ByteArray.size y2) 1 then
 bif decide ((10 : Int) ≠ 0) then
 spec_Digits_k0 L ((IntKind.wrap .i64 (Int.tdiv y0 10)), y1, ((toBytes [(IntKind.wrap .u8 (IntKind.wrap .i64 (48 + (IntKind.wrap .i64 (0 - (Int.tmod y0 10))))))]) ++ y2)) else none else none)
 else (bif fits (ByteArray.size (toBytes [(IntKind.wrap .u8 (IntKind.wrap .i64 (48 + (Int.tmod y0 10))))]) + ByteArray.size y2) 1 then
 bif decide ((10 : Int) ≠ 0) then
 spec_Digits_k0 L ((IntKind.wrap .i64 (Int.tdiv y0 10)), y1, ((toBytes [(IntKind.wrap .u8 (IntKind.wrap .i64 (48 + (Int.tmod y0 10))))]) ++ y2)) else none else none) else none)
 else (some (y1, y2))
theorem spec_Digits_l0_of : OfL spec_Digits_k0 spec_Digits_l0 := ofL 36 0 fun _ _ _ => by kernel_rfl
def spec_Digits_raw : RT Int ByteArray := fun D L a0 =>
 bif (decide (a0 = 0)) then (some (⟨#[48]⟩ : ByteArray))
 else ((spec_Digits_k0 L (a0, (decide (a0 < 0)), (⟨#[]⟩ : ByteArray))).bind fun z1 =>
 bif z1.1 then (bif fits (ByteArray.size (⟨#[45]⟩ : ByteArray) + ByteArray.size z1.2) 1 then
 some ((⟨#[45]⟩ : ByteArray) ++ z1.2) else none)
 else (some z1.2))
theorem spec_Digits_of : OfF spec_Digits spec_Digits_raw := ofF 36 fun _ _ _ => by kernel_rfl
def impl_within_raw : RT (Int × Int × Int) Bool := fun D L (a0, a1, a2) =>
 bif (decide (a1 ≤ a0)) then (some (decide (a0 ≤ a2)))
 else (some false)
theorem impl_within_of : OfF impl_within impl_within_raw := ofF 37 fun _ _ _ => by kernel_rfl
def strings_Contains_raw : RT (ByteArray × ByteArray) Bool := fun _ _ => containsX
theorem strings_Contains_of : OfF strings_Contains strings_Contains_raw := ofF 38 fun _ _ _ => by kernel_rfl
def impl_Digits_raw : RT Int ByteArray := fun D L a0 =>
 (strconv_Itoa D a0).bind fun r1 =>
 some r1
theorem impl_Digits_of : OfF impl_Digits impl_Digits_raw := ofF 39 fun _ _ _ => by kernel_rfl
def strings_Join_raw : RT ((List ByteArray) × ByteArray) ByteArray := fun _ _ => joinX
theorem strings_Join_of : OfF strings_Join strings_Join_raw := ofF 40 fun _ _ _ => by kernel_rfl
def strconv_Itoa_raw : RT Int ByteArray := fun _ _ => itoaX
theorem strconv_Itoa_of : OfF strconv_Itoa strconv_Itoa_raw := ofF 71 fun _ _ _ => by kernel_rfl
end
end Go.Proofs.YtameehmkoglkeaaDoor.M
