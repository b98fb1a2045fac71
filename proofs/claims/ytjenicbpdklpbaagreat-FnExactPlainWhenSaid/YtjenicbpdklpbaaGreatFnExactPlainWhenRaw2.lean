/- Plain forms of the functions that FnExactPlainWhen reaches, part 2. No conditions. -/
import Derived.Test.YtjenicbpdklpbaaGreatFnExactPlainWhenTab
set_option linter.all false
namespace Go.Proofs.YtjenicbpdklpbaaGreat.M
open Go Go.Eng Go.Proofs
set_option linter.unusedVariables false
noncomputable section
def laws_markText_l0 : RT (Int × ByteArray) ByteArray := fun D L (y0, y1) =>
 bif (decide (0 < y0)) then (bif decide ((10 : Int) ≠ 0) then
 bif fits (ByteArray.size (toBytes [(IntKind.wrap .u8 (IntKind.wrap .i64 (48 + (Int.tmod y0 10))))]) + ByteArray.size y1) 1 then
 bif decide ((10 : Int) ≠ 0) then
 laws_markText_k0 L ((IntKind.wrap .i64 (Int.tdiv y0 10)), ((toBytes [(IntKind.wrap .u8 (IntKind.wrap .i64 (48 + (Int.tmod y0 10))))]) ++ y1)) else none else none else none)
 else (some y1)
theorem laws_markText_l0_of : OfL laws_markText_k0 laws_markText_l0 := ofL 117 0 fun _ _ _ => by kernel_rfl
def laws_markText_raw : RT Int ByteArray := fun D L a0 =>
 bif (decide (a0 ≤ 0)) then (some (⟨#[109, 48]⟩ : ByteArray))
 else ((laws_markText_k0 L (a0, (⟨#[]⟩ : ByteArray))).bind fun z1 =>
 bif fits (ByteArray.size (⟨#[109]⟩ : ByteArray) + ByteArray.size z1) 1 then
 some ((⟨#[109]⟩ : ByteArray) ++ z1) else none)
theorem laws_markText_of : OfF laws_markText laws_markText_raw := ofF 117 fun _ _ _ => by kernel_rfl
def spec_Plain_l0 : RT ((List XState) × Int × (List XItem)) (List XItem) := fun D L (y0, y1, y2) =>
 bif (decide (y1 < 5)) then ((spec_Plain_k2 L (y0, y1, false, 0, y2, 0, 0, 0, 0, ByteArray.empty)).bind fun z6 =>
 bif z6.2.2.1 then (bif (decide (z6.2.2.2.2.2.1 = 0)) then (bif fits (List.length z6.2.2.2.1 + List.length ([(z6.2.1, z6.2.2.2.2)] : List XItem)) 56 then
 spec_Plain_k0 L (z6.1, (IntKind.wrap .i64 (z6.2.1 + 1)), (z6.2.2.2.1 ++ ([(z6.2.1, z6.2.2.2.2)] : List XItem))) else none)
 else (spec_Plain_k0 L (z6.1, (IntKind.wrap .i64 (z6.2.1 + 1)), z6.2.2.2.1)))
 else (spec_Plain_k0 L (z6.1, (IntKind.wrap .i64 (z6.2.1 + 1)), z6.2.2.2.1)))
 else (some y2)
theorem spec_Plain_l0_of : OfL spec_Plain_k0 spec_Plain_l0 := ofL 120 0 fun _ _ _ => by kernel_rfl
def spec_Plain_l2 : RT ((List XState) × Int × Bool × Int × (List XItem) × Int × Int × Int × Int × ByteArray) (((List XState) × Int × Bool × (List XItem) × Int × Int × Int × Int × ByteArray)) := fun D L (y0, y1, y2, y3, y4, y5, y6, y7, y8, y9) =>
 bif (decide (y3 < (y0.length : Int))) then (bif inb y3 y0.length then
 let e1 := (rd1 zState y0 y3);
 (spec_EntryOf D (e1.1, e1.2, y1)).bind fun r2 =>
 bif r2.2.2.2.2.2 then (bif inb y3 y0.length then
 let e3 := (rd1 zState y0 y3);
 (spec_StateOk D e3).bind fun r4 =>
 bif r4 then ((spec_EntryMax D (y5, y6, y7, y8, y9, r2.1, r2.2.1, r2.2.2.1, r2.2.2.2.1, r2.2.2.2.2.1)).bind fun r5 =>
 spec_Plain_k2 L (y0, y1, true, (IntKind.wrap .i64 (y3 + 1)), y4, r5))
 else (spec_Plain_k2 L (y0, y1, y2, (IntKind.wrap .i64 (y3 + 1)), y4, y5, y6, y7, y8, y9)) else none)
 else (spec_Plain_k2 L (y0, y1, y2, (IntKind.wrap .i64 (y3 + 1)), y4, y5, y6, y7, y8, y9)) else none)
 else (some (y0, y1, y2, y4, y5, y6, y7, y8, y9))
theorem spec_Plain_l2_of : OfL spec_Plain_k2 spec_Plain_l2 := ofL 120 2 fun _ _ _ => by kernel_rfl
def spec_Plain_raw : RT (List XState) (List XItem) := fun D L a0 =>
 (spec_Plain_k0 L (a0, 0, [])).bind fun z7 =>
 some z7
theorem spec_Plain_of : OfF spec_Plain spec_Plain_raw := ofF 120 fun _ _ _ => by kernel_rfl
def impl_Plain_l0 : RT ((List XState) × Int × (List XItem)) (List XItem) := fun D L (y0, y1, y2) =>
 bif (decide (y1 < 5)) then ((impl_Plain_k2 L (y0, y1, y0, (y0.length : Int), 0, y2, 0, 0, 0, 0, ByteArray.empty)).bind fun z5 =>
 bif (decide (0 < z5.2.2.2.1)) then (bif (decide (z5.2.2.2.2.1 = 0)) then (bif fits (List.length z5.2.2.1 + List.length ([(z5.2.1, z5.2.2.2)] : List XItem)) 56 then
 impl_Plain_k0 L (z5.1, (IntKind.wrap .i64 (z5.2.1 + 1)), (z5.2.2.1 ++ ([(z5.2.1, z5.2.2.2)] : List XItem))) else none)
 else (impl_Plain_k0 L (z5.1, (IntKind.wrap .i64 (z5.2.1 + 1)), z5.2.2.1)))
 else (impl_Plain_k0 L (z5.1, (IntKind.wrap .i64 (z5.2.1 + 1)), z5.2.2.1)))
 else (some y2)
theorem impl_Plain_l0_of : OfL impl_Plain_k0 impl_Plain_l0 := ofL 121 0 fun _ _ _ => by kernel_rfl
def impl_Plain_l2 : RT ((List XState) × Int × (List XState) × Int × Int × (List XItem) × Int × Int × Int × Int × ByteArray) (((List XState) × Int × (List XItem) × Int × Int × Int × Int × ByteArray)) := fun D L (y0, y1, y2, y3, y4, y5, y6, y7, y8, y9, y10) =>
 bif (decide (y4 < y3)) then (bif inb y4 y2.length then
 let e1 := (rd1 zState y2 y4);
 (impl_EntryOf D (e1.1, e1.2, y1)).bind fun r2 =>
 bif r2.2.2.2.2.2 then ((impl_StateOk D e1).bind fun r3 =>
 bif r3 then ((impl_EntryMax D (y6, y7, y8, y9, y10, r2.1, r2.2.1, r2.2.2.1, r2.2.2.2.1, r2.2.2.2.2.1)).bind fun r4 =>
 impl_Plain_k2 L (y0, y1, y2, y3, (IntKind.wrap .i64 (y4 + 1)), y5, r4))
 else (impl_Plain_k2 L (y0, y1, y2, y3, (IntKind.wrap .i64 (y4 + 1)), y5, y6, y7, y8, y9, y10)))
 else (impl_Plain_k2 L (y0, y1, y2, y3, (IntKind.wrap .i64 (y4 + 1)), y5, y6, y7, y8, y9, y10)) else none)
 else (some (y0, y1, y5, y6, y7, y8, y9, y10))
theorem impl_Plain_l2_of : OfL impl_Plain_k2 impl_Plain_l2 := ofL 121 2 fun _ _ _ => by kernel_rfl
def impl_Plain_raw : RT (List XState) (List XItem) := fun D L a0 =>
 (impl_Plain_k0 L (a0, 0, [])).bind fun z6 =>
 some z6
theorem impl_Plain_of : OfF impl_Plain impl_Plain_raw := ofF 121 fun _ _ _ => by kernel_rfl
def laws_szPack_raw : RT (Int × (List Int) × Bool × Int) Int := fun D L (a0, a1, a2, a3) =>
 (laws_szByteS D (a1, a3)).bind fun r1 =>
 bif (decide (r1 < 0)) then (some (-1))
 else (some r1)
theorem laws_szPack_of : OfF laws_szPack laws_szPack_raw := ofF 135 fun _ _ _ => by kernel_rfl
def laws_szSaid_raw : RT (Int × (List XItem) × (List XFloor) × Int) Int := fun D L (a0, a1, a2, a3) =>
 (laws_szState D (a1, a2, a3)).bind fun r1 =>
 bif (decide (r1 < 0)) then (some (-1))
 else (some r1)
theorem laws_szSaid_of : OfF laws_szSaid laws_szSaid_raw := ofF 136 fun _ _ _ => by kernel_rfl
def spec_LogOk_l0 : RT (Int × Int × Int × (List XState)) (Bool ⊕ Unit) := fun D L (y0, y1, y2, y3) =>
 bif (decide (y0 < (y3.length : Int))) then (bif inb y0 y3.length then
 let e3 := (rd1 zState y3 y0);
 (spec_StateOk D e3).bind fun r4 =>
 bif (!r4) then (some (Sum.inl false))
 else (spec_LogOk_k0 L ((IntKind.wrap .i64 (y0 + 1)), y1, y2, y3)) else none)
 else (some (Sum.inr ()))
theorem spec_LogOk_l0_of : OfL spec_LogOk_k0 spec_LogOk_l0 := ofL 137 0 fun _ _ _ => by kernel_rfl
def spec_LogOk_raw : RT XLog Bool := fun D L (a0, a1, a2) =>
 (spec_l1In D (a0, 1, 8)).bind fun r1 =>
 bif (!r1) then (some false)
 else (bif (decide (a0 < (a2.length : Int))) then (some false)
 else ((spec_l1In D (a1, 0, 100000)).bind fun r2 =>
 bif (!r2) then (some false)
 else (bif (decide (100000 < (IntKind.wrap .i64 (a1 + (a2.length : Int))))) then (some false)
 else ((spec_LogOk_k0 L (0, a0, a1, a2)).bind fun z5 =>
 elimS z5 (fun u6 =>
 some u6)
 (fun z7 =>
 some true)))))
theorem spec_LogOk_of : OfF spec_LogOk spec_LogOk_raw := ofF 137 fun _ _ _ => by kernel_rfl
def laws_toPack_raw : RT XPack XPack := fun D L (a0, a1, a2) =>
 (laws_toByteS D a1).bind fun r1 =>
 some (a0, r1, a2)
theorem laws_toPack_of : OfF laws_toPack laws_toPack_raw := ofF 138 fun _ _ _ => by kernel_rfl
def laws_toSaid_raw : RT XSaid XSaid := fun D L (a0, a1, a2) =>
 (laws_toState D (a1, a2)).bind fun r1 =>
 some (a0, r1)
theorem laws_toSaid_of : OfF laws_toSaid laws_toSaid_raw := ofF 139 fun _ _ _ => by kernel_rfl
def impl_within_raw : RT XRise Bool := fun D L (a0, a1, a2) =>
 bif (decide (a1 ≤ a0)) then (some (decide (a0 ≤ a2)))
 else (some false)
theorem impl_within_of : OfF impl_within impl_within_raw := ofF 140 fun _ _ _ => by kernel_rfl
def impl_StateOk_l0 : RT ((List XFloor) × Int × Int × (List XItem) × (List XFloor)) (Bool ⊕ XState) := fun D L (y0, y1, y2, y3, y4) =>
 bif (decide (y2 < y1)) then (bif inb y2 y0.length then
 let e1 := (rd1 zFloor y0 y2);
 (impl_isNode D e1.1).bind fun r2 =>
 bif (!r2) then (some (Sum.inl false))
 else ((impl_within D (e1.2, 1, 1000)).bind fun r3 =>
 bif (!r3) then (some (Sum.inl false))
 else (bif (decide (0 < y2)) then (bif inb (IntKind.wrap .i64 (y2 - 1)) y4.length then
 let e4 := (rd1 zFloor y4 (IntKind.wrap .i64 (y2 - 1)));
 bif (decide (e1.1 ≤ e4.1)) then (some (Sum.inl false))
 else (impl_StateOk_k0 L (y0, y1, (IntKind.wrap .i64 (y2 + 1)), y3, y4)) else none)
 else (impl_StateOk_k0 L (y0, y1, (IntKind.wrap .i64 (y2 + 1)), y3, y4)))) else none)
 else (some (Sum.inr (y3, y4)))
theorem impl_StateOk_l0_of : OfL impl_StateOk_k0 impl_StateOk_l0 := ofL 141 0 fun _ _ _ => by kernel_rfl
def impl_StateOk_l2 : RT ((List XItem) × Int × Int × (List XItem) × (List XFloor)) (Bool ⊕ Unit) := fun D L (y0, y1, y2, y3, y4) =>
 bif (decide (y2 < y1)) then (bif inb y2 y0.length then
 let e8 := (rd1 zItem y0 y2);
 (impl_isNode D e8.1).bind fun r9 =>
 bif (!r9) then (some (Sum.inl false))
 else ((impl_EntryOk D e8.2).bind fun r10 =>
 bif (!r10) then (some (Sum.inl false))
 else ((impl_FloorOf D (y3, y4, e8.1)).bind fun r11 =>
 bif (decide (e8.2.1 ≤ r11)) then (some (Sum.inl false))
 else (bif (decide (0 < y2)) then (bif inb (IntKind.wrap .i64 (y2 - 1)) y3.length then
 let e12 := (rd1 zItem y3 (IntKind.wrap .i64 (y2 - 1)));
 bif (decide (e8.1 ≤ e12.1)) then (some (Sum.inl false))
 else (impl_StateOk_k2 L (y0, y1, (IntKind.wrap .i64 (y2 + 1)), y3, y4)) else none)
 else (impl_StateOk_k2 L (y0, y1, (IntKind.wrap .i64 (y2 + 1)), y3, y4))))) else none)
 else (some (Sum.inr ()))
theorem impl_StateOk_l2_of : OfL impl_StateOk_k2 impl_StateOk_l2 := ofL 141 2 fun _ _ _ => by kernel_rfl
def impl_StateOk_raw : RT XState Bool := fun D L (a0, a1) =>
 (impl_StateOk_k0 L (a1, (a1.length : Int), 0, a0, a1)).bind fun z5 =>
 elimS z5 (fun u6 =>
 some u6)
 (fun z7 =>
 (impl_StateOk_k2 L (z7.1, (z7.1.length : Int), 0, z7)).bind fun z13 =>
 elimS z13 (fun u14 =>
 some u14)
 (fun z15 =>
 some true))
theorem impl_StateOk_of : OfF impl_StateOk impl_StateOk_raw := ofF 141 fun _ _ _ => by kernel_rfl
def impl_LogOk_l0 : RT ((List XState) × Int × Int × Int × Int × (List XState)) (Bool ⊕ XLog) := fun D L (y0, y1, y2, y3, y4, y5) =>
 bif (decide (y2 < y1)) then (bif inb y2 y0.length then
 let e1 := (rd1 zState y0 y2);
 (impl_StateOk D e1).bind fun r2 =>
 bif (!r2) then (some (Sum.inl false))
 else (impl_LogOk_k0 L (y0, y1, (IntKind.wrap .i64 (y2 + 1)), y3, y4, y5)) else none)
 else (some (Sum.inr (y3, y4, y5)))
theorem impl_LogOk_l0_of : OfL impl_LogOk_k0 impl_LogOk_l0 := ofL 142 0 fun _ _ _ => by kernel_rfl
def impl_LogOk_raw : RT XLog Bool := fun D L (a0, a1, a2) =>
 (impl_LogOk_k0 L (a2, (a2.length : Int), 0, a0, a1, a2)).bind fun z3 =>
 elimS z3 (fun u4 =>
 some u4)
 (fun z5 =>
 (impl_within D (z5.1, 1, 8)).bind fun r6 =>
 bif r6 then (bif (decide ((z5.2.2.length : Int) ≤ z5.1)) then ((impl_within D (z5.2.1, 0, 100000)).bind fun r7 =>
 bif r7 then (some (decide ((IntKind.wrap .i64 (z5.2.1 + (z5.2.2.length : Int))) ≤ 100000)))
 else (some false))
 else (some false))
 else (some false))
theorem impl_LogOk_of : OfF impl_LogOk impl_LogOk_raw := ofF 142 fun _ _ _ => by kernel_rfl
def laws_eqPack_raw : RT (Int × (List Int) × Bool × Int × (List Int) × Bool) Bool := fun D L (a0, a1, a2, a3, a4, a5) =>
 bif (!decide (a0 = a3)) then (some false)
 else ((laws_eqByteS D (a1, a4)).bind fun r1 =>
 bif (!r1) then (some false)
 else (bif (!(a2 == a5)) then (some false)
 else (some true)))
theorem laws_eqPack_of : OfF laws_eqPack laws_eqPack_raw := ofF 143 fun _ _ _ => by kernel_rfl
def laws_eqSaid_raw : RT (Int × (List XItem) × (List XFloor) × Int × (List XItem) × (List XFloor)) Bool := fun D L (a0, a1, a2, a3, a4, a5) =>
 bif (!decide (a0 = a3)) then (some false)
 else ((laws_eqState D (a1, a2, a4, a5)).bind fun r1 =>
 bif (!r1) then (some false)
 else (some true))
theorem laws_eqSaid_of : OfF laws_eqSaid laws_eqSaid_raw := ofF 144 fun _ _ _ => by kernel_rfl
def spec_StateOk_l0 : RT XSaid (Bool ⊕ XState) := fun D L (y0, y1, y2) =>
 bif (decide (y0 < (y1.length : Int))) then (bif inb y0 y1.length then
 let e1 := (rd1 zItem y1 y0);
 (spec_l3Node D e1.1).bind fun r2 =>
 bif (!r2) then (some (Sum.inl false))
 else (bif (decide (0 < y0)) then (bif inb (IntKind.wrap .i64 (y0 - 1)) y1.length then
 let e3 := (rd1 zItem y1 (IntKind.wrap .i64 (y0 - 1)));
 bif (decide (e1.1 ≤ e3.1)) then (some (Sum.inl false))
 else ((spec_EntryOk D e1.2).bind fun r4 =>
 bif (!r4) then (some (Sum.inl false))
 else ((spec_FloorOf D (y1, y2, e1.1)).bind fun r5 =>
 bif (decide (e1.2.1 ≤ r5)) then (some (Sum.inl false))
 else (spec_StateOk_k0 L ((IntKind.wrap .i64 (y0 + 1)), y1, y2)))) else none)
 else ((spec_EntryOk D e1.2).bind fun r6 =>
 bif (!r6) then (some (Sum.inl false))
 else ((spec_FloorOf D (y1, y2, e1.1)).bind fun r7 =>
 bif (decide (e1.2.1 ≤ r7)) then (some (Sum.inl false))
 else (spec_StateOk_k0 L ((IntKind.wrap .i64 (y0 + 1)), y1, y2))))) else none)
 else (some (Sum.inr (y1, y2)))
theorem spec_StateOk_l0_of : OfL spec_StateOk_k0 spec_StateOk_l0 := ofL 145 0 fun _ _ _ => by kernel_rfl
def spec_StateOk_l2 : RT XSaid (Bool ⊕ Unit) := fun D L (y0, y1, y2) =>
 bif (decide (y0 < (y2.length : Int))) then (bif inb y0 y2.length then
 let e11 := (rd1 zFloor y2 y0);
 (spec_l3Node D e11.1).bind fun r12 =>
 bif (!r12) then (some (Sum.inl false))
 else (bif (decide (0 < y0)) then (bif inb (IntKind.wrap .i64 (y0 - 1)) y2.length then
 let e13 := (rd1 zFloor y2 (IntKind.wrap .i64 (y0 - 1)));
 bif (decide (e11.1 ≤ e13.1)) then (some (Sum.inl false))
 else ((spec_l1In D (e11.2, 1, 1000)).bind fun r14 =>
 bif (!r14) then (some (Sum.inl false))
 else (spec_StateOk_k2 L ((IntKind.wrap .i64 (y0 + 1)), y1, y2))) else none)
 else ((spec_l1In D (e11.2, 1, 1000)).bind fun r15 =>
 bif (!r15) then (some (Sum.inl false))
 else (spec_StateOk_k2 L ((IntKind.wrap .i64 (y0 + 1)), y1, y2)))) else none)
 else (some (Sum.inr ()))
theorem spec_StateOk_l2_of : OfL spec_StateOk_k2 spec_StateOk_l2 := ofL 145 2 fun _ _ _ => by kernel_rfl
def spec_StateOk_raw : RT XState Bool := fun D L (a0, a1) =>
 (spec_StateOk_k0 L (0, a0, a1)).bind fun z8 =>
 elimS z8 (fun u9 =>
 some u9)
 (fun z10 =>
 (spec_StateOk_k2 L (0, z10)).bind fun z16 =>
 elimS z16 (fun u17 =>
 some u17)
 (fun z18 =>
 some true))
theorem spec_StateOk_of : OfF spec_StateOk spec_StateOk_raw := ofF 145 fun _ _ _ => by kernel_rfl
def laws_szItemS_l0 : RT ((List XItem) × Int × Int) (Int ⊕ Int) := fun D L (y0, y1, y2) =>
 bif (decide (y2 < (y0.length : Int))) then (bif inb y2 y0.length then
 let e1 := (rd1 zItem y0 y2);
 (laws_szItem D (e1.1, e1.2.1, e1.2.2.1, e1.2.2.2.1, e1.2.2.2.2.1, e1.2.2.2.2.2, y1)).bind fun r2 =>
 bif (decide (r2 < 0)) then (some (Sum.inl (-1)))
 else (laws_szItemS_k0 L (y0, r2, (IntKind.wrap .i64 (y2 + 1)))) else none)
 else (some (Sum.inr y1))
theorem laws_szItemS_l0_of : OfL laws_szItemS_k0 laws_szItemS_l0 := ofL 146 0 fun _ _ _ => by kernel_rfl
def laws_szItemS_raw : RT ((List XItem) × Int) Int := fun D L (a0, a1) =>
 bif (decide ((IntKind.wrap .i64 (a1 - (a0.length : Int))) < 0)) then (some (-1))
 else ((laws_szItemS_k0 L (a0, (IntKind.wrap .i64 (a1 - (a0.length : Int))), 0)).bind fun z3 =>
 elimS z3 (fun u4 =>
 some u4)
 (fun z5 =>
 some z5))
theorem laws_szItemS_of : OfF laws_szItemS laws_szItemS_raw := ofF 146 fun _ _ _ => by kernel_rfl
def laws_szFloorS_raw : RT ((List XFloor) × Int) Int := fun D L (a0, a1) =>
 bif (decide ((IntKind.wrap .i64 (a1 - (a0.length : Int))) < 0)) then (some (-1))
 else (some (IntKind.wrap .i64 (a1 - (a0.length : Int))))
theorem laws_szFloorS_of : OfF laws_szFloorS laws_szFloorS_raw := ofF 147 fun _ _ _ => by kernel_rfl
def laws_szStateS_l0 : RT ((List XState) × Int × Int) (Int ⊕ Int) := fun D L (y0, y1, y2) =>
 bif (decide (y2 < (y0.length : Int))) then (bif inb y2 y0.length then
 let e1 := (rd1 zState y0 y2);
 (laws_szState D (e1.1, e1.2, y1)).bind fun r2 =>
 bif (decide (r2 < 0)) then (some (Sum.inl (-1)))
 else (laws_szStateS_k0 L (y0, r2, (IntKind.wrap .i64 (y2 + 1)))) else none)
 else (some (Sum.inr y1))
theorem laws_szStateS_l0_of : OfL laws_szStateS_k0 laws_szStateS_l0 := ofL 148 0 fun _ _ _ => by kernel_rfl
def laws_szStateS_raw : RT ((List XState) × Int) Int := fun D L (a0, a1) =>
 bif (decide ((IntKind.wrap .i64 (a1 - (a0.length : Int))) < 0)) then (some (-1))
 else ((laws_szStateS_k0 L (a0, (IntKind.wrap .i64 (a1 - (a0.length : Int))), 0)).bind fun z3 =>
 elimS z3 (fun u4 =>
 some u4)
 (fun z5 =>
 some z5))
theorem laws_szStateS_of : OfF laws_szStateS laws_szStateS_raw := ofF 148 fun _ _ _ => by kernel_rfl
def spec_l11Tree_raw : RT ((List Int) × Int × (List Int) × Int) Bool := fun D L (a0, a1, a2, a3) =>
 (spec_l1Same D (a0, a2)).bind fun r1 =>
 bif r1 then (some (decide (a1 = a3)))
 else (some false)
theorem spec_l11Tree_of : OfF spec_l11Tree spec_l11Tree_raw := ofF 153 fun _ _ _ => by kernel_rfl
def spec_TreeOf_l0 : RT (Int × (List XItem) × (List XFloor) × (List Int) × Int) XTree := fun D L (y0, y1, y2, y3, y4) =>
 bif (decide (y0 < 4)) then ((spec_LeafSum D (y1, y2, y0)).bind fun r2 =>
 bif fits (List.length y3 + List.length ([r2] : List Int)) 8 then
 spec_TreeOf_k0 L ((IntKind.wrap .i64 (y0 + 1)), y1, y2, (y3 ++ ([r2] : List Int)), y4) else none)
 else (some (y3, y4))
theorem spec_TreeOf_l0_of : OfL spec_TreeOf_k0 spec_TreeOf_l0 := ofL 154 0 fun _ _ _ => by kernel_rfl
def spec_TreeOf_raw : RT XState XTree := fun D L (a0, a1) =>
 (spec_StateOk D (a0, a1)).bind fun r1 =>
 bif (!r1) then (some ([], 0))
 else ((spec_TreeOf_k0 L (0, a0, a1, [], 0)).bind fun z3 =>
 (spec_l6Root D z3.1).bind fun r4 =>
 some (z3.1, r4))
theorem spec_TreeOf_of : OfF spec_TreeOf spec_TreeOf_raw := ofF 154 fun _ _ _ => by kernel_rfl
def spec_VecOk_l0 : RT ((List Int) × Int × Int) (Bool ⊕ Unit) := fun D L (y0, y1, y2) =>
 bif (decide (y2 < y1)) then (bif inb y2 y0.length then
 (spec_l1In D ((rd1 (0 : Int) y0 y2), 0, 100000)).bind fun r2 =>
 bif (!r2) then (some (Sum.inl false))
 else (spec_VecOk_k0 L (y0, y1, (IntKind.wrap .i64 (y2 + 1)))) else none)
 else (some (Sum.inr ()))
theorem spec_VecOk_l0_of : OfL spec_VecOk_k0 spec_VecOk_l0 := ofL 155 0 fun _ _ _ => by kernel_rfl
def spec_VecOk_raw : RT XTree Bool := fun D L (a0, a1) =>
 (spec_l1In D (a1, 1, 5)).bind fun r1 =>
 bif (!r1) then (some false)
 else (bif (!decide ((a0.length : Int) = a1)) then (some false)
 else ((spec_VecOk_k0 L (a0, a1, 0)).bind fun z3 =>
 elimS z3 (fun u4 =>
 some u4)
 (fun z5 =>
 some true)))
theorem spec_VecOk_of : OfF spec_VecOk spec_VecOk_raw := ofF 155 fun _ _ _ => by kernel_rfl
def spec_TableOk_l0 : RT ((List (List Int)) × Int × Int) (Bool ⊕ Unit) := fun D L (y0, y1, y2) =>
 bif (decide (y2 < y1)) then (bif inb y2 y0.length then
 bif (!decide (((List.length (rd1 ([] : List Int) y0 y2)) : Int) = 5)) then (some (Sum.inl false))
 else ((spec_TableOk_k2 L (y0, y1, y2, 0)).bind fun z3 =>
 elimS z3 (fun u4 =>
 some (Sum.inl u4))
 (fun z5 =>
 spec_TableOk_k0 L (z5.1, z5.2.1, (IntKind.wrap .i64 (z5.2.2 + 1))))) else none)
 else (some (Sum.inr ()))
theorem spec_TableOk_l0_of : OfL spec_TableOk_k0 spec_TableOk_l0 := ofL 156 0 fun _ _ _ => by kernel_rfl
def spec_TableOk_l2 : RT ((List (List Int)) × Int × Int × Int) (Bool ⊕ (((List (List Int)) × Int × Int))) := fun D L (y0, y1, y2, y3) =>
 bif inb y2 y0.length then
 bif (decide (y3 < ((List.length (rd1 ([] : List Int) y0 y2)) : Int))) then (bif inb y2 y0.length then
 bif inb y3 (List.length (rd1 ([] : List Int) y0 y2)) then
 (spec_l1In D ((rd1 (0 : Int) (rd1 ([] : List Int) y0 y2) y3), 0, 1000)).bind fun r2 =>
 bif (!r2) then (some (Sum.inl false))
 else (spec_TableOk_k2 L (y0, y1, y2, (IntKind.wrap .i64 (y3 + 1)))) else none else none)
 else (some (Sum.inr (y0, y1, y2))) else none
theorem spec_TableOk_l2_of : OfL spec_TableOk_k2 spec_TableOk_l2 := ofL 156 2 fun _ _ _ => by kernel_rfl
def spec_TableOk_raw : RT ((List (List Int)) × Int) Bool := fun D L (a0, a1) =>
 (spec_l1In D (a1, 1, 5)).bind fun r1 =>
 bif (!r1) then (some false)
 else (bif (!decide ((a0.length : Int) = a1)) then (some false)
 else ((spec_TableOk_k0 L (a0, a1, 0)).bind fun z6 =>
 elimS z6 (fun u7 =>
 some u7)
 (fun z8 =>
 some true)))
theorem spec_TableOk_of : OfF spec_TableOk spec_TableOk_raw := ofF 156 fun _ _ _ => by kernel_rfl
def spec_l11Sess_l0 : RT (Int × Int × Int × (List XItem) × (List XFloor) × (List Int) × Int × Int × Int × (List XState) × (List Int) × (List Int) × (List (List Int)) × Int × Int × (List XSess) × Int × Int × Int × (List XRise)) (Bool ⊕ Unit) := fun D L (y0, y1, y2, y3, y4, y5, y6, y7, y8, y9, y10, y11, y12, y13, y14, y15, y16, y17, y18, y19) =>
 bif (decide (y0 < (y15.length : Int))) then (bif inb y0 y15.length then
 let e1 := (rd1 zSess y15 y0);
 (spec_l1In D (e1.1, 0, (IntKind.wrap .i64 (y2 - 1)))).bind fun r2 =>
 bif (!r2) then (some (Sum.inl false))
 else (bif (decide (e1.1 = y1)) then (some (Sum.inl false))
 else ((spec_l1In D (e1.2.1, 0, 100000)).bind fun r3 =>
 bif (!r3) then (some (Sum.inl false))
 else ((spec_l1In D (e1.2.2.2, 0, y16)).bind fun r4 =>
 bif (!r4) then (some (Sum.inl false))
 else ((spec_l11Sess_k2 L (y0, 0, e1.1, y1, (decide (e1.1 = y1)), e1.2.1, r3, (!r3), e1.2.2.2, y16, r4, (!r4), y1, y2, y3, y4, y5, y6, y7, y8, y9, y10, y11, y12, y13, y14, y15, y16, y17, y18, y19, e1)).bind fun z7 =>
 elimS z7 (fun u8 =>
 some (Sum.inl u8))
 (fun z9 =>
 spec_l11Sess_k0 L ((IntKind.wrap .i64 (z9.1 + 1)), z9.2.2.2.2.2.2.2.2.2.2.2.1, z9.2.2.2.2.2.2.2.2.2.2.2.2.1, z9.2.2.2.2.2.2.2.2.2.2.2.2.2.1, z9.2.2.2.2.2.2.2.2.2.2.2.2.2.2.1, z9.2.2.2.2.2.2.2.2.2.2.2.2.2.2.2.1, z9.2.2.2.2.2.2.2.2.2.2.2.2.2.2.2.2.1, z9.2.2.2.2.2.2.2.2.2.2.2.2.2.2.2.2.2.1, z9.2.2.2.2.2.2.2.2.2.2.2.2.2.2.2.2.2.2.1, z9.2.2.2.2.2.2.2.2.2.2.2.2.2.2.2.2.2.2.2.1, z9.2.2.2.2.2.2.2.2.2.2.2.2.2.2.2.2.2.2.2.2.1, z9.2.2.2.2.2.2.2.2.2.2.2.2.2.2.2.2.2.2.2.2.2.1, z9.2.2.2.2.2.2.2.2.2.2.2.2.2.2.2.2.2.2.2.2.2.2.1, z9.2.2.2.2.2.2.2.2.2.2.2.2.2.2.2.2.2.2.2.2.2.2.2.1, z9.2.2.2.2.2.2.2.2.2.2.2.2.2.2.2.2.2.2.2.2.2.2.2.2.1, z9.2.2.2.2.2.2.2.2.2.2.2.2.2.2.2.2.2.2.2.2.2.2.2.2.2.1, z9.2.2.2.2.2.2.2.2.2.2.2.2.2.2.2.2.2.2.2.2.2.2.2.2.2.2.1, z9.2.2.2.2.2.2.2.2.2.2.2.2.2.2.2.2.2.2.2.2.2.2.2.2.2.2.2.1, z9.2.2.2.2.2.2.2.2.2.2.2.2.2.2.2.2.2.2.2.2.2.2.2.2.2.2.2.2.1, z9.2.2.2.2.2.2.2.2.2.2.2.2.2.2.2.2.2.2.2.2.2.2.2.2.2.2.2.2.2.1)))))) else none)
 else (some (Sum.inr ()))
theorem spec_l11Sess_l0_of : OfL spec_l11Sess_k0 spec_l11Sess_l0 := ofL 157 0 fun _ _ _ => by kernel_rfl
def spec_l11Sess_l2 : RT (Int × Int × Int × Int × Bool × Int × Bool × Bool × Int × Int × Bool × Bool × Int × Int × (List XItem) × (List XFloor) × (List Int) × Int × Int × Int × (List XState) × (List Int) × (List Int) × (List (List Int)) × Int × Int × (List XSess) × Int × Int × Int × (List XRise) × Int × Int × Bool × Int) (Bool ⊕ ((Int × Int × Int × Bool × Int × Bool × Bool × Int × Int × Bool × Bool × Int × Int × (List XItem) × (List XFloor) × (List Int) × Int × Int × Int × (List XState) × (List Int) × (List Int) × (List (List Int)) × Int × Int × (List XSess) × Int × Int × Int × (List XRise) × Int × Int × Bool × Int))) := fun D L (y0, y1, y2, y3, y4, y5, y6, y7, y8, y9, y10, y11, y12, y13, y14, y15, y16, y17, y18, y19, y20, y21, y22, y23, y24, y25, y26, y27, y28, y29, y30, y31, y32, y33, y34) =>
 bif (decide (y1 < y0)) then (bif inb y1 y26.length then
 let e5 := (rd1 zSess y26 y1);
 bif (decide (e5.1 = y31)) then (bif inb y1 y26.length then
 let e6 := (rd1 zSess y26 y1);
 bif (e6.2.2.1 == y33) then (some (Sum.inl false))
 else (spec_l11Sess_k2 L (y0, (IntKind.wrap .i64 (y1 + 1)), y2, y3, y4, y5, y6, y7, y8, y9, y10, y11, y12, y13, y14, y15, y16, y17, y18, y19, y20, y21, y22, y23, y24, y25, y26, y27, y28, y29, y30, y31, y32, y33, y34)) else none)
 else (spec_l11Sess_k2 L (y0, (IntKind.wrap .i64 (y1 + 1)), y2, y3, y4, y5, y6, y7, y8, y9, y10, y11, y12, y13, y14, y15, y16, y17, y18, y19, y20, y21, y22, y23, y24, y25, y26, y27, y28, y29, y30, y31, y32, y33, y34)) else none)
 else (some (Sum.inr (y0, y2, y3, y4, y5, y6, y7, y8, y9, y10, y11, y12, y13, y14, y15, y16, y17, y18, y19, y20, y21, y22, y23, y24, y25, y26, y27, y28, y29, y30, y31, y32, y33, y34)))
theorem spec_l11Sess_l2_of : OfL spec_l11Sess_k2 spec_l11Sess_l2 := ofL 157 2 fun _ _ _ => by kernel_rfl
def spec_l11Sess_raw : RT XNode Bool := fun D L (a0, a1, a2, a3, a4, a5, a6, a7, a8, a9, a10, a11, a12, a13, a14, a15, a16, a17, a18) =>
 bif (decide (a13 < (a14.length : Int))) then (some false)
 else ((spec_l11Sess_k0 L (0, a0, a1, a2, a3, a4, a5, a6, a7, a8, a9, a10, a11, a12, a13, a14, a15, a16, a17, a18)).bind fun z10 =>
 elimS z10 (fun u11 =>
 some u11)
 (fun z12 =>
 some true))
theorem spec_l11Sess_of : OfF spec_l11Sess spec_l11Sess_raw := ofF 157 fun _ _ _ => by kernel_rfl
def laws_toItemS_l0 : RT ((List XItem) × Int × (List XItem)) (List XItem) := fun D L (y0, y1, y2) =>
 bif (decide (y1 < (y0.length : Int))) then (bif inb y1 y0.length then
 let e1 := (rd1 zItem y0 y1);
 (laws_toItem D e1).bind fun r2 =>
 bif inb y1 y2.length then
 let l3 := List.set y2 (Int.toNat y1) r2;
 laws_toItemS_k0 L (y0, (IntKind.wrap .i64 (y1 + 1)), l3) else none else none)
 else (some y2)
theorem laws_toItemS_l0_of : OfL laws_toItemS_k0 laws_toItemS_l0 := ofL 159 0 fun _ _ _ => by kernel_rfl
def laws_toItemS_raw : RT (List XItem) (List XItem) := fun D L a0 =>
 bif (decide ((0 : Int) ≤ (a0.length : Int) ∧ ((a0.length : Int) : Int) = (a0.length : Int)) && fits (Int.toNat (a0.length : Int)) 56) then
 (laws_toItemS_k0 L (a0, 0, (List.replicate (Int.toNat (a0.length : Int)) (0, 0, 0, 0, 0, ByteArray.empty)))).bind fun z4 =>
 some z4 else none
theorem laws_toItemS_of : OfF laws_toItemS laws_toItemS_raw := ofF 159 fun _ _ _ => by kernel_rfl
def laws_toFloorS_l0 : RT ((List XFloor) × Int × (List XFloor)) (List XFloor) := fun D L (y0, y1, y2) =>
 bif (decide (y1 < (y0.length : Int))) then (bif inb y1 y0.length then
 let e1 := (rd1 zFloor y0 y1);
 (laws_toFloor D e1).bind fun r2 =>
 bif inb y1 y2.length then
 let l3 := List.set y2 (Int.toNat y1) r2;
 laws_toFloorS_k0 L (y0, (IntKind.wrap .i64 (y1 + 1)), l3) else none else none)
 else (some y2)
theorem laws_toFloorS_l0_of : OfL laws_toFloorS_k0 laws_toFloorS_l0 := ofL 160 0 fun _ _ _ => by kernel_rfl
def laws_toFloorS_raw : RT (List XFloor) (List XFloor) := fun D L a0 =>
 bif (decide ((0 : Int) ≤ (a0.length : Int) ∧ ((a0.length : Int) : Int) = (a0.length : Int)) && fits (Int.toNat (a0.length : Int)) 16) then
 (laws_toFloorS_k0 L (a0, 0, (List.replicate (Int.toNat (a0.length : Int)) (0, 0)))).bind fun z4 =>
 some z4 else none
theorem laws_toFloorS_of : OfF laws_toFloorS laws_toFloorS_raw := ofF 160 fun _ _ _ => by kernel_rfl
def laws_toStateS_l0 : RT ((List XState) × Int × (List XState)) (List XState) := fun D L (y0, y1, y2) =>
 bif (decide (y1 < (y0.length : Int))) then (bif inb y1 y0.length then
 let e1 := (rd1 zState y0 y1);
 (laws_toState D e1).bind fun r2 =>
 bif inb y1 y2.length then
 let l3 := List.set y2 (Int.toNat y1) r2;
 laws_toStateS_k0 L (y0, (IntKind.wrap .i64 (y1 + 1)), l3) else none else none)
 else (some y2)
theorem laws_toStateS_l0_of : OfL laws_toStateS_k0 laws_toStateS_l0 := ofL 161 0 fun _ _ _ => by kernel_rfl
def laws_toStateS_raw : RT (List XState) (List XState) := fun D L a0 =>
 bif (decide ((0 : Int) ≤ (a0.length : Int) ∧ ((a0.length : Int) : Int) = (a0.length : Int)) && fits (Int.toNat (a0.length : Int)) 48) then
 (laws_toStateS_k0 L (a0, 0, (List.replicate (Int.toNat (a0.length : Int)) ([], [])))).bind fun z4 =>
 some z4 else none
theorem laws_toStateS_of : OfF laws_toStateS laws_toStateS_raw := ofF 161 fun _ _ _ => by kernel_rfl
def laws_toSess_raw : RT XSess XSess := fun D L (a0, a1, a2, a3) =>
 some (a0, a1, a2, a3)
theorem laws_toSess_of : OfF laws_toSess laws_toSess_raw := ofF 162 fun _ _ _ => by kernel_rfl
def laws_toRise_raw : RT XRise XRise := fun D L (a0, a1, a2) =>
 some (a0, a1, a2)
theorem laws_toRise_of : OfF laws_toRise laws_toRise_raw := ofF 163 fun _ _ _ => by kernel_rfl
def impl_treeSame_raw : RT ((List Int) × Int × (List Int) × Int) Bool := fun D L (a0, a1, a2, a3) =>
 (slices_Equalint_int D (a0, a2)).bind fun r1 =>
 bif r1 then (some (decide (a1 = a3)))
 else (some false)
theorem impl_treeSame_of : OfF impl_treeSame impl_treeSame_raw := ofF 169 fun _ _ _ => by kernel_rfl
def impl_TreeOf_l0 : RT (Int × (List XItem) × (List XFloor) × (List Int) × Int) XTree := fun D L (y0, y1, y2, y3, y4) =>
 bif (decide (y0 < 4)) then ((impl_LeafSum D (y1, y2, y0)).bind fun r2 =>
 bif fits (List.length y3 + List.length ([r2] : List Int)) 8 then
 impl_TreeOf_k0 L ((IntKind.wrap .i64 (y0 + 1)), y1, y2, (y3 ++ ([r2] : List Int)), y4) else none)
 else (some (y3, y4))
theorem impl_TreeOf_l0_of : OfL impl_TreeOf_k0 impl_TreeOf_l0 := ofL 170 0 fun _ _ _ => by kernel_rfl
def impl_TreeOf_raw : RT XState XTree := fun D L (a0, a1) =>
 (impl_StateOk D (a0, a1)).bind fun r1 =>
 bif (!r1) then (some ([], 0))
 else ((impl_TreeOf_k0 L (0, a0, a1, [], 0)).bind fun z3 =>
 (impl_rootOf D z3.1).bind fun r4 =>
 some (z3.1, r4))
theorem impl_TreeOf_of : OfF impl_TreeOf impl_TreeOf_raw := ofF 170 fun _ _ _ => by kernel_rfl
def impl_VecOk_l0 : RT ((List Int) × Int × (List Int) × Int × Int) (Bool ⊕ XTree) := fun D L (y0, y1, y2, y3, y4) =>
 bif (decide (y4 < y3)) then (bif inb y4 y2.length then
 (impl_within D ((rd1 (0 : Int) y2 y4), 0, 100000)).bind fun r1 =>
 bif (!r1) then (some (Sum.inl false))
 else (impl_VecOk_k0 L (y0, y1, y2, y3, (IntKind.wrap .i64 (y4 + 1)))) else none)
 else (some (Sum.inr (y0, y1)))
theorem impl_VecOk_l0_of : OfL impl_VecOk_k0 impl_VecOk_l0 := ofL 171 0 fun _ _ _ => by kernel_rfl
def impl_VecOk_raw : RT XTree Bool := fun D L (a0, a1) =>
 (impl_VecOk_k0 L (a0, a1, a0, (a0.length : Int), 0)).bind fun z2 =>
 elimS z2 (fun u3 =>
 some u3)
 (fun z4 =>
 (impl_within D (z4.2, 1, 5)).bind fun r5 =>
 bif r5 then (some (decide ((z4.1.length : Int) = z4.2)))
 else (some false))
theorem impl_VecOk_of : OfF impl_VecOk impl_VecOk_raw := ofF 171 fun _ _ _ => by kernel_rfl
def slices_Maxint_int_l0 : RT ((List Int) × Int × Int) Int := fun D L (y0, y1, y2) =>
 bif (decide (y2 < (y0.length : Int))) then (bif inb y2 y0.length then
 slices_Maxint_int_k0 L (y0, (mxI y1 (rd1 (0 : Int) y0 y2)), (IntKind.wrap .i64 (y2 + 1))) else none)
 else (some y1)
theorem slices_Maxint_int_l0_of : OfL slices_Maxint_int_k0 slices_Maxint_int_l0 := ofL 172 0 fun _ _ _ => by kernel_rfl
def slices_Maxint_int_raw : RT (List Int) Int := fun D L a0 =>
 bif (decide ((a0.length : Int) < 1)) then (none)
 else (bif inb 0 a0.length then
 (slices_Maxint_int_k0 L (a0, (rd1 (0 : Int) a0 0), 1)).bind fun z1 =>
 some z1 else none)
theorem slices_Maxint_int_of : OfF slices_Maxint_int slices_Maxint_int_raw := ofF 172 fun _ _ _ => by kernel_rfl
end
end Go.Proofs.YtjenicbpdklpbaaGreat.M
