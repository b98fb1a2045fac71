/- Plain forms of the functions that FnTurned reaches, part 0. No conditions. -/
import Derived.Test.YtgkobeililjgbaaFnTurnedTab
namespace Go.Proofs.Ytgkobeililjgbaa.M
open Go Go.Eng Go.Proofs
set_option linter.unusedVariables false
noncomputable def laws_FnTurned_raw (D : DFun E) (L : LFun E) (a0 : List Int) : Option (Bool) :=
 Option.bind (laws_big D a0) fun r1 =>
 bif r1 then (some true)
 else (Option.bind (spec_DrawTurned D a0) fun r2 =>
 Option.bind (impl_Turned D (r2.1, r2.2)) fun r3 =>
 Option.bind (spec_Turned D (r2.1, r2.2)) fun r4 =>
 Option.bind (laws_sameInts D (r3, r4)) fun r5 =>
 bif (!r5) then (some false)
 else (bif (decide ((((List.length r2.1) : Nat) : Int) = 0)) then (some (decide ((((List.length r3) : Nat) : Int) = 0)))
 else (Option.bind (laws_l4 D (r2.2, (((List.length r2.1) : Nat) : Int))) fun r6 =>
 Option.bind (impl_Turned D (r3, (IntKind.wrap .i64 ((((List.length r2.1) : Nat) : Int) - r6)))) fun r7 =>
 Option.bind (spec_DrawPermutation D a0) fun r8 =>
 Option.bind (laws_sameInts D (r7, r2.1)) fun r9 =>
 bif r9 then (Option.bind (impl_Permutation D (r2.1, (((List.length r2.1) : Nat) : Int))) fun r10 =>
 bif r10 then (Option.bind (impl_Permutation D (r3, (((List.length r2.1) : Nat) : Int))) fun r11 =>
 bif r11 then (Option.bind (impl_Permutation D (r8.1, r8.2)) fun r12 =>
 Option.bind (spec_Permutation D (r8.1, r8.2)) fun r13 =>
 some (r12 == r13))
 else (some false))
 else (some false))
 else (some false))))
theorem laws_FnTurned_raw_eq (D : DFun E) (L : LFun E) (a0 : List Int) : laws_FnTurned (stepD E D L) a0 = laws_FnTurned_raw D L a0 := by kernel_rfl
theorem laws_FnTurned_of (a0 : List Int) {o : Bool} (h : laws_FnTurned_raw w wl a0 = some o) : laws_FnTurned w a0 = some o := ap_close _ _ (laws_FnTurned_raw_eq w wl a0) h
noncomputable def spec_Turned_raw (D : DFun E) (L : LFun E) (a0 : List Int) (a1 : Int) : Option (List Int) :=
 bif (decide ((((List.length a0) : Nat) : Int) = 0)) then (some [])
 else (bif decide (((((List.length a0) : Nat) : Int) : Int) ≠ 0) then
 bif (decide ((Int.tmod a1 (((List.length a0) : Nat) : Int)) < 0)) then (bif decide ((0 : Int) ≤ (IntKind.wrap .i64 ((Int.tmod a1 (((List.length a0) : Nat) : Int)) + (((List.length a0) : Nat) : Int))) ∧ (IntKind.wrap .i64 ((Int.tmod a1 (((List.length a0) : Nat) : Int)) + (((List.length a0) : Nat) : Int))) ≤ ((((List.length a0) : Nat) : Int) : Int) ∧ (((List.length a0) : Nat) : Int) ≤ (((List.length a0) : Nat) : Int)) then
 bif fits (List.length ([] : List Int) + List.length (List.take (Int.toNat ((((List.length a0) : Nat) : Int) - (IntKind.wrap .i64 ((Int.tmod a1 (((List.length a0) : Nat) : Int)) + (((List.length a0) : Nat) : Int))))) (List.drop (Int.toNat (IntKind.wrap .i64 ((Int.tmod a1 (((List.length a0) : Nat) : Int)) + (((List.length a0) : Nat) : Int)))) a0))) 8 then
 bif decide ((0 : Int) ≤ 0 ∧ 0 ≤ ((IntKind.wrap .i64 ((Int.tmod a1 (((List.length a0) : Nat) : Int)) + (((List.length a0) : Nat) : Int))) : Int) ∧ (IntKind.wrap .i64 ((Int.tmod a1 (((List.length a0) : Nat) : Int)) + (((List.length a0) : Nat) : Int))) ≤ (((List.length a0) : Nat) : Int)) then
 bif fits (List.length (([] : List Int) ++ List.take (Int.toNat ((((List.length a0) : Nat) : Int) - (IntKind.wrap .i64 ((Int.tmod a1 (((List.length a0) : Nat) : Int)) + (((List.length a0) : Nat) : Int))))) (List.drop (Int.toNat (IntKind.wrap .i64 ((Int.tmod a1 (((List.length a0) : Nat) : Int)) + (((List.length a0) : Nat) : Int)))) a0)) + List.length (List.take (Int.toNat ((IntKind.wrap .i64 ((Int.tmod a1 (((List.length a0) : Nat) : Int)) + (((List.length a0) : Nat) : Int))) - 0)) (List.drop (Int.toNat 0) a0))) 8 then
 some ((([] : List Int) ++ List.take (Int.toNat ((((List.length a0) : Nat) : Int) - (IntKind.wrap .i64 ((Int.tmod a1 (((List.length a0) : Nat) : Int)) + (((List.length a0) : Nat) : Int))))) (List.drop (Int.toNat (IntKind.wrap .i64 ((Int.tmod a1 (((List.length a0) : Nat) : Int)) + (((List.length a0) : Nat) : Int)))) a0)) ++ List.take (Int.toNat ((IntKind.wrap .i64 ((Int.tmod a1 (((List.length a0) : Nat) : Int)) + (((List.length a0) : Nat) : Int))) - 0)) (List.drop (Int.toNat 0) a0)) else none else none else none else none)
 else (bif decide ((0 : Int) ≤ (Int.tmod a1 (((List.length a0) : Nat) : Int)) ∧ (Int.tmod a1 (((List.length a0) : Nat) : Int)) ≤ ((((List.length a0) : Nat) : Int) : Int) ∧ (((List.length a0) : Nat) : Int) ≤ (((List.length a0) : Nat) : Int)) then
 bif fits (List.length ([] : List Int) + List.length (List.take (Int.toNat ((((List.length a0) : Nat) : Int) - (Int.tmod a1 (((List.length a0) : Nat) : Int)))) (List.drop (Int.toNat (Int.tmod a1 (((List.length a0) : Nat) : Int))) a0))) 8 then
 bif decide ((0 : Int) ≤ 0 ∧ 0 ≤ ((Int.tmod a1 (((List.length a0) : Nat) : Int)) : Int) ∧ (Int.tmod a1 (((List.length a0) : Nat) : Int)) ≤ (((List.length a0) : Nat) : Int)) then
 bif fits (List.length (([] : List Int) ++ List.take (Int.toNat ((((List.length a0) : Nat) : Int) - (Int.tmod a1 (((List.length a0) : Nat) : Int)))) (List.drop (Int.toNat (Int.tmod a1 (((List.length a0) : Nat) : Int))) a0)) + List.length (List.take (Int.toNat ((Int.tmod a1 (((List.length a0) : Nat) : Int)) - 0)) (List.drop (Int.toNat 0) a0))) 8 then
 some ((([] : List Int) ++ List.take (Int.toNat ((((List.length a0) : Nat) : Int) - (Int.tmod a1 (((List.length a0) : Nat) : Int)))) (List.drop (Int.toNat (Int.tmod a1 (((List.length a0) : Nat) : Int))) a0)) ++ List.take (Int.toNat ((Int.tmod a1 (((List.length a0) : Nat) : Int)) - 0)) (List.drop (Int.toNat 0) a0)) else none else none else none else none) else none)
theorem spec_Turned_raw_eq (D : DFun E) (L : LFun E) (a0 : List Int) (a1 : Int) : spec_Turned (stepD E D L) (a0, a1) = spec_Turned_raw D L a0 a1 := by kernel_rfl
theorem spec_Turned_of (a0 : List Int) (a1 : Int) {o : List Int} (h : spec_Turned_raw w wl a0 a1 = some o) : spec_Turned w (a0, a1) = some o := ap_close _ _ (spec_Turned_raw_eq w wl a0 a1) h
noncomputable def impl_Turned_raw (D : DFun E) (L : LFun E) (a0 : List Int) (a1 : Int) : Option (List Int) :=
 bif (decide ((((List.length a0) : Nat) : Int) = 0)) then (some [])
 else (bif decide (((((List.length a0) : Nat) : Int) : Int) ≠ 0) then
 bif decide (((((List.length a0) : Nat) : Int) : Int) ≠ 0) then
 bif decide ((0 : Int) ≤ (Int.tmod (IntKind.wrap .i64 ((Int.tmod a1 (((List.length a0) : Nat) : Int)) + (((List.length a0) : Nat) : Int))) (((List.length a0) : Nat) : Int)) ∧ (Int.tmod (IntKind.wrap .i64 ((Int.tmod a1 (((List.length a0) : Nat) : Int)) + (((List.length a0) : Nat) : Int))) (((List.length a0) : Nat) : Int)) ≤ ((((List.length a0) : Nat) : Int) : Int) ∧ (((List.length a0) : Nat) : Int) ≤ (((List.length a0) : Nat) : Int)) then
 Option.bind (impl_copyInts D (List.take (Int.toNat ((((List.length a0) : Nat) : Int) - (Int.tmod (IntKind.wrap .i64 ((Int.tmod a1 (((List.length a0) : Nat) : Int)) + (((List.length a0) : Nat) : Int))) (((List.length a0) : Nat) : Int)))) (List.drop (Int.toNat (Int.tmod (IntKind.wrap .i64 ((Int.tmod a1 (((List.length a0) : Nat) : Int)) + (((List.length a0) : Nat) : Int))) (((List.length a0) : Nat) : Int))) a0))) fun r1 =>
 bif decide ((0 : Int) ≤ 0 ∧ 0 ≤ ((Int.tmod (IntKind.wrap .i64 ((Int.tmod a1 (((List.length a0) : Nat) : Int)) + (((List.length a0) : Nat) : Int))) (((List.length a0) : Nat) : Int)) : Int) ∧ (Int.tmod (IntKind.wrap .i64 ((Int.tmod a1 (((List.length a0) : Nat) : Int)) + (((List.length a0) : Nat) : Int))) (((List.length a0) : Nat) : Int)) ≤ (((List.length a0) : Nat) : Int)) then
 bif fits (List.length r1 + List.length (List.take (Int.toNat ((Int.tmod (IntKind.wrap .i64 ((Int.tmod a1 (((List.length a0) : Nat) : Int)) + (((List.length a0) : Nat) : Int))) (((List.length a0) : Nat) : Int)) - 0)) (List.drop (Int.toNat 0) a0))) 8 then
 some (r1 ++ List.take (Int.toNat ((Int.tmod (IntKind.wrap .i64 ((Int.tmod a1 (((List.length a0) : Nat) : Int)) + (((List.length a0) : Nat) : Int))) (((List.length a0) : Nat) : Int)) - 0)) (List.drop (Int.toNat 0) a0)) else none else none else none else none else none)
theorem impl_Turned_raw_eq (D : DFun E) (L : LFun E) (a0 : List Int) (a1 : Int) : impl_Turned (stepD E D L) (a0, a1) = impl_Turned_raw D L a0 a1 := by kernel_rfl
theorem impl_Turned_of (a0 : List Int) (a1 : Int) {o : List Int} (h : impl_Turned_raw w wl a0 a1 = some o) : impl_Turned w (a0, a1) = some o := ap_close _ _ (impl_Turned_raw_eq w wl a0 a1) h
noncomputable def spec_Permutation_l0 (D : DFun E) (L : LFun E) (y0 : List Int) (y1 : Int) (y2 : Int) : Option (Bool ⊕ Unit) :=
 bif (decide (y2 < y1)) then (Option.bind (spec_l1Has D (y0, y2)) fun r1 =>
 bif (!r1) then (some (Sum.inl false))
 else (spec_Permutation_k0 L (y0, y1, (IntKind.wrap .i64 (y2 + 1)))))
 else (some (Sum.inr ()))
theorem spec_Permutation_l0_eq (D : DFun E) (L : LFun E) (y0 : List Int) (y1 : Int) (y2 : Int) : spec_Permutation_k0 (stepL E D L) (y0, y1, y2) = spec_Permutation_l0 D L y0 y1 y2 := by kernel_rfl
theorem spec_Permutation_l0_of (y0 : List Int) (y1 : Int) (y2 : Int) {o : Bool ⊕ Unit} (h : spec_Permutation_l0 w wl y0 y1 y2 = some o) : spec_Permutation_k0 wl (y0, y1, y2) = some o := apL_close _ _ (spec_Permutation_l0_eq w wl y0 y1 y2) h
noncomputable def spec_Permutation_raw (D : DFun E) (L : LFun E) (a0 : List Int) (a1 : Int) : Option (Bool) :=
 bif (!decide ((((List.length a0) : Nat) : Int) = a1)) then (some false)
 else (Option.bind (spec_Permutation_k0 L (a0, a1, 0)) fun z2 =>
 elimS z2 (fun u3 =>
 some u3)
 (fun z4 =>
 some true))
theorem spec_Permutation_raw_eq (D : DFun E) (L : LFun E) (a0 : List Int) (a1 : Int) : spec_Permutation (stepD E D L) (a0, a1) = spec_Permutation_raw D L a0 a1 := by kernel_rfl
theorem spec_Permutation_of (a0 : List Int) (a1 : Int) {o : Bool} (h : spec_Permutation_raw w wl a0 a1 = some o) : spec_Permutation w (a0, a1) = some o := ap_close _ _ (spec_Permutation_raw_eq w wl a0 a1) h
noncomputable def impl_Permutation_l0 (D : DFun E) (L : LFun E) (y0 : List Int) (y1 : Int) (y2 : Int) : Option (Bool ⊕ Unit) :=
 bif (decide (y2 < y1)) then (Option.bind (slices_Containsint_int D (y0, y2)) fun r1 =>
 bif (!r1) then (some (Sum.inl false))
 else (impl_Permutation_k0 L (y0, y1, (IntKind.wrap .i64 (y2 + 1)))))
 else (some (Sum.inr ()))
theorem impl_Permutation_l0_eq (D : DFun E) (L : LFun E) (y0 : List Int) (y1 : Int) (y2 : Int) : impl_Permutation_k0 (stepL E D L) (y0, y1, y2) = impl_Permutation_l0 D L y0 y1 y2 := by kernel_rfl
theorem impl_Permutation_l0_of (y0 : List Int) (y1 : Int) (y2 : Int) {o : Bool ⊕ Unit} (h : impl_Permutation_l0 w wl y0 y1 y2 = some o) : impl_Permutation_k0 wl (y0, y1, y2) = some o := apL_close _ _ (impl_Permutation_l0_eq w wl y0 y1 y2) h
noncomputable def impl_Permutation_raw (D : DFun E) (L : LFun E) (a0 : List Int) (a1 : Int) : Option (Bool) :=
 bif (!decide ((((List.length a0) : Nat) : Int) = a1)) then (some false)
 else (Option.bind (impl_Permutation_k0 L (a0, a1, 0)) fun z2 =>
 elimS z2 (fun u3 =>
 some u3)
 (fun z4 =>
 some true))
theorem impl_Permutation_raw_eq (D : DFun E) (L : LFun E) (a0 : List Int) (a1 : Int) : impl_Permutation (stepD E D L) (a0, a1) = impl_Permutation_raw D L a0 a1 := by kernel_rfl
theorem impl_Permutation_of (a0 : List Int) (a1 : Int) {o : Bool} (h : impl_Permutation_raw w wl a0 a1 = some o) : impl_Permutation w (a0, a1) = some o := ap_close _ _ (impl_Permutation_raw_eq w wl a0 a1) h
noncomputable def laws_big_raw (D : DFun E) (L : LFun E) (a0 : List Int) : Option (Bool) :=
 some (decide (1048576 < (((List.length a0) : Nat) : Int)))
theorem laws_big_raw_eq (D : DFun E) (L : LFun E) (a0 : List Int) : laws_big (stepD E D L) a0 = laws_big_raw D L a0 := by kernel_rfl
theorem laws_big_of (a0 : List Int) {o : Bool} (h : laws_big_raw w wl a0 = some o) : laws_big w a0 = some o := ap_close _ _ (laws_big_raw_eq w wl a0) h
noncomputable def spec_DrawTurned_raw (D : DFun E) (L : LFun E) (a0 : List Int) : Option (XTree) :=
 Option.bind (spec_l1New D a0) fun r1 =>
 Option.bind (spec_l1Below D (r1.1, r1.2.1, r1.2.2, 6)) fun r2 =>
 Option.bind (spec_l23Order D (r1.1, r2.2.1, r2.2.2, r2.1)) fun r3 =>
 Option.bind (spec_l1PickInt D (r1.1, r3.2.1, r3.2.2, [0, 1, 2, 7, (-1), 9223372036854775807, (-9223372036854775808)])) fun r4 =>
 some (r3.1, r4.1)
theorem spec_DrawTurned_raw_eq (D : DFun E) (L : LFun E) (a0 : List Int) : spec_DrawTurned (stepD E D L) a0 = spec_DrawTurned_raw D L a0 := by kernel_rfl
theorem spec_DrawTurned_of (a0 : List Int) {o : XTree} (h : spec_DrawTurned_raw w wl a0 = some o) : spec_DrawTurned w a0 = some o := ap_close _ _ (spec_DrawTurned_raw_eq w wl a0) h
noncomputable def laws_sameInts_l0 (D : DFun E) (L : LFun E) (y0 : List Int) (y1 : List Int) (y2 : Int) : Option (Bool ⊕ Unit) :=
 bif (decide (y2 < (((List.length y0) : Nat) : Int))) then (bif inb y2 (List.length y0) then
 bif inb y2 (List.length y1) then
 bif (!decide ((rd1 (0 : Int) y0 y2) = (rd1 (0 : Int) y1 y2))) then (some (Sum.inl false))
 else (laws_sameInts_k0 L (y0, y1, (IntKind.wrap .i64 (y2 + 1)))) else none else none)
 else (some (Sum.inr ()))
theorem laws_sameInts_l0_eq (D : DFun E) (L : LFun E) (y0 : List Int) (y1 : List Int) (y2 : Int) : laws_sameInts_k0 (stepL E D L) (y0, y1, y2) = laws_sameInts_l0 D L y0 y1 y2 := by kernel_rfl
theorem laws_sameInts_l0_of (y0 : List Int) (y1 : List Int) (y2 : Int) {o : Bool ⊕ Unit} (h : laws_sameInts_l0 w wl y0 y1 y2 = some o) : laws_sameInts_k0 wl (y0, y1, y2) = some o := apL_close _ _ (laws_sameInts_l0_eq w wl y0 y1 y2) h
noncomputable def laws_sameInts_raw (D : DFun E) (L : LFun E) (a0 : List Int) (a1 : List Int) : Option (Bool) :=
 bif (!decide ((((List.length a0) : Nat) : Int) = (((List.length a1) : Nat) : Int))) then (some false)
 else (Option.bind (laws_sameInts_k0 L (a0, a1, 0)) fun z1 =>
 elimS z1 (fun u2 =>
 some u2)
 (fun z3 =>
 some true))
theorem laws_sameInts_raw_eq (D : DFun E) (L : LFun E) (a0 : List Int) (a1 : List Int) : laws_sameInts (stepD E D L) (a0, a1) = laws_sameInts_raw D L a0 a1 := by kernel_rfl
theorem laws_sameInts_of (a0 : List Int) (a1 : List Int) {o : Bool} (h : laws_sameInts_raw w wl a0 a1 = some o) : laws_sameInts w (a0, a1) = some o := ap_close _ _ (laws_sameInts_raw_eq w wl a0 a1) h
noncomputable def laws_l4_raw (D : DFun E) (L : LFun E) (a0 : Int) (a1 : Int) : Option (Int) :=
 bif decide ((a1 : Int) ≠ 0) then
 bif (decide ((Int.tmod a0 a1) < 0)) then (some (IntKind.wrap .i64 ((Int.tmod a0 a1) + a1)))
 else (some (Int.tmod a0 a1)) else none
theorem laws_l4_raw_eq (D : DFun E) (L : LFun E) (a0 : Int) (a1 : Int) : laws_l4 (stepD E D L) (a0, a1) = laws_l4_raw D L a0 a1 := by kernel_rfl
theorem laws_l4_of (a0 : Int) (a1 : Int) {o : Int} (h : laws_l4_raw w wl a0 a1 = some o) : laws_l4 w (a0, a1) = some o := ap_close _ _ (laws_l4_raw_eq w wl a0 a1) h
noncomputable def spec_DrawPermutation_raw (D : DFun E) (L : LFun E) (a0 : List Int) : Option (XTree) :=
 Option.bind (spec_l1New D a0) fun r1 =>
 Option.bind (spec_l1Below D (r1.1, r1.2.1, r1.2.2, 6)) fun r2 =>
 Option.bind (spec_l23Order D (r1.1, r2.2.1, r2.2.2, r2.1)) fun r3 =>
 Option.bind (spec_l1Below D (r1.1, r3.2.1, r3.2.2, 5)) fun r4 =>
 bif (decide (r4.1 = 0)) then (bif fits (List.length r3.1 + List.length ([0] : List Int)) 8 then
 some ((r3.1 ++ ([0] : List Int)), r2.1) else none)
 else (bif (decide (r4.1 = 1)) then (bif (decide (0 < r2.1)) then (Option.bind (spec_l1Below D (r1.1, r4.2.1, r4.2.2, 7)) fun r5 =>
 bif inb 0 (List.length r3.1) then
 let l6 := List.set r3.1 (Int.toNat 0) (IntKind.wrap .i64 (r5.1 - 1))
 some (l6, r2.1) else none)
 else (some (r3.1, r2.1)))
 else (bif (decide (r4.1 = 2)) then (Option.bind (spec_l1Below D (r1.1, r4.2.1, r4.2.2, 3)) fun r7 =>
 some (r3.1, (IntKind.wrap .i64 ((IntKind.wrap .i64 (r2.1 + r7.1)) - 1))))
 else (some (r3.1, r2.1))))
theorem spec_DrawPermutation_raw_eq (D : DFun E) (L : LFun E) (a0 : List Int) : spec_DrawPermutation (stepD E D L) a0 = spec_DrawPermutation_raw D L a0 := by kernel_rfl
theorem spec_DrawPermutation_of (a0 : List Int) {o : XTree} (h : spec_DrawPermutation_raw w wl a0 = some o) : spec_DrawPermutation w a0 = some o := ap_close _ _ (spec_DrawPermutation_raw_eq w wl a0) h
noncomputable def impl_copyInts_raw (D : DFun E) (L : LFun E) (a0 : List Int) : Option (List Int) :=
 bif fits (List.length ([] : List Int) + List.length a0) 8 then
 some (([] : List Int) ++ a0) else none
theorem impl_copyInts_raw_eq (D : DFun E) (L : LFun E) (a0 : List Int) : impl_copyInts (stepD E D L) a0 = impl_copyInts_raw D L a0 := by kernel_rfl
theorem impl_copyInts_of (a0 : List Int) {o : List Int} (h : impl_copyInts_raw w wl a0 = some o) : impl_copyInts w a0 = some o := ap_close _ _ (impl_copyInts_raw_eq w wl a0) h
noncomputable def spec_l1Has_l0 (D : DFun E) (L : LFun E) (y0 : List Int) (y1 : Int) (y2 : Int) : Option (Bool ⊕ Unit) :=
 bif (decide (y2 < (((List.length y0) : Nat) : Int))) then (bif inb y2 (List.length y0) then
 bif (decide ((rd1 (0 : Int) y0 y2) = y1)) then (some (Sum.inl true))
 else (spec_l1Has_k0 L (y0, y1, (IntKind.wrap .i64 (y2 + 1)))) else none)
 else (some (Sum.inr ()))
theorem spec_l1Has_l0_eq (D : DFun E) (L : LFun E) (y0 : List Int) (y1 : Int) (y2 : Int) : spec_l1Has_k0 (stepL E D L) (y0, y1, y2) = spec_l1Has_l0 D L y0 y1 y2 := by kernel_rfl
theorem spec_l1Has_l0_of (y0 : List Int) (y1 : Int) (y2 : Int) {o : Bool ⊕ Unit} (h : spec_l1Has_l0 w wl y0 y1 y2 = some o) : spec_l1Has_k0 wl (y0, y1, y2) = some o := apL_close _ _ (spec_l1Has_l0_eq w wl y0 y1 y2) h
noncomputable def spec_l1Has_raw (D : DFun E) (L : LFun E) (a0 : List Int) (a1 : Int) : Option (Bool) :=
 Option.bind (spec_l1Has_k0 L (a0, a1, 0)) fun z1 =>
 elimS z1 (fun u2 =>
 some u2)
 (fun z3 =>
 some false)
theorem spec_l1Has_raw_eq (D : DFun E) (L : LFun E) (a0 : List Int) (a1 : Int) : spec_l1Has (stepD E D L) (a0, a1) = spec_l1Has_raw D L a0 a1 := by kernel_rfl
theorem spec_l1Has_of (a0 : List Int) (a1 : Int) {o : Bool} (h : spec_l1Has_raw w wl a0 a1 = some o) : spec_l1Has w (a0, a1) = some o := ap_close _ _ (spec_l1Has_raw_eq w wl a0 a1) h
noncomputable def slices_Containsint_int_raw (D : DFun E) (L : LFun E) (a0 : List Int) (a1 : Int) : Option (Bool) :=
 Option.bind (slices_Indexint_int D (a0, a1)) fun r1 =>
 some (decide (0 ≤ r1))
theorem slices_Containsint_int_raw_eq (D : DFun E) (L : LFun E) (a0 : List Int) (a1 : Int) : slices_Containsint_int (stepD E D L) (a0, a1) = slices_Containsint_int_raw D L a0 a1 := by kernel_rfl
theorem slices_Containsint_int_of (a0 : List Int) (a1 : Int) {o : Bool} (h : slices_Containsint_int_raw w wl a0 a1 = some o) : slices_Containsint_int w (a0, a1) = some o := ap_close _ _ (slices_Containsint_int_raw_eq w wl a0 a1) h
noncomputable def spec_l1New_l0 (D : DFun E) (L : LFun E) (y0 : List Int) (y1 : Int) (y2 : Int) : Option ((((List Int) × Int))) :=
 bif (decide (y2 < (((List.length y0) : Nat) : Int))) then (bif (decide (y2 < 4000)) then (bif inb y2 (List.length y0) then
 spec_l1New_k0 L (y0, (bits .and .i64 (IntKind.wrap .i64 ((IntKind.wrap .i64 ((IntKind.wrap .i64 (y1 * 131)) + (IntKind.wrap .i64 (rd1 (0 : Int) y0 y2)))) + 7)) 1073741823), (IntKind.wrap .i64 (y2 + 1))) else none)
 else (some (y0, y1)))
 else (some (y0, y1))
theorem spec_l1New_l0_eq (D : DFun E) (L : LFun E) (y0 : List Int) (y1 : Int) (y2 : Int) : spec_l1New_k0 (stepL E D L) (y0, y1, y2) = spec_l1New_l0 D L y0 y1 y2 := by kernel_rfl
theorem spec_l1New_l0_of (y0 : List Int) (y1 : Int) (y2 : Int) {o : (((List Int) × Int))} (h : spec_l1New_l0 w wl y0 y1 y2 = some o) : spec_l1New_k0 wl (y0, y1, y2) = some o := apL_close _ _ (spec_l1New_l0_eq w wl y0 y1 y2) h
noncomputable def spec_l1New_raw (D : DFun E) (L : LFun E) (a0 : List Int) : Option (Xl1Cur) :=
 Option.bind (spec_l1New_k0 L (a0, (IntKind.wrap .i64 (26583 + (((List.length a0) : Nat) : Int))), 0)) fun z1 =>
 some (z1.1, 0, z1.2)
theorem spec_l1New_raw_eq (D : DFun E) (L : LFun E) (a0 : List Int) : spec_l1New (stepD E D L) a0 = spec_l1New_raw D L a0 := by kernel_rfl
theorem spec_l1New_of (a0 : List Int) {o : Xl1Cur} (h : spec_l1New_raw w wl a0 = some o) : spec_l1New w a0 = some o := ap_close _ _ (spec_l1New_raw_eq w wl a0) h
noncomputable def spec_l23Order_l0 (D : DFun E) (L : LFun E) (y0 : Int) (y1 : Int) (y2 : List Int) (y3 : Int) (y4 : Int) (y5 : List Int) : Option ((((List Int) × Int × Int × (List Int)))) :=
 bif (decide (y1 < y0)) then (Option.bind (spec_l1Below D (y2, y3, y4, (IntKind.wrap .i64 ((((List.length y5) : Nat) : Int) + 1)))) fun r1 =>
 bif decide ((0 : Int) ≤ 0 ∧ 0 ≤ (r1.1 : Int) ∧ r1.1 ≤ (((List.length y5) : Nat) : Int)) then
 bif fits (List.length ([] : List Int) + List.length (List.take (Int.toNat (r1.1 - 0)) (List.drop (Int.toNat 0) y5))) 8 then
 bif fits (List.length (([] : List Int) ++ List.take (Int.toNat (r1.1 - 0)) (List.drop (Int.toNat 0) y5)) + List.length ([y1] : List Int)) 8 then
 bif decide ((0 : Int) ≤ r1.1 ∧ r1.1 ≤ ((((List.length y5) : Nat) : Int) : Int) ∧ (((List.length y5) : Nat) : Int) ≤ (((List.length y5) : Nat) : Int)) then
 bif fits (List.length ((([] : List Int) ++ List.take (Int.toNat (r1.1 - 0)) (List.drop (Int.toNat 0) y5)) ++ ([y1] : List Int)) + List.length (List.take (Int.toNat ((((List.length y5) : Nat) : Int) - r1.1)) (List.drop (Int.toNat r1.1) y5))) 8 then
 spec_l23Order_k0 L (y0, (IntKind.wrap .i64 (y1 + 1)), y2, r1.2.1, r1.2.2, (((([] : List Int) ++ List.take (Int.toNat (r1.1 - 0)) (List.drop (Int.toNat 0) y5)) ++ ([y1] : List Int)) ++ List.take (Int.toNat ((((List.length y5) : Nat) : Int) - r1.1)) (List.drop (Int.toNat r1.1) y5))) else none else none else none else none else none)
 else (some (y2, y3, y4, y5))
theorem spec_l23Order_l0_eq (D : DFun E) (L : LFun E) (y0 : Int) (y1 : Int) (y2 : List Int) (y3 : Int) (y4 : Int) (y5 : List Int) : spec_l23Order_k0 (stepL E D L) (y0, y1, y2, y3, y4, y5) = spec_l23Order_l0 D L y0 y1 y2 y3 y4 y5 := by kernel_rfl
theorem spec_l23Order_l0_of (y0 : Int) (y1 : Int) (y2 : List Int) (y3 : Int) (y4 : Int) (y5 : List Int) {o : (((List Int) × Int × Int × (List Int)))} (h : spec_l23Order_l0 w wl y0 y1 y2 y3 y4 y5 = some o) : spec_l23Order_k0 wl (y0, y1, y2, y3, y4, y5) = some o := apL_close _ _ (spec_l23Order_l0_eq w wl y0 y1 y2 y3 y4 y5) h
noncomputable def spec_l23Order_raw (D : DFun E) (L : LFun E) (a0 : List Int) (a1 : Int) (a2 : Int) (a3 : Int) : Option (((List Int) × Int × Int)) :=
 Option.bind (spec_l23Order_k0 L (a3, 0, a0, a1, a2, [])) fun z2 =>
 some (z2.2.2.2, z2.2.1, z2.2.2.1)
theorem spec_l23Order_raw_eq (D : DFun E) (L : LFun E) (a0 : List Int) (a1 : Int) (a2 : Int) (a3 : Int) : spec_l23Order (stepD E D L) (a0, a1, a2, a3) = spec_l23Order_raw D L a0 a1 a2 a3 := by kernel_rfl
theorem spec_l23Order_of (a0 : List Int) (a1 : Int) (a2 : Int) (a3 : Int) {o : ((List Int) × Int × Int)} (h : spec_l23Order_raw w wl a0 a1 a2 a3 = some o) : spec_l23Order w (a0, a1, a2, a3) = some o := ap_close _ _ (spec_l23Order_raw_eq w wl a0 a1 a2 a3) h
noncomputable def spec_l1Below_raw (D : DFun E) (L : LFun E) (a0 : List Int) (a1 : Int) (a2 : Int) (a3 : Int) : Option (XRise) :=
 bif (decide (a3 ≤ 0)) then (some (0, a1, a2))
 else (bif (decide (a3 ≤ 256)) then (Option.bind (spec_l1Byte D (a0, a1, a2)) fun r1 =>
 bif decide ((a3 : Int) ≠ 0) then
 some ((Int.tmod r1.1 a3), r1.2.1, r1.2.2) else none)
 else (Option.bind (spec_l1Byte D (a0, a1, a2)) fun r2 =>
 Option.bind (spec_l1Byte D (a0, r2.2.1, r2.2.2)) fun r3 =>
 Option.bind (spec_l1Byte D (a0, r3.2.1, r3.2.2)) fun r4 =>
 Option.bind (spec_l1Byte D (a0, r4.2.1, r4.2.2)) fun r5 =>
 bif decide ((a3 : Int) ≠ 0) then
 some ((Int.tmod (IntKind.wrap .i64 ((IntKind.wrap .i64 ((IntKind.wrap .i64 ((IntKind.wrap .i64 (r2.1 * 16777216)) + (IntKind.wrap .i64 (r3.1 * 65536)))) + (IntKind.wrap .i64 (r4.1 * 256)))) + r5.1)) a3), r5.2.1, r5.2.2) else none))
theorem spec_l1Below_raw_eq (D : DFun E) (L : LFun E) (a0 : List Int) (a1 : Int) (a2 : Int) (a3 : Int) : spec_l1Below (stepD E D L) (a0, a1, a2, a3) = spec_l1Below_raw D L a0 a1 a2 a3 := by kernel_rfl
theorem spec_l1Below_of (a0 : List Int) (a1 : Int) (a2 : Int) (a3 : Int) {o : XRise} (h : spec_l1Below_raw w wl a0 a1 a2 a3 = some o) : spec_l1Below w (a0, a1, a2, a3) = some o := ap_close _ _ (spec_l1Below_raw_eq w wl a0 a1 a2 a3) h
noncomputable def spec_l1PickInt_raw (D : DFun E) (L : LFun E) (a0 : List Int) (a1 : Int) (a2 : Int) (a3 : List Int) : Option (XRise) :=
 Option.bind (spec_l1Below D (a0, a1, a2, (((List.length a3) : Nat) : Int))) fun r1 =>
 bif inb r1.1 (List.length a3) then
 some ((rd1 (0 : Int) a3 r1.1), r1.2.1, r1.2.2) else none
theorem spec_l1PickInt_raw_eq (D : DFun E) (L : LFun E) (a0 : List Int) (a1 : Int) (a2 : Int) (a3 : List Int) : spec_l1PickInt (stepD E D L) (a0, a1, a2, a3) = spec_l1PickInt_raw D L a0 a1 a2 a3 := by kernel_rfl
theorem spec_l1PickInt_of (a0 : List Int) (a1 : Int) (a2 : Int) (a3 : List Int) {o : XRise} (h : spec_l1PickInt_raw w wl a0 a1 a2 a3 = some o) : spec_l1PickInt w (a0, a1, a2, a3) = some o := ap_close _ _ (spec_l1PickInt_raw_eq w wl a0 a1 a2 a3) h
noncomputable def slices_Indexint_int_l0 (D : DFun E) (L : LFun E) (y0 : List Int) (y1 : Int) (y2 : Int) (y3 : Int) : Option (Int ⊕ Unit) :=
 bif (decide (y3 < y2)) then (bif inb y3 (List.length y0) then
 bif (decide (y1 = (rd1 (0 : Int) y0 y3))) then (some (Sum.inl y3))
 else (slices_Indexint_int_k0 L (y0, y1, y2, (IntKind.wrap .i64 (y3 + 1)))) else none)
 else (some (Sum.inr ()))
theorem slices_Indexint_int_l0_eq (D : DFun E) (L : LFun E) (y0 : List Int) (y1 : Int) (y2 : Int) (y3 : Int) : slices_Indexint_int_k0 (stepL E D L) (y0, y1, y2, y3) = slices_Indexint_int_l0 D L y0 y1 y2 y3 := by kernel_rfl
theorem slices_Indexint_int_l0_of (y0 : List Int) (y1 : Int) (y2 : Int) (y3 : Int) {o : Int ⊕ Unit} (h : slices_Indexint_int_l0 w wl y0 y1 y2 y3 = some o) : slices_Indexint_int_k0 wl (y0, y1, y2, y3) = some o := apL_close _ _ (slices_Indexint_int_l0_eq w wl y0 y1 y2 y3) h
noncomputable def slices_Indexint_int_raw (D : DFun E) (L : LFun E) (a0 : List Int) (a1 : Int) : Option (Int) :=
 Option.bind (slices_Indexint_int_k0 L (a0, a1, (((List.length a0) : Nat) : Int), 0)) fun z1 =>
 elimS z1 (fun u2 =>
 some u2)
 (fun z3 =>
 some (-1))
theorem slices_Indexint_int_raw_eq (D : DFun E) (L : LFun E) (a0 : List Int) (a1 : Int) : slices_Indexint_int (stepD E D L) (a0, a1) = slices_Indexint_int_raw D L a0 a1 := by kernel_rfl
theorem slices_Indexint_int_of (a0 : List Int) (a1 : Int) {o : Int} (h : slices_Indexint_int_raw w wl a0 a1 = some o) : slices_Indexint_int w (a0, a1) = some o := ap_close _ _ (slices_Indexint_int_raw_eq w wl a0 a1) h
noncomputable def spec_l1Byte_raw (D : DFun E) (L : LFun E) (a0 : List Int) (a1 : Int) (a2 : Int) : Option (XRise) :=
 bif decide ((0 : Int) ≤ 33) then
 bif decide ((0 : Int) ≤ 45) then
 bif (decide (a1 < (((List.length a0) : Nat) : Int))) then (bif inb a1 (List.length a0) then
 some ((bits .and .i64 (IntKind.wrap .i64 ((bits .and .i64 (bits .xor .i64 (shrI .i64 (IntKind.wrap .i64 ((IntKind.wrap .i64 (a2 * 6364136223846793005)) + 1442695040888963407)) 33) (shrI .i64 (IntKind.wrap .i64 ((IntKind.wrap .i64 (a2 * 6364136223846793005)) + 1442695040888963407)) 45)) 255) + (IntKind.wrap .i64 (rd1 (0 : Int) a0 a1)))) 255), (IntKind.wrap .i64 (a1 + 1)), (IntKind.wrap .i64 ((IntKind.wrap .i64 (a2 * 6364136223846793005)) + 1442695040888963407))) else none)
 else (some ((bits .and .i64 (bits .xor .i64 (shrI .i64 (IntKind.wrap .i64 ((IntKind.wrap .i64 (a2 * 6364136223846793005)) + 1442695040888963407)) 33) (shrI .i64 (IntKind.wrap .i64 ((IntKind.wrap .i64 (a2 * 6364136223846793005)) + 1442695040888963407)) 45)) 255), a1, (IntKind.wrap .i64 ((IntKind.wrap .i64 (a2 * 6364136223846793005)) + 1442695040888963407)))) else none else none
theorem spec_l1Byte_raw_eq (D : DFun E) (L : LFun E) (a0 : List Int) (a1 : Int) (a2 : Int) : spec_l1Byte (stepD E D L) (a0, a1, a2) = spec_l1Byte_raw D L a0 a1 a2 := by kernel_rfl
theorem spec_l1Byte_of (a0 : List Int) (a1 : Int) (a2 : Int) {o : XRise} (h : spec_l1Byte_raw w wl a0 a1 a2 = some o) : spec_l1Byte w (a0, a1, a2) = some o := ap_close _ _ (spec_l1Byte_raw_eq w wl a0 a1 a2) h
end Go.Proofs.Ytgkobeililjgbaa.M
