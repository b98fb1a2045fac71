/- Plain forms of the functions that FnExactTurned reaches, part 0. No conditions. -/
import Derived.Test.YtgkobeililjgbaaFnExactTurnedTab
namespace Go.Proofs.Ytgkobeililjgbaa.M
open Go Go.Eng Go.Proofs
set_option linter.unusedVariables false
noncomputable def laws_FnExactTurned_raw (D : DFun E) (L : LFun E) (a0 : List Int) (a1 : Int) : Option (Bool) :=
 bif (decide (1048576 < (((List.length a0) : Nat) : Int))) then (some true)
 else (Option.bind (laws_toIntS D a0) fun r1 =>
 Option.bind (spec_Turned D (r1, a1)) fun r2 =>
 Option.bind (laws_toIntS D a0) fun r3 =>
 Option.bind (impl_Turned D (r3, a1)) fun r4 =>
 Option.bind (laws_eqIntS D (r4, r2)) fun r5 =>
 bif (!r5) then (some false)
 else (Option.bind (laws_toIntS D a0) fun r6 =>
 Option.bind (laws_eqIntS D (r3, r6)) fun r7 =>
 bif (!r7) then (some false)
 else (Option.bind (laws_markIntS D (r3, 1)) fun r8 =>
 bif (decide (r8.1 < 0)) then (some false)
 else (Option.bind (laws_eqIntS D (r4, r2)) fun r9 =>
 bif (!r9) then (some false)
 else (Option.bind (laws_markIntS D (r4, 1)) fun r10 =>
 Option.bind (laws_heldIntS D (r10.2, 1)) fun r11 =>
 bif (decide (r11 < 0)) then (some false)
 else (bif (!decide (r11 = r10.1)) then (some false)
 else (Option.bind (laws_toIntS D a0) fun r12 =>
 Option.bind (impl_Turned D (r12, a1)) fun r13 =>
 Option.bind (laws_eqIntS D (r13, r2)) fun r14 =>
 bif (!r14) then (some false)
 else (Option.bind (laws_heldIntS D (r10.2, 1)) fun r15 =>
 bif (decide (r15 < 0)) then (some false)
 else (bif (!decide (r15 = r10.1)) then (some false)
 else (some true))))))))))
theorem laws_FnExactTurned_raw_eq (D : DFun E) (L : LFun E) (a0 : List Int) (a1 : Int) : laws_FnExactTurned (stepD E D L) (a0, a1) = laws_FnExactTurned_raw D L a0 a1 := by kernel_rfl
theorem laws_FnExactTurned_of (a0 : List Int) (a1 : Int) {o : Bool} (h : laws_FnExactTurned_raw w wl a0 a1 = some o) : laws_FnExactTurned w (a0, a1) = some o := ap_close _ _ (laws_FnExactTurned_raw_eq w wl a0 a1) h
noncomputable def spec_Turned_raw (D : DFun E) (L : LFun E) (a0 : List Int) (a1 : Int) : Option (List Int) :=
 bif (decide ((((List.length a0) : Nat) : Int) = 0)) then (some [])
 else (bif decide (((((List.length a0) : Nat) : Int) : Int) ≠ 0) then
 bif (decide ((Int.tmod a1 (((List.length a0) : Nat) : Int)) < 0)) then (bif decide ((0 : Int) ≤ (IntKind.wrap .i64 ((Int.tmod a1 (((List.length a0) : Nat) : Int)) + (((List.length a0) : Nat) : Int))) ∧ (IntKind.wrap .i64 ((Int.tmod a1 (((List.length a0) : Nat) : Int)) + (((List.length a0) : Nat) : Int))) ≤ ((((List.length a0) : Nat) : Int) : Int) ∧ (((List.length a0) : Nat) : Int) ≤ (((List.length a0) : Nat) : Int)) then
 bif fits (List.length ([] : List Int) + List.length (List.take (Int.toNat ((((List.length a0) : Nat) : Int) - (IntKind.wrap .i64 ((Int.tmod a1 (((List.length a0) : Nat) : Int)) + (((List.length a0) : Nat) : Int))))) (List.drop (Int.toNat (IntKind.wrap .i64 ((Int.tmod a1 (((List.length a0) : Nat) : Int)) + (((List.length a0) : Nat) : Int)))) a0))) 8 then
 bif decide ((0 : Int) ≤ 0 ∧ 0 ≤ ((IntKind.wrap .i64 ((Int.tmod a1 (((List.length a0) : Nat) : Int)) + (((List.length a0) : Nat) : Int))) : Int) ∧ (IntKind.wrap .i64 ((Int.tmod a1 (((List.length a0) : Nat) : Int)) + (((List.length a0) : Nat) : Int))) ≤ (((List.length a0) : Nat) : Int)) then
 bif fits (List.length (([] : List Int) ++ List.take (Int.toNat ((((List.length a0) : Nat) : Int) - (IntKind.wrap .i64 ((Int.tmod a1 (((List.length a0) : Nat) : Int)) + (((List.length a0) : Nat) : Int))))) (List.drop (Int.toNat (IntKind.wrap .i64 ((Int.tmod a1 (((List.length a0) : Nat) : Int)) + (((List.length a0) : Nat) : Int)))) a0)) + List.length (List.take (Int.toNat ((IntKind.wrap .i64 ((Int.tmod a1 (((List.length a0) : Nat) : Int)) + (((List.length a0) : Nat) : Int))) - 0)) (List.drop (Int.toNat 0) a0))) 8 then
 some ((([] : List Int) ++ List.take (Int.toNat ((((List.length a0) : Nat) : Int) - (IntKind.wrap .i64 ((Int.tmod a1 (((List.length a0) : Nat) : Int)) + (((List.length a0) : Nat) : Int))))) (List.drop (Int.toNat (IntKind.wrap .i64 ((Int.tmod a1 (((List.length a0) : Nat) : Int)) + (((List.length a0) : Nat) : Int)))) a0)) ++ List.take (Int.toNat ((IntKind.wrap .i64 ((Int.tmod a1 (((List.length a0) : Nat) : Int)) + (((List.length a0) : Nat) : Int))) - 0)) (List.drop (Int.toNat 0) a0)) else none else none else none else none)
 else (bif decide ((0 : Int) ≤ (Int.tmod a1 (((List.length a0) : Nat) : Int)) ∧ (Int.tmod a1 (((List.length a0) : Nat) : Int)) ≤ ((((List.length a0) : Nat) : Int) : Int) ∧ (((List.length a0) : Nat) : Int) ≤ (((List.length a0) : Nat) : Int)) then
 bif fits (List.length ([] : List Int) + List.length (List.take (Int.toNat ((((List.length a0) : Nat) : Int) - (Int.tmod a1 (((List.length a0) : Nat) : Int)))) (List.drop (Int.toNat (Int.tmod a1 (((List.length a0) : Nat) : Int))) a0))) 8 then
 bif decide ((0 : Int) ≤ 0 ∧ 0 ≤ ((Int.tmod a1 (((List.length a0) : Nat) : Int)) : Int) ∧ (Int.tmod a1 (((List.length a0) : Nat) : Int)) ≤ (((List.length a0) : Nat) : Int)) then
 bif fits (List.length (([] : List Int) ++ List.take (Int.toNat ((((List.length a0) : Nat) : Int) - (Int.tmod a1 (((List.length a0) : Nat) : Int)))) (List.drop (Int.toNat (Int.tmod a1 (((List.length a0) : Nat) : Int))) a0)) + List.length (List.take (Int.toNat ((Int.tmod a1 (((List.length a0) : Nat) : Int)) - 0)) (List.drop (Int.toNat 0) a0))) 8 then
 some ((([] : List Int) ++ List.take (Int.toNat ((((List.length a0) : Nat) : Int) - (Int.tmod a1 (((List.length a0) : Nat) : Int)))) (List.drop (Int.toNat (Int.tmod a1 (((List.length a0) : Nat) : Int))) a0)) ++ List.take (Int.toNat ((Int.tmod a1 (((List.length a0) : Nat) : Int)) - 0)) (List.drop (Int.toNat 0) a0)) else none else none else none else none) else none)
theorem spec_Turned_raw_eq (D : DFun E) (L : LFun E) (a0 : List Int) (a1 : Int) : spec_Turned (stepD E D L) (a0, a1) = spec_Turned_raw D L a0 a1 := by kernel_rfl
theorem spec_Turned_of (a0 : List Int) (a1 : Int) {o : List Int} (h : spec_Turned_raw w wl a0 a1 = some o) : spec_Turned w (a0, a1) = some o := ap_close _ _ (spec_Turned_raw_eq w wl a0 a1) h
noncomputable def laws_toIntS_l0 (D : DFun E) (L : LFun E) (y0 : List Int) (y1 : Int) (y2 : List Int) : Option ((List Int)) :=
 bif (decide (y1 < (((List.length y0) : Nat) : Int))) then (bif inb y1 (List.length y0) then
 bif inb y1 (List.length y2) then
 let l1 := List.set y2 (Int.toNat y1) (rd1 (0 : Int) y0 y1)
 laws_toIntS_k0 L (y0, (IntKind.wrap .i64 (y1 + 1)), l1) else none else none)
 else (some y2)
theorem laws_toIntS_l0_eq (D : DFun E) (L : LFun E) (y0 : List Int) (y1 : Int) (y2 : List Int) : laws_toIntS_k0 (stepL E D L) (y0, y1, y2) = laws_toIntS_l0 D L y0 y1 y2 := by kernel_rfl
theorem laws_toIntS_l0_of (y0 : List Int) (y1 : Int) (y2 : List Int) {o : (List Int)} (h : laws_toIntS_l0 w wl y0 y1 y2 = some o) : laws_toIntS_k0 wl (y0, y1, y2) = some o := apL_close _ _ (laws_toIntS_l0_eq w wl y0 y1 y2) h
noncomputable def laws_toIntS_raw (D : DFun E) (L : LFun E) (a0 : List Int) : Option (List Int) :=
 bif (decide ((0 : Int) ≤ (((List.length a0) : Nat) : Int) ∧ ((((List.length a0) : Nat) : Int) : Int) = (((List.length a0) : Nat) : Int)) && fits (Int.toNat (((List.length a0) : Nat) : Int)) 8) then
 Option.bind (laws_toIntS_k0 L (a0, 0, (List.replicate (Int.toNat (((List.length a0) : Nat) : Int)) 0))) fun z2 =>
 some z2 else none
theorem laws_toIntS_raw_eq (D : DFun E) (L : LFun E) (a0 : List Int) : laws_toIntS (stepD E D L) a0 = laws_toIntS_raw D L a0 := by kernel_rfl
theorem laws_toIntS_of (a0 : List Int) {o : List Int} (h : laws_toIntS_raw w wl a0 = some o) : laws_toIntS w a0 = some o := ap_close _ _ (laws_toIntS_raw_eq w wl a0) h
noncomputable def impl_Turned_raw (D : DFun E) (L : LFun E) (a0 : List Int) (a1 : Int) : Option (List Int) :=
 bif (decide ((((List.length a0) : Nat) : Int) = 0)) then (some [])
 else (bif decide (((((List.length a0) : Nat) : Int) : Int) ≠ 0) then
 bif decide (((((List.length a0) : Nat) : Int) : Int) ≠ 0) then
 bif decide ((0 : Int) ≤ (Int.tmod (IntKind.wrap .i64 ((Int.tmod a1 (((List.length a0) : Nat) : Int)) + (((List.length a0) : Nat) : Int))) (((List.length a0) : Nat) : Int)) ∧ (Int.tmod (IntKind.wrap .i64 ((Int.tmod a1 (((List.length a0) : Nat) : Int)) + (((List.length a0) : Nat) : Int))) (((List.length a0) : Nat) : Int)) ≤ ((((List.length a0) : Nat) : Int) : Int) ∧ (((List.length a0) : Nat) : Int) ≤ (((List.length a0) : Nat) : Int)) then
 Option.bind (impl_copyInts D (List.take (Int.toNat ((((List.length a0) : Nat) : Int) - (Int.tmod (IntKind.wrap .i64 ((Int.tmod a1 (((List.length a0) : Nat) : Int)) + (((List.length a0) : Nat) : Int))) (((List.length a0) : Nat) : Int)))) (List.drop (Int.toNat (Int.tmod (IntKind.wrap .i64 ((Int.tmod a1 (((List.length a0) : Nat) : Int)) + (((List.length a0) : Nat) : Int))) (((List.length a0) : Nat) : Int))) a0))) fun r1 =>
 bif decide ((0 : Int) ≤ 0 ∧ 0 ≤ ((Int.tmod (IntKind.wrap .i64 ((Int.tmod a1 (((List.length a0) : Nat) : Int)) + (((List.length a0) : Nat) : Int))) (((List.length a0) : Nat) : Int)) : Int) ∧ (Int.tmod (IntKind.wrap .i64 ((Int.tmod a1 (((List.length a0) : Nat) : Int)) + (((List.length a0) : Nat) : Int))) (((List.length a0) : Nat) : Int)) ≤ (((List.length a0) : Nat) : Int)) then
 bif fits (List.length r1 + List.length (List.take (Int.toNat ((Int.tmod (IntKind.wrap .i64 ((Int.tmod a1 (((List.length a0) : Nat) : Int)) + (((List.length a0) : Nat) : Int))) (((List.length a0) : Nat) : Int)) - 0)) (List.drop (Int.toNat 0) a0))) 8 then
 some (r1 ++ List.take (Int.toNat ((Int.tmod (IntKind.wrap .i64 ((Int.tmod a1 (((List.length a0) : Nat) : Int)) + (((List.length a0) : Nat) : Int))) (((List.length a0) : Nat) : Int)) - 0)) (List.drop (Int.toNat 0) a0)) else none else none else none else none else none)
theorem impl_Turned_raw_eq (D : DFun E) (L : LFun E) (a0 : List Int) (a1 : Int) : impl_Turned (stepD E D L) (a0, a1) = impl_Turned_raw D L a0 a1 := by kernel_rfl
theorem impl_Turned_of (a0 : List Int) (a1 : Int) {o : List Int} (h : impl_Turned_raw w wl a0 a1 = some o) : impl_Turned w (a0, a1) = some o := ap_close _ _ (impl_Turned_raw_eq w wl a0 a1) h
noncomputable def laws_eqIntS_l0 (D : DFun E) (L : LFun E) (y0 : List Int) (y1 : List Int) (y2 : Int) : Option (Bool ⊕ Unit) :=
 bif (decide (y2 < (((List.length y0) : Nat) : Int))) then (bif inb y2 (List.length y0) then
 bif inb y2 (List.length y1) then
 bif (!decide ((rd1 (0 : Int) y0 y2) = (rd1 (0 : Int) y1 y2))) then (some (Sum.inl false))
 else (laws_eqIntS_k0 L (y0, y1, (IntKind.wrap .i64 (y2 + 1)))) else none else none)
 else (some (Sum.inr ()))
theorem laws_eqIntS_l0_eq (D : DFun E) (L : LFun E) (y0 : List Int) (y1 : List Int) (y2 : Int) : laws_eqIntS_k0 (stepL E D L) (y0, y1, y2) = laws_eqIntS_l0 D L y0 y1 y2 := by kernel_rfl
theorem laws_eqIntS_l0_of (y0 : List Int) (y1 : List Int) (y2 : Int) {o : Bool ⊕ Unit} (h : laws_eqIntS_l0 w wl y0 y1 y2 = some o) : laws_eqIntS_k0 wl (y0, y1, y2) = some o := apL_close _ _ (laws_eqIntS_l0_eq w wl y0 y1 y2) h
noncomputable def laws_eqIntS_raw (D : DFun E) (L : LFun E) (a0 : List Int) (a1 : List Int) : Option (Bool) :=
 bif (!decide ((((List.length a0) : Nat) : Int) = (((List.length a1) : Nat) : Int))) then (some false)
 else (Option.bind (laws_eqIntS_k0 L (a0, a1, 0)) fun z1 =>
 elimS z1 (fun u2 =>
 some u2)
 (fun z3 =>
 some true))
theorem laws_eqIntS_raw_eq (D : DFun E) (L : LFun E) (a0 : List Int) (a1 : List Int) : laws_eqIntS (stepD E D L) (a0, a1) = laws_eqIntS_raw D L a0 a1 := by kernel_rfl
theorem laws_eqIntS_of (a0 : List Int) (a1 : List Int) {o : Bool} (h : laws_eqIntS_raw w wl a0 a1 = some o) : laws_eqIntS w (a0, a1) = some o := ap_close _ _ (laws_eqIntS_raw_eq w wl a0 a1) h
noncomputable def laws_markIntS_l0 (D : DFun E) (L : LFun E) (y0 : Int) (y1 : Int) (y2 : List Int) : Option (((Int × (List Int)))) :=
 bif (decide (y1 < (((List.length y2) : Nat) : Int))) then (bif inb y1 (List.length y2) then
 let l1 := List.set y2 (Int.toNat y1) y0
 laws_markIntS_k0 L ((IntKind.wrap .i64 (y0 + 1)), (IntKind.wrap .i64 (y1 + 1)), l1) else none)
 else (some (y0, y2))
theorem laws_markIntS_l0_eq (D : DFun E) (L : LFun E) (y0 : Int) (y1 : Int) (y2 : List Int) : laws_markIntS_k0 (stepL E D L) (y0, y1, y2) = laws_markIntS_l0 D L y0 y1 y2 := by kernel_rfl
theorem laws_markIntS_l0_of (y0 : Int) (y1 : Int) (y2 : List Int) {o : ((Int × (List Int)))} (h : laws_markIntS_l0 w wl y0 y1 y2 = some o) : laws_markIntS_k0 wl (y0, y1, y2) = some o := apL_close _ _ (laws_markIntS_l0_eq w wl y0 y1 y2) h
noncomputable def laws_markIntS_raw (D : DFun E) (L : LFun E) (a0 : List Int) (a1 : Int) : Option ((Int × (List Int))) :=
 Option.bind (laws_markIntS_k0 L (a1, 0, a0)) fun z2 =>
 some (z2.1, z2.2)
theorem laws_markIntS_raw_eq (D : DFun E) (L : LFun E) (a0 : List Int) (a1 : Int) : laws_markIntS (stepD E D L) (a0, a1) = laws_markIntS_raw D L a0 a1 := by kernel_rfl
theorem laws_markIntS_of (a0 : List Int) (a1 : Int) {o : (Int × (List Int))} (h : laws_markIntS_raw w wl a0 a1 = some o) : laws_markIntS w (a0, a1) = some o := ap_close _ _ (laws_markIntS_raw_eq w wl a0 a1) h
noncomputable def laws_heldIntS_l0 (D : DFun E) (L : LFun E) (y0 : List Int) (y1 : Int) (y2 : Int) : Option (Int ⊕ Int) :=
 bif (decide (y2 < (((List.length y0) : Nat) : Int))) then (bif inb y2 (List.length y0) then
 bif (!decide ((rd1 (0 : Int) y0 y2) = y1)) then (some (Sum.inl (-1)))
 else (laws_heldIntS_k0 L (y0, (IntKind.wrap .i64 (y1 + 1)), (IntKind.wrap .i64 (y2 + 1)))) else none)
 else (some (Sum.inr y1))
theorem laws_heldIntS_l0_eq (D : DFun E) (L : LFun E) (y0 : List Int) (y1 : Int) (y2 : Int) : laws_heldIntS_k0 (stepL E D L) (y0, y1, y2) = laws_heldIntS_l0 D L y0 y1 y2 := by kernel_rfl
theorem laws_heldIntS_l0_of (y0 : List Int) (y1 : Int) (y2 : Int) {o : Int ⊕ Int} (h : laws_heldIntS_l0 w wl y0 y1 y2 = some o) : laws_heldIntS_k0 wl (y0, y1, y2) = some o := apL_close _ _ (laws_heldIntS_l0_eq w wl y0 y1 y2) h
noncomputable def laws_heldIntS_raw (D : DFun E) (L : LFun E) (a0 : List Int) (a1 : Int) : Option (Int) :=
 Option.bind (laws_heldIntS_k0 L (a0, a1, 0)) fun z1 =>
 elimS z1 (fun u2 =>
 some u2)
 (fun z3 =>
 some z3)
theorem laws_heldIntS_raw_eq (D : DFun E) (L : LFun E) (a0 : List Int) (a1 : Int) : laws_heldIntS (stepD E D L) (a0, a1) = laws_heldIntS_raw D L a0 a1 := by kernel_rfl
theorem laws_heldIntS_of (a0 : List Int) (a1 : Int) {o : Int} (h : laws_heldIntS_raw w wl a0 a1 = some o) : laws_heldIntS w (a0, a1) = some o := ap_close _ _ (laws_heldIntS_raw_eq w wl a0 a1) h
noncomputable def impl_copyInts_raw (D : DFun E) (L : LFun E) (a0 : List Int) : Option (List Int) :=
 bif fits (List.length ([] : List Int) + List.length a0) 8 then
 some (([] : List Int) ++ a0) else none
theorem impl_copyInts_raw_eq (D : DFun E) (L : LFun E) (a0 : List Int) : impl_copyInts (stepD E D L) a0 = impl_copyInts_raw D L a0 := by kernel_rfl
theorem impl_copyInts_of (a0 : List Int) {o : List Int} (h : impl_copyInts_raw w wl a0 = some o) : impl_copyInts w a0 = some o := ap_close _ _ (impl_copyInts_raw_eq w wl a0) h
end Go.Proofs.Ytgkobeililjgbaa.M
