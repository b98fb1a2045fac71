/- Plain forms of the functions that FnExactSafe reaches, part 0. No conditions. -/
import Derived.Test.YtgkobeililjgbaaFnExactSafeTab
namespace Go.Proofs.Ytgkobeililjgbaa.M
open Go Go.Eng Go.Proofs
set_option linter.unusedVariables false
noncomputable def laws_FnExactSafe_raw (D : DFun E) (L : LFun E) (a0 : Int) (a1 : Int) (a2 : List XItem) (a3 : List XFloor) (a4 : List Int) (a5 : Int) (a6 : Int) (a7 : Int) (a8 : List XState) (a9 : List Int) (a10 : List Int) (a11 : List (List Int)) (a12 : Int) (a13 : Int) (a14 : List XSess) (a15 : Int) (a16 : Int) (a17 : Int) (a18 : List XRise) : Option (Bool) :=
 Option.bind (laws_szNode D (a0, a1, a2, a3, a4, a5, a6, a7, a8, a9, a10, a11, a12, a13, a14, a15, a16, a17, a18, 1048576)) fun r1 =>
 bif (decide (r1 < 0)) then (some true)
 else (Option.bind (laws_toNode D (a0, a1, a2, a3, a4, a5, a6, a7, a8, a9, a10, a11, a12, a13, a14, a15, a16, a17, a18)) fun r2 =>
 Option.bind (spec_Safe D (r2.1, r2.2.1, r2.2.2.1, r2.2.2.2.1, r2.2.2.2.2.1, r2.2.2.2.2.2.1, r2.2.2.2.2.2.2.1, r2.2.2.2.2.2.2.2.1, r2.2.2.2.2.2.2.2.2.1, r2.2.2.2.2.2.2.2.2.2.1, r2.2.2.2.2.2.2.2.2.2.2.1, r2.2.2.2.2.2.2.2.2.2.2.2.1, r2.2.2.2.2.2.2.2.2.2.2.2.2.1, r2.2.2.2.2.2.2.2.2.2.2.2.2.2.1, r2.2.2.2.2.2.2.2.2.2.2.2.2.2.2.1, r2.2.2.2.2.2.2.2.2.2.2.2.2.2.2.2.1, r2.2.2.2.2.2.2.2.2.2.2.2.2.2.2.2.2.1, r2.2.2.2.2.2.2.2.2.2.2.2.2.2.2.2.2.2.1, r2.2.2.2.2.2.2.2.2.2.2.2.2.2.2.2.2.2.2)) fun r3 =>
 Option.bind (laws_toNode D (a0, a1, a2, a3, a4, a5, a6, a7, a8, a9, a10, a11, a12, a13, a14, a15, a16, a17, a18)) fun r4 =>
 Option.bind (impl_Safe D (r4.1, r4.2.1, r4.2.2.1, r4.2.2.2.1, r4.2.2.2.2.1, r4.2.2.2.2.2.1, r4.2.2.2.2.2.2.1, r4.2.2.2.2.2.2.2.1, r4.2.2.2.2.2.2.2.2.1, r4.2.2.2.2.2.2.2.2.2.1, r4.2.2.2.2.2.2.2.2.2.2.1, r4.2.2.2.2.2.2.2.2.2.2.2.1, r4.2.2.2.2.2.2.2.2.2.2.2.2.1, r4.2.2.2.2.2.2.2.2.2.2.2.2.2.1, r4.2.2.2.2.2.2.2.2.2.2.2.2.2.2.1, r4.2.2.2.2.2.2.2.2.2.2.2.2.2.2.2.1, r4.2.2.2.2.2.2.2.2.2.2.2.2.2.2.2.2.1, r4.2.2.2.2.2.2.2.2.2.2.2.2.2.2.2.2.2.1, r4.2.2.2.2.2.2.2.2.2.2.2.2.2.2.2.2.2.2)) fun r5 =>
 bif (!decide (r5 = r3)) then (some false)
 else (Option.bind (laws_toNode D (a0, a1, a2, a3, a4, a5, a6, a7, a8, a9, a10, a11, a12, a13, a14, a15, a16, a17, a18)) fun r6 =>
 Option.bind (laws_eqNode D (r4.1, r4.2.1, r4.2.2.1, r4.2.2.2.1, r4.2.2.2.2.1, r4.2.2.2.2.2.1, r4.2.2.2.2.2.2.1, r4.2.2.2.2.2.2.2.1, r4.2.2.2.2.2.2.2.2.1, r4.2.2.2.2.2.2.2.2.2.1, r4.2.2.2.2.2.2.2.2.2.2.1, r4.2.2.2.2.2.2.2.2.2.2.2.1, r4.2.2.2.2.2.2.2.2.2.2.2.2.1, r4.2.2.2.2.2.2.2.2.2.2.2.2.2.1, r4.2.2.2.2.2.2.2.2.2.2.2.2.2.2.1, r4.2.2.2.2.2.2.2.2.2.2.2.2.2.2.2.1, r4.2.2.2.2.2.2.2.2.2.2.2.2.2.2.2.2.1, r4.2.2.2.2.2.2.2.2.2.2.2.2.2.2.2.2.2.1, r4.2.2.2.2.2.2.2.2.2.2.2.2.2.2.2.2.2.2, r6.1, r6.2.1, r6.2.2.1, r6.2.2.2.1, r6.2.2.2.2.1, r6.2.2.2.2.2.1, r6.2.2.2.2.2.2.1, r6.2.2.2.2.2.2.2.1, r6.2.2.2.2.2.2.2.2.1, r6.2.2.2.2.2.2.2.2.2.1, r6.2.2.2.2.2.2.2.2.2.2.1, r6.2.2.2.2.2.2.2.2.2.2.2.1, r6.2.2.2.2.2.2.2.2.2.2.2.2.1, r6.2.2.2.2.2.2.2.2.2.2.2.2.2.1, r6.2.2.2.2.2.2.2.2.2.2.2.2.2.2.1, r6.2.2.2.2.2.2.2.2.2.2.2.2.2.2.2.1, r6.2.2.2.2.2.2.2.2.2.2.2.2.2.2.2.2.1, r6.2.2.2.2.2.2.2.2.2.2.2.2.2.2.2.2.2.1, r6.2.2.2.2.2.2.2.2.2.2.2.2.2.2.2.2.2.2)) fun r7 =>
 bif (!r7) then (some false)
 else (some true)))
theorem laws_FnExactSafe_raw_eq (D : DFun E) (L : LFun E) (a0 : Int) (a1 : Int) (a2 : List XItem) (a3 : List XFloor) (a4 : List Int) (a5 : Int) (a6 : Int) (a7 : Int) (a8 : List XState) (a9 : List Int) (a10 : List Int) (a11 : List (List Int)) (a12 : Int) (a13 : Int) (a14 : List XSess) (a15 : Int) (a16 : Int) (a17 : Int) (a18 : List XRise) : laws_FnExactSafe (stepD E D L) (a0, a1, a2, a3, a4, a5, a6, a7, a8, a9, a10, a11, a12, a13, a14, a15, a16, a17, a18) = laws_FnExactSafe_raw D L a0 a1 a2 a3 a4 a5 a6 a7 a8 a9 a10 a11 a12 a13 a14 a15 a16 a17 a18 := by kernel_rfl
theorem laws_FnExactSafe_of (a0 : Int) (a1 : Int) (a2 : List XItem) (a3 : List XFloor) (a4 : List Int) (a5 : Int) (a6 : Int) (a7 : Int) (a8 : List XState) (a9 : List Int) (a10 : List Int) (a11 : List (List Int)) (a12 : Int) (a13 : Int) (a14 : List XSess) (a15 : Int) (a16 : Int) (a17 : Int) (a18 : List XRise) {o : Bool} (h : laws_FnExactSafe_raw w wl a0 a1 a2 a3 a4 a5 a6 a7 a8 a9 a10 a11 a12 a13 a14 a15 a16 a17 a18 = some o) : laws_FnExactSafe w (a0, a1, a2, a3, a4, a5, a6, a7, a8, a9, a10, a11, a12, a13, a14, a15, a16, a17, a18) = some o := ap_close _ _ (laws_FnExactSafe_raw_eq w wl a0 a1 a2 a3 a4 a5 a6 a7 a8 a9 a10 a11 a12 a13 a14 a15 a16 a17 a18) h
noncomputable def laws_toIntS_l0 (D : DFun E) (L : LFun E) (y0 : List Int) (y1 : Int) (y2 : List Int) : Option ((List Int)) :=
 bif (decide (y1 < (((List.length y0) : Nat) : Int))) then (bif inb y1 (List.length y0) then
 bif inb y1 (List.length y2) then
 let l1 := List.set y2 (Int.toNat y1) (rd1 (0 : Int) y0 y1)
 laws_toIntS_k0 L (y0, (IntKind.wrap .i64 (y1 + 1)), l1) else none else none)
 else (some y2)
theorem laws_toIntS_l0_eq (D : DFun E) (L : LFun E) (y0 : List Int) (y1 : Int) (y2 : List Int) : laws_toIntS_k0 (stepL E D L) (y0, y1, y2) = laws_toIntS_l0 D L y0 y1 y2 := by kernel_rfl
theorem laws_toIntS_l0_of (y0 : List Int) (y1 : Int) (y2 : List Int) {o : (List Int)} (h : laws_toIntS_l0 w wl y0 y1 y2 = some o) : laws_toIntS_k0 wl (y0, y1, y2) = some o := apL_close _ _ (laws_toIntS_l0_eq w wl y0 y1 y2) h
noncomputable def laws_toIntS_raw (D : DFun E) (L : LFun E) (a0 : List Int) : Option (List Int) :=
 bif (decide ((0 : Int) ≤ (((List.length a0) : Nat) : Int) ∧ ((((List.length a0) : Nat) : Int) : Int) = (((List.length a0) : Nat) : Int)) && fits (Int.toNat (((List.length a0) : Nat) : Int)) 8) then
 Option.bind (laws_toIntS_k0 L (a0, 0, (List.replicate (Int.toNat (((List.length a0) : Nat) : Int)) 0))) fun z2 =>
 some z2 else none
theorem laws_toIntS_raw_eq (D : DFun E) (L : LFun E) (a0 : List Int) : laws_toIntS (stepD E D L) a0 = laws_toIntS_raw D L a0 := by kernel_rfl
theorem laws_toIntS_of (a0 : List Int) {o : List Int} (h : laws_toIntS_raw w wl a0 = some o) : laws_toIntS w a0 = some o := ap_close _ _ (laws_toIntS_raw_eq w wl a0) h
noncomputable def laws_eqIntS_l0 (D : DFun E) (L : LFun E) (y0 : List Int) (y1 : List Int) (y2 : Int) : Option (Bool ⊕ Unit) :=
 bif (decide (y2 < (((List.length y0) : Nat) : Int))) then (bif inb y2 (List.length y0) then
 bif inb y2 (List.length y1) then
 bif (!decide ((rd1 (0 : Int) y0 y2) = (rd1 (0 : Int) y1 y2))) then (some (Sum.inl false))
 else (laws_eqIntS_k0 L (y0, y1, (IntKind.wrap .i64 (y2 + 1)))) else none else none)
 else (some (Sum.inr ()))
theorem laws_eqIntS_l0_eq (D : DFun E) (L : LFun E) (y0 : List Int) (y1 : List Int) (y2 : Int) : laws_eqIntS_k0 (stepL E D L) (y0, y1, y2) = laws_eqIntS_l0 D L y0 y1 y2 := by kernel_rfl
theorem laws_eqIntS_l0_of (y0 : List Int) (y1 : List Int) (y2 : Int) {o : Bool ⊕ Unit} (h : laws_eqIntS_l0 w wl y0 y1 y2 = some o) : laws_eqIntS_k0 wl (y0, y1, y2) = some o := apL_close _ _ (laws_eqIntS_l0_eq w wl y0 y1 y2) h
noncomputable def laws_eqIntS_raw (D : DFun E) (L : LFun E) (a0 : List Int) (a1 : List Int) : Option (Bool) :=
 bif (!decide ((((List.length a0) : Nat) : Int) = (((List.length a1) : Nat) : Int))) then (some false)
 else (Option.bind (laws_eqIntS_k0 L (a0, a1, 0)) fun z1 =>
 elimS z1 (fun u2 =>
 some u2)
 (fun z3 =>
 some true))
theorem laws_eqIntS_raw_eq (D : DFun E) (L : LFun E) (a0 : List Int) (a1 : List Int) : laws_eqIntS (stepD E D L) (a0, a1) = laws_eqIntS_raw D L a0 a1 := by kernel_rfl
theorem laws_eqIntS_of (a0 : List Int) (a1 : List Int) {o : Bool} (h : laws_eqIntS_raw w wl a0 a1 = some o) : laws_eqIntS w (a0, a1) = some o := ap_close _ _ (laws_eqIntS_raw_eq w wl a0 a1) h
noncomputable def laws_szStateS_l0 (D : DFun E) (L : LFun E) (y0 : List XState) (y1 : Int) (y2 : Int) : Option (Int ⊕ Int) :=
 bif (decide (y2 < (((List.length y0) : Nat) : Int))) then (bif inb y2 (List.length y0) then
 let e1 := (rd1 zState y0 y2)
 Option.bind (laws_szState D (e1.1, e1.2, y1)) fun r2 =>
 bif (decide (r2 < 0)) then (some (Sum.inl (-1)))
 else (laws_szStateS_k0 L (y0, r2, (IntKind.wrap .i64 (y2 + 1)))) else none)
 else (some (Sum.inr y1))
theorem laws_szStateS_l0_eq (D : DFun E) (L : LFun E) (y0 : List XState) (y1 : Int) (y2 : Int) : laws_szStateS_k0 (stepL E D L) (y0, y1, y2) = laws_szStateS_l0 D L y0 y1 y2 := by kernel_rfl
theorem laws_szStateS_l0_of (y0 : List XState) (y1 : Int) (y2 : Int) {o : Int ⊕ Int} (h : laws_szStateS_l0 w wl y0 y1 y2 = some o) : laws_szStateS_k0 wl (y0, y1, y2) = some o := apL_close _ _ (laws_szStateS_l0_eq w wl y0 y1 y2) h
noncomputable def laws_szStateS_raw (D : DFun E) (L : LFun E) (a0 : List XState) (a1 : Int) : Option (Int) :=
 bif (decide ((IntKind.wrap .i64 (a1 - (((List.length a0) : Nat) : Int))) < 0)) then (some (-1))
 else (Option.bind (laws_szStateS_k0 L (a0, (IntKind.wrap .i64 (a1 - (((List.length a0) : Nat) : Int))), 0)) fun z3 =>
 elimS z3 (fun u4 =>
 some u4)
 (fun z5 =>
 some z5))
theorem laws_szStateS_raw_eq (D : DFun E) (L : LFun E) (a0 : List XState) (a1 : Int) : laws_szStateS (stepD E D L) (a0, a1) = laws_szStateS_raw D L a0 a1 := by kernel_rfl
theorem laws_szStateS_of (a0 : List XState) (a1 : Int) {o : Int} (h : laws_szStateS_raw w wl a0 a1 = some o) : laws_szStateS w (a0, a1) = some o := ap_close _ _ (laws_szStateS_raw_eq w wl a0 a1) h
noncomputable def laws_toStateS_l0 (D : DFun E) (L : LFun E) (y0 : List XState) (y1 : Int) (y2 : List XState) : Option ((List XState)) :=
 bif (decide (y1 < (((List.length y0) : Nat) : Int))) then (bif inb y1 (List.length y0) then
 let e1 := (rd1 zState y0 y1)
 Option.bind (laws_toState D (e1.1, e1.2)) fun r2 =>
 bif inb y1 (List.length y2) then
 let l3 := List.set y2 (Int.toNat y1) (r2.1, r2.2)
 laws_toStateS_k0 L (y0, (IntKind.wrap .i64 (y1 + 1)), l3) else none else none)
 else (some y2)
theorem laws_toStateS_l0_eq (D : DFun E) (L : LFun E) (y0 : List XState) (y1 : Int) (y2 : List XState) : laws_toStateS_k0 (stepL E D L) (y0, y1, y2) = laws_toStateS_l0 D L y0 y1 y2 := by kernel_rfl
theorem laws_toStateS_l0_of (y0 : List XState) (y1 : Int) (y2 : List XState) {o : (List XState)} (h : laws_toStateS_l0 w wl y0 y1 y2 = some o) : laws_toStateS_k0 wl (y0, y1, y2) = some o := apL_close _ _ (laws_toStateS_l0_eq w wl y0 y1 y2) h
noncomputable def laws_toStateS_raw (D : DFun E) (L : LFun E) (a0 : List XState) : Option (List XState) :=
 bif (decide ((0 : Int) ≤ (((List.length a0) : Nat) : Int) ∧ ((((List.length a0) : Nat) : Int) : Int) = (((List.length a0) : Nat) : Int)) && fits (Int.toNat (((List.length a0) : Nat) : Int)) 48) then
 Option.bind (laws_toStateS_k0 L (a0, 0, (List.replicate (Int.toNat (((List.length a0) : Nat) : Int)) ([], [])))) fun z4 =>
 some z4 else none
theorem laws_toStateS_raw_eq (D : DFun E) (L : LFun E) (a0 : List XState) : laws_toStateS (stepD E D L) a0 = laws_toStateS_raw D L a0 := by kernel_rfl
theorem laws_toStateS_of (a0 : List XState) {o : List XState} (h : laws_toStateS_raw w wl a0 = some o) : laws_toStateS w a0 = some o := ap_close _ _ (laws_toStateS_raw_eq w wl a0) h
noncomputable def laws_eqStateS_l0 (D : DFun E) (L : LFun E) (y0 : List XState) (y1 : List XState) (y2 : Int) : Option (Bool ⊕ Unit) :=
 bif (decide (y2 < (((List.length y0) : Nat) : Int))) then (bif inb y2 (List.length y0) then
 let e1 := (rd1 zState y0 y2)
 bif inb y2 (List.length y1) then
 let e2 := (rd1 zState y1 y2)
 Option.bind (laws_eqState D (e1.1, e1.2, e2.1, e2.2)) fun r3 =>
 bif (!r3) then (some (Sum.inl false))
 else (laws_eqStateS_k0 L (y0, y1, (IntKind.wrap .i64 (y2 + 1)))) else none else none)
 else (some (Sum.inr ()))
theorem laws_eqStateS_l0_eq (D : DFun E) (L : LFun E) (y0 : List XState) (y1 : List XState) (y2 : Int) : laws_eqStateS_k0 (stepL E D L) (y0, y1, y2) = laws_eqStateS_l0 D L y0 y1 y2 := by kernel_rfl
theorem laws_eqStateS_l0_of (y0 : List XState) (y1 : List XState) (y2 : Int) {o : Bool ⊕ Unit} (h : laws_eqStateS_l0 w wl y0 y1 y2 = some o) : laws_eqStateS_k0 wl (y0, y1, y2) = some o := apL_close _ _ (laws_eqStateS_l0_eq w wl y0 y1 y2) h
noncomputable def laws_eqStateS_raw (D : DFun E) (L : LFun E) (a0 : List XState) (a1 : List XState) : Option (Bool) :=
 bif (!decide ((((List.length a0) : Nat) : Int) = (((List.length a1) : Nat) : Int))) then (some false)
 else (Option.bind (laws_eqStateS_k0 L (a0, a1, 0)) fun z4 =>
 elimS z4 (fun u5 =>
 some u5)
 (fun z6 =>
 some true))
theorem laws_eqStateS_raw_eq (D : DFun E) (L : LFun E) (a0 : List XState) (a1 : List XState) : laws_eqStateS (stepD E D L) (a0, a1) = laws_eqStateS_raw D L a0 a1 := by kernel_rfl
theorem laws_eqStateS_of (a0 : List XState) (a1 : List XState) {o : Bool} (h : laws_eqStateS_raw w wl a0 a1 = some o) : laws_eqStateS w (a0, a1) = some o := ap_close _ _ (laws_eqStateS_raw_eq w wl a0 a1) h
noncomputable def laws_eqItemS_l0 (D : DFun E) (L : LFun E) (y0 : List XItem) (y1 : List XItem) (y2 : Int) : Option (Bool ⊕ Unit) :=
 bif (decide (y2 < (((List.length y0) : Nat) : Int))) then (bif inb y2 (List.length y0) then
 let e1 := (rd1 zItem y0 y2)
 bif inb y2 (List.length y1) then
 let e2 := (rd1 zItem y1 y2)
 Option.bind (laws_eqItem D (e1.1, e1.2.1, e1.2.2.1, e1.2.2.2.1, e1.2.2.2.2.1, e1.2.2.2.2.2, e2.1, e2.2.1, e2.2.2.1, e2.2.2.2.1, e2.2.2.2.2.1, e2.2.2.2.2.2)) fun r3 =>
 bif (!r3) then (some (Sum.inl false))
 else (laws_eqItemS_k0 L (y0, y1, (IntKind.wrap .i64 (y2 + 1)))) else none else none)
 else (some (Sum.inr ()))
theorem laws_eqItemS_l0_eq (D : DFun E) (L : LFun E) (y0 : List XItem) (y1 : List XItem) (y2 : Int) : laws_eqItemS_k0 (stepL E D L) (y0, y1, y2) = laws_eqItemS_l0 D L y0 y1 y2 := by kernel_rfl
theorem laws_eqItemS_l0_of (y0 : List XItem) (y1 : List XItem) (y2 : Int) {o : Bool ⊕ Unit} (h : laws_eqItemS_l0 w wl y0 y1 y2 = some o) : laws_eqItemS_k0 wl (y0, y1, y2) = some o := apL_close _ _ (laws_eqItemS_l0_eq w wl y0 y1 y2) h
noncomputable def laws_eqItemS_raw (D : DFun E) (L : LFun E) (a0 : List XItem) (a1 : List XItem) : Option (Bool) :=
 bif (!decide ((((List.length a0) : Nat) : Int) = (((List.length a1) : Nat) : Int))) then (some false)
 else (Option.bind (laws_eqItemS_k0 L (a0, a1, 0)) fun z4 =>
 elimS z4 (fun u5 =>
 some u5)
 (fun z6 =>
 some true))
theorem laws_eqItemS_raw_eq (D : DFun E) (L : LFun E) (a0 : List XItem) (a1 : List XItem) : laws_eqItemS (stepD E D L) (a0, a1) = laws_eqItemS_raw D L a0 a1 := by kernel_rfl
theorem laws_eqItemS_of (a0 : List XItem) (a1 : List XItem) {o : Bool} (h : laws_eqItemS_raw w wl a0 a1 = some o) : laws_eqItemS w (a0, a1) = some o := ap_close _ _ (laws_eqItemS_raw_eq w wl a0 a1) h
noncomputable def laws_szNode_raw (D : DFun E) (L : LFun E) (a0 : Int) (a1 : Int) (a2 : List XItem) (a3 : List XFloor) (a4 : List Int) (a5 : Int) (a6 : Int) (a7 : Int) (a8 : List XState) (a9 : List Int) (a10 : List Int) (a11 : List (List Int)) (a12 : Int) (a13 : Int) (a14 : List XSess) (a15 : Int) (a16 : Int) (a17 : Int) (a18 : List XRise) (a19 : Int) : Option (Int) :=
 Option.bind (laws_szState D (a2, a3, a19)) fun r1 =>
 bif (decide (r1 < 0)) then (some (-1))
 else (Option.bind (laws_szTree D (a4, a5, r1)) fun r2 =>
 bif (decide (r2 < 0)) then (some (-1))
 else (Option.bind (laws_szLog D (a6, a7, a8, r2)) fun r3 =>
 bif (decide (r3 < 0)) then (some (-1))
 else (Option.bind (laws_szIntS D (a9, r3)) fun r4 =>
 bif (decide (r4 < 0)) then (some (-1))
 else (Option.bind (laws_szIntS D (a10, r4)) fun r5 =>
 bif (decide (r5 < 0)) then (some (-1))
 else (Option.bind (laws_szIntSS D (a11, r5)) fun r6 =>
 bif (decide (r6 < 0)) then (some (-1))
 else (Option.bind (laws_szSessS D (a14, r6)) fun r7 =>
 bif (decide (r7 < 0)) then (some (-1))
 else (Option.bind (laws_szRiseS D (a18, r7)) fun r8 =>
 bif (decide (r8 < 0)) then (some (-1))
 else (some r8))))))))
theorem laws_szNode_raw_eq (D : DFun E) (L : LFun E) (a0 : Int) (a1 : Int) (a2 : List XItem) (a3 : List XFloor) (a4 : List Int) (a5 : Int) (a6 : Int) (a7 : Int) (a8 : List XState) (a9 : List Int) (a10 : List Int) (a11 : List (List Int)) (a12 : Int) (a13 : Int) (a14 : List XSess) (a15 : Int) (a16 : Int) (a17 : Int) (a18 : List XRise) (a19 : Int) : laws_szNode (stepD E D L) (a0, a1, a2, a3, a4, a5, a6, a7, a8, a9, a10, a11, a12, a13, a14, a15, a16, a17, a18, a19) = laws_szNode_raw D L a0 a1 a2 a3 a4 a5 a6 a7 a8 a9 a10 a11 a12 a13 a14 a15 a16 a17 a18 a19 := by kernel_rfl
theorem laws_szNode_of (a0 : Int) (a1 : Int) (a2 : List XItem) (a3 : List XFloor) (a4 : List Int) (a5 : Int) (a6 : Int) (a7 : Int) (a8 : List XState) (a9 : List Int) (a10 : List Int) (a11 : List (List Int)) (a12 : Int) (a13 : Int) (a14 : List XSess) (a15 : Int) (a16 : Int) (a17 : Int) (a18 : List XRise) (a19 : Int) {o : Int} (h : laws_szNode_raw w wl a0 a1 a2 a3 a4 a5 a6 a7 a8 a9 a10 a11 a12 a13 a14 a15 a16 a17 a18 a19 = some o) : laws_szNode w (a0, a1, a2, a3, a4, a5, a6, a7, a8, a9, a10, a11, a12, a13, a14, a15, a16, a17, a18, a19) = some o := ap_close _ _ (laws_szNode_raw_eq w wl a0 a1 a2 a3 a4 a5 a6 a7 a8 a9 a10 a11 a12 a13 a14 a15 a16 a17 a18 a19) h
noncomputable def laws_toNode_raw (D : DFun E) (L : LFun E) (a0 : Int) (a1 : Int) (a2 : List XItem) (a3 : List XFloor) (a4 : List Int) (a5 : Int) (a6 : Int) (a7 : Int) (a8 : List XState) (a9 : List Int) (a10 : List Int) (a11 : List (List Int)) (a12 : Int) (a13 : Int) (a14 : List XSess) (a15 : Int) (a16 : Int) (a17 : Int) (a18 : List XRise) : Option (XNode) :=
 Option.bind (laws_toState D (a2, a3)) fun r1 =>
 Option.bind (laws_toTree D (a4, a5)) fun r2 =>
 Option.bind (laws_toLog D (a6, a7, a8)) fun r3 =>
 Option.bind (laws_toIntS D a9) fun r4 =>
 Option.bind (laws_toIntS D a10) fun r5 =>
 Option.bind (laws_toIntSS D a11) fun r6 =>
 Option.bind (laws_toSessS D a14) fun r7 =>
 Option.bind (laws_toRiseS D a18) fun r8 =>
 some (a0, a1, r1.1, r1.2, r2.1, r2.2, r3.1, r3.2.1, r3.2.2, r4, r5, r6, a12, a13, r7, a15, a16, a17, r8)
theorem laws_toNode_raw_eq (D : DFun E) (L : LFun E) (a0 : Int) (a1 : Int) (a2 : List XItem) (a3 : List XFloor) (a4 : List Int) (a5 : Int) (a6 : Int) (a7 : Int) (a8 : List XState) (a9 : List Int) (a10 : List Int) (a11 : List (List Int)) (a12 : Int) (a13 : Int) (a14 : List XSess) (a15 : Int) (a16 : Int) (a17 : Int) (a18 : List XRise) : laws_toNode (stepD E D L) (a0, a1, a2, a3, a4, a5, a6, a7, a8, a9, a10, a11, a12, a13, a14, a15, a16, a17, a18) = laws_toNode_raw D L a0 a1 a2 a3 a4 a5 a6 a7 a8 a9 a10 a11 a12 a13 a14 a15 a16 a17 a18 := by kernel_rfl
theorem laws_toNode_of (a0 : Int) (a1 : Int) (a2 : List XItem) (a3 : List XFloor) (a4 : List Int) (a5 : Int) (a6 : Int) (a7 : Int) (a8 : List XState) (a9 : List Int) (a10 : List Int) (a11 : List (List Int)) (a12 : Int) (a13 : Int) (a14 : List XSess) (a15 : Int) (a16 : Int) (a17 : Int) (a18 : List XRise) {o : XNode} (h : laws_toNode_raw w wl a0 a1 a2 a3 a4 a5 a6 a7 a8 a9 a10 a11 a12 a13 a14 a15 a16 a17 a18 = some o) : laws_toNode w (a0, a1, a2, a3, a4, a5, a6, a7, a8, a9, a10, a11, a12, a13, a14, a15, a16, a17, a18) = some o := ap_close _ _ (laws_toNode_raw_eq w wl a0 a1 a2 a3 a4 a5 a6 a7 a8 a9 a10 a11 a12 a13 a14 a15 a16 a17 a18) h
noncomputable def laws_eqNode_raw (D : DFun E) (L : LFun E) (a0 : Int) (a1 : Int) (a2 : List XItem) (a3 : List XFloor) (a4 : List Int) (a5 : Int) (a6 : Int) (a7 : Int) (a8 : List XState) (a9 : List Int) (a10 : List Int) (a11 : List (List Int)) (a12 : Int) (a13 : Int) (a14 : List XSess) (a15 : Int) (a16 : Int) (a17 : Int) (a18 : List XRise) (a19 : Int) (a20 : Int) (a21 : List XItem) (a22 : List XFloor) (a23 : List Int) (a24 : Int) (a25 : Int) (a26 : Int) (a27 : List XState) (a28 : List Int) (a29 : List Int) (a30 : List (List Int)) (a31 : Int) (a32 : Int) (a33 : List XSess) (a34 : Int) (a35 : Int) (a36 : Int) (a37 : List XRise) : Option (Bool) :=
 bif (!decide (a0 = a19)) then (some false)
 else (bif (!decide (a1 = a20)) then (some false)
 else (Option.bind (laws_eqState D (a2, a3, a21, a22)) fun r1 =>
 bif (!r1) then (some false)
 else (Option.bind (laws_eqTree D (a4, a5, a23, a24)) fun r2 =>
 bif (!r2) then (some false)
 else (Option.bind (laws_eqLog D (a6, a7, a8, a25, a26, a27)) fun r3 =>
 bif (!r3) then (some false)
 else (Option.bind (laws_eqIntS D (a9, a28)) fun r4 =>
 bif (!r4) then (some false)
 else (Option.bind (laws_eqIntS D (a10, a29)) fun r5 =>
 bif (!r5) then (some false)
 else (Option.bind (laws_eqIntSS D (a11, a30)) fun r6 =>
 bif (!r6) then (some false)
 else (bif (!decide (a12 = a31)) then (some false)
 else (bif (!decide (a13 = a32)) then (some false)
 else (Option.bind (laws_eqSessS D (a14, a33)) fun r7 =>
 bif (!r7) then (some false)
 else (bif (!decide (a15 = a34)) then (some false)
 else (bif (!decide (a16 = a35)) then (some false)
 else (bif (!decide (a17 = a36)) then (some false)
 else (Option.bind (laws_eqRiseS D (a18, a37)) fun r8 =>
 bif (!r8) then (some false)
 else (some true)))))))))))))))
theorem laws_eqNode_raw_eq (D : DFun E) (L : LFun E) (a0 : Int) (a1 : Int) (a2 : List XItem) (a3 : List XFloor) (a4 : List Int) (a5 : Int) (a6 : Int) (a7 : Int) (a8 : List XState) (a9 : List Int) (a10 : List Int) (a11 : List (List Int)) (a12 : Int) (a13 : Int) (a14 : List XSess) (a15 : Int) (a16 : Int) (a17 : Int) (a18 : List XRise) (a19 : Int) (a20 : Int) (a21 : List XItem) (a22 : List XFloor) (a23 : List Int) (a24 : Int) (a25 : Int) (a26 : Int) (a27 : List XState) (a28 : List Int) (a29 : List Int) (a30 : List (List Int)) (a31 : Int) (a32 : Int) (a33 : List XSess) (a34 : Int) (a35 : Int) (a36 : Int) (a37 : List XRise) : laws_eqNode (stepD E D L) (a0, a1, a2, a3, a4, a5, a6, a7, a8, a9, a10, a11, a12, a13, a14, a15, a16, a17, a18, a19, a20, a21, a22, a23, a24, a25, a26, a27, a28, a29, a30, a31, a32, a33, a34, a35, a36, a37) = laws_eqNode_raw D L a0 a1 a2 a3 a4 a5 a6 a7 a8 a9 a10 a11 a12 a13 a14 a15 a16 a17 a18 a19 a20 a21 a22 a23 a24 a25 a26 a27 a28 a29 a30 a31 a32 a33 a34 a35 a36 a37 := by kernel_rfl
theorem laws_eqNode_of (a0 : Int) (a1 : Int) (a2 : List XItem) (a3 : List XFloor) (a4 : List Int) (a5 : Int) (a6 : Int) (a7 : Int) (a8 : List XState) (a9 : List Int) (a10 : List Int) (a11 : List (List Int)) (a12 : Int) (a13 : Int) (a14 : List XSess) (a15 : Int) (a16 : Int) (a17 : Int) (a18 : List XRise) (a19 : Int) (a20 : Int) (a21 : List XItem) (a22 : List XFloor) (a23 : List Int) (a24 : Int) (a25 : Int) (a26 : Int) (a27 : List XState) (a28 : List Int) (a29 : List Int) (a30 : List (List Int)) (a31 : Int) (a32 : Int) (a33 : List XSess) (a34 : Int) (a35 : Int) (a36 : Int) (a37 : List XRise) {o : Bool} (h : laws_eqNode_raw w wl a0 a1 a2 a3 a4 a5 a6 a7 a8 a9 a10 a11 a12 a13 a14 a15 a16 a17 a18 a19 a20 a21 a22 a23 a24 a25 a26 a27 a28 a29 a30 a31 a32 a33 a34 a35 a36 a37 = some o) : laws_eqNode w (a0, a1, a2, a3, a4, a5, a6, a7, a8, a9, a10, a11, a12, a13, a14, a15, a16, a17, a18, a19, a20, a21, a22, a23, a24, a25, a26, a27, a28, a29, a30, a31, a32, a33, a34, a35, a36, a37) = some o := ap_close _ _ (laws_eqNode_raw_eq w wl a0 a1 a2 a3 a4 a5 a6 a7 a8 a9 a10 a11 a12 a13 a14 a15 a16 a17 a18 a19 a20 a21 a22 a23 a24 a25 a26 a27 a28 a29 a30 a31 a32 a33 a34 a35 a36 a37) h
noncomputable def spec_Safe_l0 (D : DFun E) (L : LFun E) (y0 : Int) (y1 : Int) (y2 : Int) (y3 : Int) (y4 : List XItem) (y5 : List XFloor) (y6 : List Int) (y7 : Int) (y8 : Int) (y9 : Int) (y10 : List XState) (y11 : List Int) (y12 : List Int) (y13 : List (List Int)) (y14 : Int) (y15 : Int) (y16 : List XSess) (y17 : Int) (y18 : Int) (y19 : Int) (y20 : List XRise) : Option (Int) :=
 bif (decide (y1 < y3)) then (bif (!decide (y1 = y2)) then (bif inb y1 (List.length y12) then
 Option.bind (spec_l1Min D (y0, (rd1 (0 : Int) y12 y1))) fun r3 =>
 spec_Safe_k0 L (r3, (IntKind.wrap .i64 (y1 + 1)), y2, y3, y4, y5, y6, y7, y8, y9, y10, y11, y12, y13, y14, y15, y16, y17, y18, y19, y20) else none)
 else (spec_Safe_k0 L (y0, (IntKind.wrap .i64 (y1 + 1)), y2, y3, y4, y5, y6, y7, y8, y9, y10, y11, y12, y13, y14, y15, y16, y17, y18, y19, y20)))
 else (some y0)
theorem spec_Safe_l0_eq (D : DFun E) (L : LFun E) (y0 : Int) (y1 : Int) (y2 : Int) (y3 : Int) (y4 : List XItem) (y5 : List XFloor) (y6 : List Int) (y7 : Int) (y8 : Int) (y9 : Int) (y10 : List XState) (y11 : List Int) (y12 : List Int) (y13 : List (List Int)) (y14 : Int) (y15 : Int) (y16 : List XSess) (y17 : Int) (y18 : Int) (y19 : Int) (y20 : List XRise) : spec_Safe_k0 (stepL E D L) (y0, y1, y2, y3, y4, y5, y6, y7, y8, y9, y10, y11, y12, y13, y14, y15, y16, y17, y18, y19, y20) = spec_Safe_l0 D L y0 y1 y2 y3 y4 y5 y6 y7 y8 y9 y10 y11 y12 y13 y14 y15 y16 y17 y18 y19 y20 := by kernel_rfl
theorem spec_Safe_l0_of (y0 : Int) (y1 : Int) (y2 : Int) (y3 : Int) (y4 : List XItem) (y5 : List XFloor) (y6 : List Int) (y7 : Int) (y8 : Int) (y9 : Int) (y10 : List XState) (y11 : List Int) (y12 : List Int) (y13 : List (List Int)) (y14 : Int) (y15 : Int) (y16 : List XSess) (y17 : Int) (y18 : Int) (y19 : Int) (y20 : List XRise) {o : Int} (h : spec_Safe_l0 w wl y0 y1 y2 y3 y4 y5 y6 y7 y8 y9 y10 y11 y12 y13 y14 y15 y16 y17 y18 y19 y20 = some o) : spec_Safe_k0 wl (y0, y1, y2, y3, y4, y5, y6, y7, y8, y9, y10, y11, y12, y13, y14, y15, y16, y17, y18, y19, y20) = some o := apL_close _ _ (spec_Safe_l0_eq w wl y0 y1 y2 y3 y4 y5 y6 y7 y8 y9 y10 y11 y12 y13 y14 y15 y16 y17 y18 y19 y20) h
noncomputable def spec_Safe_raw (D : DFun E) (L : LFun E) (a0 : Int) (a1 : Int) (a2 : List XItem) (a3 : List XFloor) (a4 : List Int) (a5 : Int) (a6 : Int) (a7 : Int) (a8 : List XState) (a9 : List Int) (a10 : List Int) (a11 : List (List Int)) (a12 : Int) (a13 : Int) (a14 : List XSess) (a15 : Int) (a16 : Int) (a17 : Int) (a18 : List XRise) : Option (Int) :=
 Option.bind (spec_NodeOk D (a0, a1, a2, a3, a4, a5, a6, a7, a8, a9, a10, a11, a12, a13, a14, a15, a16, a17, a18)) fun r1 =>
 bif (!r1) then (some 0)
 else (Option.bind (spec_LogSeq D (a6, a7, a8)) fun r2 =>
 Option.bind (spec_Safe_k0 L (r2, 0, a0, a1, a2, a3, a4, a5, a6, a7, a8, a9, a10, a11, a12, a13, a14, a15, a16, a17, a18)) fun z4 =>
 some z4)
theorem spec_Safe_raw_eq (D : DFun E) (L : LFun E) (a0 : Int) (a1 : Int) (a2 : List XItem) (a3 : List XFloor) (a4 : List Int) (a5 : Int) (a6 : Int) (a7 : Int) (a8 : List XState) (a9 : List Int) (a10 : List Int) (a11 : List (List Int)) (a12 : Int) (a13 : Int) (a14 : List XSess) (a15 : Int) (a16 : Int) (a17 : Int) (a18 : List XRise) : spec_Safe (stepD E D L) (a0, a1, a2, a3, a4, a5, a6, a7, a8, a9, a10, a11, a12, a13, a14, a15, a16, a17, a18) = spec_Safe_raw D L a0 a1 a2 a3 a4 a5 a6 a7 a8 a9 a10 a11 a12 a13 a14 a15 a16 a17 a18 := by kernel_rfl
theorem spec_Safe_of (a0 : Int) (a1 : Int) (a2 : List XItem) (a3 : List XFloor) (a4 : List Int) (a5 : Int) (a6 : Int) (a7 : Int) (a8 : List XState) (a9 : List Int) (a10 : List Int) (a11 : List (List Int)) (a12 : Int) (a13 : Int) (a14 : List XSess) (a15 : Int) (a16 : Int) (a17 : Int) (a18 : List XRise) {o : Int} (h : spec_Safe_raw w wl a0 a1 a2 a3 a4 a5 a6 a7 a8 a9 a10 a11 a12 a13 a14 a15 a16 a17 a18 = some o) : spec_Safe w (a0, a1, a2, a3, a4, a5, a6, a7, a8, a9, a10, a11, a12, a13, a14, a15, a16, a17, a18) = some o := ap_close _ _ (spec_Safe_raw_eq w wl a0 a1 a2 a3 a4 a5 a6 a7 a8 a9 a10 a11 a12 a13 a14 a15 a16 a17 a18) h
noncomputable def impl_Safe_l0 (D : DFun E) (L : LFun E) (y0 : Int) (y1 : List Int) (y2 : Int) (y3 : Int) (y4 : Int) (y5 : Int) (y6 : List XItem) (y7 : List XFloor) (y8 : List Int) (y9 : Int) (y10 : Int) (y11 : Int) (y12 : List XState) (y13 : List Int) (y14 : List Int) (y15 : List (List Int)) (y16 : Int) (y17 : Int) (y18 : List XSess) (y19 : Int) (y20 : Int) (y21 : Int) (y22 : List XRise) : Option (Int) :=
 bif (decide (y3 < y2)) then (bif inb y3 (List.length y1) then
 bif (!decide (y3 = y4)) then (impl_Safe_k0 L ((mnI y0 (rd1 (0 : Int) y1 y3)), y1, y2, (IntKind.wrap .i64 (y3 + 1)), y4, y5, y6, y7, y8, y9, y10, y11, y12, y13, y14, y15, y16, y17, y18, y19, y20, y21, y22))
 else (impl_Safe_k0 L (y0, y1, y2, (IntKind.wrap .i64 (y3 + 1)), y4, y5, y6, y7, y8, y9, y10, y11, y12, y13, y14, y15, y16, y17, y18, y19, y20, y21, y22)) else none)
 else (some y0)
theorem impl_Safe_l0_eq (D : DFun E) (L : LFun E) (y0 : Int) (y1 : List Int) (y2 : Int) (y3 : Int) (y4 : Int) (y5 : Int) (y6 : List XItem) (y7 : List XFloor) (y8 : List Int) (y9 : Int) (y10 : Int) (y11 : Int) (y12 : List XState) (y13 : List Int) (y14 : List Int) (y15 : List (List Int)) (y16 : Int) (y17 : Int) (y18 : List XSess) (y19 : Int) (y20 : Int) (y21 : Int) (y22 : List XRise) : impl_Safe_k0 (stepL E D L) (y0, y1, y2, y3, y4, y5, y6, y7, y8, y9, y10, y11, y12, y13, y14, y15, y16, y17, y18, y19, y20, y21, y22) = impl_Safe_l0 D L y0 y1 y2 y3 y4 y5 y6 y7 y8 y9 y10 y11 y12 y13 y14 y15 y16 y17 y18 y19 y20 y21 y22 := by kernel_rfl
theorem impl_Safe_l0_of (y0 : Int) (y1 : List Int) (y2 : Int) (y3 : Int) (y4 : Int) (y5 : Int) (y6 : List XItem) (y7 : List XFloor) (y8 : List Int) (y9 : Int) (y10 : Int) (y11 : Int) (y12 : List XState) (y13 : List Int) (y14 : List Int) (y15 : List (List Int)) (y16 : Int) (y17 : Int) (y18 : List XSess) (y19 : Int) (y20 : Int) (y21 : Int) (y22 : List XRise) {o : Int} (h : impl_Safe_l0 w wl y0 y1 y2 y3 y4 y5 y6 y7 y8 y9 y10 y11 y12 y13 y14 y15 y16 y17 y18 y19 y20 y21 y22 = some o) : impl_Safe_k0 wl (y0, y1, y2, y3, y4, y5, y6, y7, y8, y9, y10, y11, y12, y13, y14, y15, y16, y17, y18, y19, y20, y21, y22) = some o := apL_close _ _ (impl_Safe_l0_eq w wl y0 y1 y2 y3 y4 y5 y6 y7 y8 y9 y10 y11 y12 y13 y14 y15 y16 y17 y18 y19 y20 y21 y22) h
noncomputable def impl_Safe_raw (D : DFun E) (L : LFun E) (a0 : Int) (a1 : Int) (a2 : List XItem) (a3 : List XFloor) (a4 : List Int) (a5 : Int) (a6 : Int) (a7 : Int) (a8 : List XState) (a9 : List Int) (a10 : List Int) (a11 : List (List Int)) (a12 : Int) (a13 : Int) (a14 : List XSess) (a15 : Int) (a16 : Int) (a17 : Int) (a18 : List XRise) : Option (Int) :=
 Option.bind (impl_NodeOk D (a0, a1, a2, a3, a4, a5, a6, a7, a8, a9, a10, a11, a12, a13, a14, a15, a16, a17, a18)) fun r1 =>
 bif (!r1) then (some 0)
 else (Option.bind (impl_LogSeq D (a6, a7, a8)) fun r2 =>
 Option.bind (impl_Safe_k0 L (r2, a10, (((List.length a10) : Nat) : Int), 0, a0, a1, a2, a3, a4, a5, a6, a7, a8, a9, a10, a11, a12, a13, a14, a15, a16, a17, a18)) fun z3 =>
 some z3)
theorem impl_Safe_raw_eq (D : DFun E) (L : LFun E) (a0 : Int) (a1 : Int) (a2 : List XItem) (a3 : List XFloor) (a4 : List Int) (a5 : Int) (a6 : Int) (a7 : Int) (a8 : List XState) (a9 : List Int) (a10 : List Int) (a11 : List (List Int)) (a12 : Int) (a13 : Int) (a14 : List XSess) (a15 : Int) (a16 : Int) (a17 : Int) (a18 : List XRise) : impl_Safe (stepD E D L) (a0, a1, a2, a3, a4, a5, a6, a7, a8, a9, a10, a11, a12, a13, a14, a15, a16, a17, a18) = impl_Safe_raw D L a0 a1 a2 a3 a4 a5 a6 a7 a8 a9 a10 a11 a12 a13 a14 a15 a16 a17 a18 := by kernel_rfl
theorem impl_Safe_of (a0 : Int) (a1 : Int) (a2 : List XItem) (a3 : List XFloor) (a4 : List Int) (a5 : Int) (a6 : Int) (a7 : Int) (a8 : List XState) (a9 : List Int) (a10 : List Int) (a11 : List (List Int)) (a12 : Int) (a13 : Int) (a14 : List XSess) (a15 : Int) (a16 : Int) (a17 : Int) (a18 : List XRise) {o : Int} (h : impl_Safe_raw w wl a0 a1 a2 a3 a4 a5 a6 a7 a8 a9 a10 a11 a12 a13 a14 a15 a16 a17 a18 = some o) : impl_Safe w (a0, a1, a2, a3, a4, a5, a6, a7, a8, a9, a10, a11, a12, a13, a14, a15, a16, a17, a18) = some o := ap_close _ _ (impl_Safe_raw_eq w wl a0 a1 a2 a3 a4 a5 a6 a7 a8 a9 a10 a11 a12 a13 a14 a15 a16 a17 a18) h
end Go.Proofs.Ytgkobeililjgbaa.M
