/- Plain forms of the functions that FnExactPlainGone reaches, part 0. No conditions. -/
import Derived.Test.YtgkobeililjgbaaFnExactPlainGoneTab
namespace Go.Proofs.Ytgkobeililjgbaa.M
open Go Go.Eng Go.Proofs
set_option linter.unusedVariables false
noncomputable def laws_FnExactPlainGone_raw (D : DFun E) (L : LFun E) (a0 : List XState) (a1 : Int) : Option (Bool) :=
 Option.bind (laws_szStateS D (a0, 1048576)) fun r1 =>
 bif (decide (r1 < 0)) then (some true)
 else (Option.bind (laws_toStateS D a0) fun r2 =>
 Option.bind (spec_PlainGone D (r2, a1)) fun r3 =>
 Option.bind (laws_toStateS D a0) fun r4 =>
 Option.bind (impl_PlainGone D (r4, a1)) fun r5 =>
 bif (!decide (r5 = r3)) then (some false)
 else (Option.bind (laws_toStateS D a0) fun r6 =>
 Option.bind (laws_eqStateS D (r4, r6)) fun r7 =>
 bif (!r7) then (some false)
 else (some true)))
theorem laws_FnExactPlainGone_raw_eq (D : DFun E) (L : LFun E) (a0 : List XState) (a1 : Int) : laws_FnExactPlainGone (stepD E D L) (a0, a1) = laws_FnExactPlainGone_raw D L a0 a1 := by kernel_rfl
theorem laws_FnExactPlainGone_of (a0 : List XState) (a1 : Int) {o : Bool} (h : laws_FnExactPlainGone_raw w wl a0 a1 = some o) : laws_FnExactPlainGone w (a0, a1) = some o := ap_close _ _ (laws_FnExactPlainGone_raw_eq w wl a0 a1) h
noncomputable def laws_szStateS_l0 (D : DFun E) (L : LFun E) (y0 : List XState) (y1 : Int) (y2 : Int) : Option (Int ⊕ Int) :=
 bif (decide (y2 < (((List.length y0) : Nat) : Int))) then (bif inb y2 (List.length y0) then
 let e1 := (rd1 zState y0 y2)
 Option.bind (laws_szState D (e1.1, e1.2, y1)) fun r2 =>
 bif (decide (r2 < 0)) then (some (Sum.inl (-1)))
 else (laws_szStateS_k0 L (y0, r2, (IntKind.wrap .i64 (y2 + 1)))) else none)
 else (some (Sum.inr y1))
theorem laws_szStateS_l0_eq (D : DFun E) (L : LFun E) (y0 : List XState) (y1 : Int) (y2 : Int) : laws_szStateS_k0 (stepL E D L) (y0, y1, y2) = laws_szStateS_l0 D L y0 y1 y2 := by kernel_rfl
theorem laws_szStateS_l0_of (y0 : List XState) (y1 : Int) (y2 : Int) {o : Int ⊕ Int} (h : laws_szStateS_l0 w wl y0 y1 y2 = some o) : laws_szStateS_k0 wl (y0, y1, y2) = some o := apL_close _ _ (laws_szStateS_l0_eq w wl y0 y1 y2) h
noncomputable def laws_szStateS_raw (D : DFun E) (L : LFun E) (a0 : List XState) (a1 : Int) : Option (Int) :=
 bif (decide ((IntKind.wrap .i64 (a1 - (((List.length a0) : Nat) : Int))) < 0)) then (some (-1))
 else (Option.bind (laws_szStateS_k0 L (a0, (IntKind.wrap .i64 (a1 - (((List.length a0) : Nat) : Int))), 0)) fun z3 =>
 elimS z3 (fun u4 =>
 some u4)
 (fun z5 =>
 some z5))
theorem laws_szStateS_raw_eq (D : DFun E) (L : LFun E) (a0 : List XState) (a1 : Int) : laws_szStateS (stepD E D L) (a0, a1) = laws_szStateS_raw D L a0 a1 := by kernel_rfl
theorem laws_szStateS_of (a0 : List XState) (a1 : Int) {o : Int} (h : laws_szStateS_raw w wl a0 a1 = some o) : laws_szStateS w (a0, a1) = some o := ap_close _ _ (laws_szStateS_raw_eq w wl a0 a1) h
noncomputable def spec_PlainGone_l0 (D : DFun E) (L : LFun E) (y0 : List XState) (y1 : Int) (y2 : Int) (y3 : Int) : Option (Int) :=
 bif (decide (y3 < (((List.length y0) : Nat) : Int))) then (bif inb y3 (List.length y0) then
 let e1 := (rd1 zState y0 y3)
 Option.bind (spec_EntryOf D (e1.1, e1.2, y1)) fun r2 =>
 bif r2.2.2.2.2.2 then (bif inb y3 (List.length y0) then
 let e3 := (rd1 zState y0 y3)
 Option.bind (spec_StateOk D (e3.1, e3.2)) fun r4 =>
 bif r4 then (bif (decide (r2.2.1 = 1)) then (Option.bind (spec_l1Max D (y2, r2.1)) fun r5 =>
 spec_PlainGone_k0 L (y0, y1, r5, (IntKind.wrap .i64 (y3 + 1))))
 else (spec_PlainGone_k0 L (y0, y1, y2, (IntKind.wrap .i64 (y3 + 1)))))
 else (spec_PlainGone_k0 L (y0, y1, y2, (IntKind.wrap .i64 (y3 + 1)))) else none)
 else (spec_PlainGone_k0 L (y0, y1, y2, (IntKind.wrap .i64 (y3 + 1)))) else none)
 else (some y2)
theorem spec_PlainGone_l0_eq (D : DFun E) (L : LFun E) (y0 : List XState) (y1 : Int) (y2 : Int) (y3 : Int) : spec_PlainGone_k0 (stepL E D L) (y0, y1, y2, y3) = spec_PlainGone_l0 D L y0 y1 y2 y3 := by kernel_rfl
theorem spec_PlainGone_l0_of (y0 : List XState) (y1 : Int) (y2 : Int) (y3 : Int) {o : Int} (h : spec_PlainGone_l0 w wl y0 y1 y2 y3 = some o) : spec_PlainGone_k0 wl (y0, y1, y2, y3) = some o := apL_close _ _ (spec_PlainGone_l0_eq w wl y0 y1 y2 y3) h
noncomputable def spec_PlainGone_raw (D : DFun E) (L : LFun E) (a0 : List XState) (a1 : Int) : Option (Int) :=
 Option.bind (spec_PlainGone_k0 L (a0, a1, 0, 0)) fun z6 =>
 some z6
theorem spec_PlainGone_raw_eq (D : DFun E) (L : LFun E) (a0 : List XState) (a1 : Int) : spec_PlainGone (stepD E D L) (a0, a1) = spec_PlainGone_raw D L a0 a1 := by kernel_rfl
theorem spec_PlainGone_of (a0 : List XState) (a1 : Int) {o : Int} (h : spec_PlainGone_raw w wl a0 a1 = some o) : spec_PlainGone w (a0, a1) = some o := ap_close _ _ (spec_PlainGone_raw_eq w wl a0 a1) h
noncomputable def laws_toStateS_l0 (D : DFun E) (L : LFun E) (y0 : List XState) (y1 : Int) (y2 : List XState) : Option ((List XState)) :=
 bif (decide (y1 < (((List.length y0) : Nat) : Int))) then (bif inb y1 (List.length y0) then
 let e1 := (rd1 zState y0 y1)
 Option.bind (laws_toState D (e1.1, e1.2)) fun r2 =>
 bif inb y1 (List.length y2) then
 let l3 := List.set y2 (Int.toNat y1) (r2.1, r2.2)
 laws_toStateS_k0 L (y0, (IntKind.wrap .i64 (y1 + 1)), l3) else none else none)
 else (some y2)
theorem laws_toStateS_l0_eq (D : DFun E) (L : LFun E) (y0 : List XState) (y1 : Int) (y2 : List XState) : laws_toStateS_k0 (stepL E D L) (y0, y1, y2) = laws_toStateS_l0 D L y0 y1 y2 := by kernel_rfl
theorem laws_toStateS_l0_of (y0 : List XState) (y1 : Int) (y2 : List XState) {o : (List XState)} (h : laws_toStateS_l0 w wl y0 y1 y2 = some o) : laws_toStateS_k0 wl (y0, y1, y2) = some o := apL_close _ _ (laws_toStateS_l0_eq w wl y0 y1 y2) h
noncomputable def laws_toStateS_raw (D : DFun E) (L : LFun E) (a0 : List XState) : Option (List XState) :=
 bif (decide ((0 : Int) ≤ (((List.length a0) : Nat) : Int) ∧ ((((List.length a0) : Nat) : Int) : Int) = (((List.length a0) : Nat) : Int)) && fits (Int.toNat (((List.length a0) : Nat) : Int)) 48) then
 Option.bind (laws_toStateS_k0 L (a0, 0, (List.replicate (Int.toNat (((List.length a0) : Nat) : Int)) ([], [])))) fun z4 =>
 some z4 else none
theorem laws_toStateS_raw_eq (D : DFun E) (L : LFun E) (a0 : List XState) : laws_toStateS (stepD E D L) a0 = laws_toStateS_raw D L a0 := by kernel_rfl
theorem laws_toStateS_of (a0 : List XState) {o : List XState} (h : laws_toStateS_raw w wl a0 = some o) : laws_toStateS w a0 = some o := ap_close _ _ (laws_toStateS_raw_eq w wl a0) h
noncomputable def impl_PlainGone_l0 (D : DFun E) (L : LFun E) (y0 : Int) (y1 : Int) (y2 : List XState) (y3 : Int) (y4 : Int) : Option (Int) :=
 bif (decide (y4 < y3)) then (bif inb y4 (List.length y2) then
 let e1 := (rd1 zState y2 y4)
 Option.bind (impl_EntryOf D (e1.1, e1.2, y0)) fun r2 =>
 bif r2.2.2.2.2.2 then (Option.bind (impl_StateOk D (e1.1, e1.2)) fun r3 =>
 bif r3 then (bif (decide (r2.2.1 = 1)) then (impl_PlainGone_k0 L (y0, (mxI y1 r2.1), y2, y3, (IntKind.wrap .i64 (y4 + 1))))
 else (impl_PlainGone_k0 L (y0, y1, y2, y3, (IntKind.wrap .i64 (y4 + 1)))))
 else (impl_PlainGone_k0 L (y0, y1, y2, y3, (IntKind.wrap .i64 (y4 + 1)))))
 else (impl_PlainGone_k0 L (y0, y1, y2, y3, (IntKind.wrap .i64 (y4 + 1)))) else none)
 else (some y1)
theorem impl_PlainGone_l0_eq (D : DFun E) (L : LFun E) (y0 : Int) (y1 : Int) (y2 : List XState) (y3 : Int) (y4 : Int) : impl_PlainGone_k0 (stepL E D L) (y0, y1, y2, y3, y4) = impl_PlainGone_l0 D L y0 y1 y2 y3 y4 := by kernel_rfl
theorem impl_PlainGone_l0_of (y0 : Int) (y1 : Int) (y2 : List XState) (y3 : Int) (y4 : Int) {o : Int} (h : impl_PlainGone_l0 w wl y0 y1 y2 y3 y4 = some o) : impl_PlainGone_k0 wl (y0, y1, y2, y3, y4) = some o := apL_close _ _ (impl_PlainGone_l0_eq w wl y0 y1 y2 y3 y4) h
noncomputable def impl_PlainGone_raw (D : DFun E) (L : LFun E) (a0 : List XState) (a1 : Int) : Option (Int) :=
 Option.bind (impl_PlainGone_k0 L (a1, 0, a0, (((List.length a0) : Nat) : Int), 0)) fun z4 =>
 some z4
theorem impl_PlainGone_raw_eq (D : DFun E) (L : LFun E) (a0 : List XState) (a1 : Int) : impl_PlainGone (stepD E D L) (a0, a1) = impl_PlainGone_raw D L a0 a1 := by kernel_rfl
theorem impl_PlainGone_of (a0 : List XState) (a1 : Int) {o : Int} (h : impl_PlainGone_raw w wl a0 a1 = some o) : impl_PlainGone w (a0, a1) = some o := ap_close _ _ (impl_PlainGone_raw_eq w wl a0 a1) h
noncomputable def laws_eqStateS_l0 (D : DFun E) (L : LFun E) (y0 : List XState) (y1 : List XState) (y2 : Int) : Option (Bool ⊕ Unit) :=
 bif (decide (y2 < (((List.length y0) : Nat) : Int))) then (bif inb y2 (List.length y0) then
 let e1 := (rd1 zState y0 y2)
 bif inb y2 (List.length y1) then
 let e2 := (rd1 zState y1 y2)
 Option.bind (laws_eqState D (e1.1, e1.2, e2.1, e2.2)) fun r3 =>
 bif (!r3) then (some (Sum.inl false))
 else (laws_eqStateS_k0 L (y0, y1, (IntKind.wrap .i64 (y2 + 1)))) else none else none)
 else (some (Sum.inr ()))
theorem laws_eqStateS_l0_eq (D : DFun E) (L : LFun E) (y0 : List XState) (y1 : List XState) (y2 : Int) : laws_eqStateS_k0 (stepL E D L) (y0, y1, y2) = laws_eqStateS_l0 D L y0 y1 y2 := by kernel_rfl
theorem laws_eqStateS_l0_of (y0 : List XState) (y1 : List XState) (y2 : Int) {o : Bool ⊕ Unit} (h : laws_eqStateS_l0 w wl y0 y1 y2 = some o) : laws_eqStateS_k0 wl (y0, y1, y2) = some o := apL_close _ _ (laws_eqStateS_l0_eq w wl y0 y1 y2) h
noncomputable def laws_eqStateS_raw (D : DFun E) (L : LFun E) (a0 : List XState) (a1 : List XState) : Option (Bool) :=
 bif (!decide ((((List.length a0) : Nat) : Int) = (((List.length a1) : Nat) : Int))) then (some false)
 else (Option.bind (laws_eqStateS_k0 L (a0, a1, 0)) fun z4 =>
 elimS z4 (fun u5 =>
 some u5)
 (fun z6 =>
 some true))
theorem laws_eqStateS_raw_eq (D : DFun E) (L : LFun E) (a0 : List XState) (a1 : List XState) : laws_eqStateS (stepD E D L) (a0, a1) = laws_eqStateS_raw D L a0 a1 := by kernel_rfl
theorem laws_eqStateS_of (a0 : List XState) (a1 : List XState) {o : Bool} (h : laws_eqStateS_raw w wl a0 a1 = some o) : laws_eqStateS w (a0, a1) = some o := ap_close _ _ (laws_eqStateS_raw_eq w wl a0 a1) h
noncomputable def laws_eqItemS_l0 (D : DFun E) (L : LFun E) (y0 : List XItem) (y1 : List XItem) (y2 : Int) : Option (Bool ⊕ Unit) :=
 bif (decide (y2 < (((List.length y0) : Nat) : Int))) then (bif inb y2 (List.length y0) then
 let e1 := (rd1 zItem y0 y2)
 bif inb y2 (List.length y1) then
 let e2 := (rd1 zItem y1 y2)
 Option.bind (laws_eqItem D (e1.1, e1.2.1, e1.2.2.1, e1.2.2.2.1, e1.2.2.2.2.1, e1.2.2.2.2.2, e2.1, e2.2.1, e2.2.2.1, e2.2.2.2.1, e2.2.2.2.2.1, e2.2.2.2.2.2)) fun r3 =>
 bif (!r3) then (some (Sum.inl false))
 else (laws_eqItemS_k0 L (y0, y1, (IntKind.wrap .i64 (y2 + 1)))) else none else none)
 else (some (Sum.inr ()))
theorem laws_eqItemS_l0_eq (D : DFun E) (L : LFun E) (y0 : List XItem) (y1 : List XItem) (y2 : Int) : laws_eqItemS_k0 (stepL E D L) (y0, y1, y2) = laws_eqItemS_l0 D L y0 y1 y2 := by kernel_rfl
theorem laws_eqItemS_l0_of (y0 : List XItem) (y1 : List XItem) (y2 : Int) {o : Bool ⊕ Unit} (h : laws_eqItemS_l0 w wl y0 y1 y2 = some o) : laws_eqItemS_k0 wl (y0, y1, y2) = some o := apL_close _ _ (laws_eqItemS_l0_eq w wl y0 y1 y2) h
noncomputable def laws_eqItemS_raw (D : DFun E) (L : LFun E) (a0 : List XItem) (a1 : List XItem) : Option (Bool) :=
 bif (!decide ((((List.length a0) : Nat) : Int) = (((List.length a1) : Nat) : Int))) then (some false)
 else (Option.bind (laws_eqItemS_k0 L (a0, a1, 0)) fun z4 =>
 elimS z4 (fun u5 =>
 some u5)
 (fun z6 =>
 some true))
theorem laws_eqItemS_raw_eq (D : DFun E) (L : LFun E) (a0 : List XItem) (a1 : List XItem) : laws_eqItemS (stepD E D L) (a0, a1) = laws_eqItemS_raw D L a0 a1 := by kernel_rfl
theorem laws_eqItemS_of (a0 : List XItem) (a1 : List XItem) {o : Bool} (h : laws_eqItemS_raw w wl a0 a1 = some o) : laws_eqItemS w (a0, a1) = some o := ap_close _ _ (laws_eqItemS_raw_eq w wl a0 a1) h
noncomputable def spec_l1In_raw (D : DFun E) (L : LFun E) (a0 : Int) (a1 : Int) (a2 : Int) : Option (Bool) :=
 bif (decide (a1 ≤ a0)) then (some (decide (a0 ≤ a2)))
 else (some false)
theorem spec_l1In_raw_eq (D : DFun E) (L : LFun E) (a0 : Int) (a1 : Int) (a2 : Int) : spec_l1In (stepD E D L) (a0, a1, a2) = spec_l1In_raw D L a0 a1 a2 := by kernel_rfl
theorem spec_l1In_of (a0 : Int) (a1 : Int) (a2 : Int) {o : Bool} (h : spec_l1In_raw w wl a0 a1 a2 = some o) : spec_l1In w (a0, a1, a2) = some o := ap_close _ _ (spec_l1In_raw_eq w wl a0 a1 a2) h
noncomputable def impl_within_raw (D : DFun E) (L : LFun E) (a0 : Int) (a1 : Int) (a2 : Int) : Option (Bool) :=
 bif (decide (a1 ≤ a0)) then (some (decide (a0 ≤ a2)))
 else (some false)
theorem impl_within_raw_eq (D : DFun E) (L : LFun E) (a0 : Int) (a1 : Int) (a2 : Int) : impl_within (stepD E D L) (a0, a1, a2) = impl_within_raw D L a0 a1 a2 := by kernel_rfl
theorem impl_within_of (a0 : Int) (a1 : Int) (a2 : Int) {o : Bool} (h : impl_within_raw w wl a0 a1 a2 = some o) : impl_within w (a0, a1, a2) = some o := ap_close _ _ (impl_within_raw_eq w wl a0 a1 a2) h
noncomputable def laws_szState_raw (D : DFun E) (L : LFun E) (a0 : List XItem) (a1 : List XFloor) (a2 : Int) : Option (Int) :=
 Option.bind (laws_szItemS D (a0, a2)) fun r1 =>
 bif (decide (r1 < 0)) then (some (-1))
 else (Option.bind (laws_szFloorS D (a1, r1)) fun r2 =>
 bif (decide (r2 < 0)) then (some (-1))
 else (some r2))
theorem laws_szState_raw_eq (D : DFun E) (L : LFun E) (a0 : List XItem) (a1 : List XFloor) (a2 : Int) : laws_szState (stepD E D L) (a0, a1, a2) = laws_szState_raw D L a0 a1 a2 := by kernel_rfl
theorem laws_szState_of (a0 : List XItem) (a1 : List XFloor) (a2 : Int) {o : Int} (h : laws_szState_raw w wl a0 a1 a2 = some o) : laws_szState w (a0, a1, a2) = some o := ap_close _ _ (laws_szState_raw_eq w wl a0 a1 a2) h
noncomputable def spec_EntryOf_l0 (D : DFun E) (L : LFun E) (y0 : Int) (y1 : Int) (y2 : List XItem) (y3 : List XFloor) : Option (((Bool × Int × Int × Int × Int × ByteArray)) ⊕ Unit) :=
 bif (decide (y1 < (((List.length y2) : Nat) : Int))) then (bif inb y1 (List.length y2) then
 let e1 := (rd1 zItem y2 y1)
 bif (decide (e1.1 = y0)) then (bif inb y1 (List.length y2) then
 let e2 := (rd1 zItem y2 y1)
 some (Sum.inl (true, e2.2.1, e2.2.2.1, e2.2.2.2.1, e2.2.2.2.2.1, e2.2.2.2.2.2)) else none)
 else (spec_EntryOf_k0 L (y0, (IntKind.wrap .i64 (y1 + 1)), y2, y3)) else none)
 else (some (Sum.inr ()))
theorem spec_EntryOf_l0_eq (D : DFun E) (L : LFun E) (y0 : Int) (y1 : Int) (y2 : List XItem) (y3 : List XFloor) : spec_EntryOf_k0 (stepL E D L) (y0, y1, y2, y3) = spec_EntryOf_l0 D L y0 y1 y2 y3 := by kernel_rfl
theorem spec_EntryOf_l0_of (y0 : Int) (y1 : Int) (y2 : List XItem) (y3 : List XFloor) {o : ((Bool × Int × Int × Int × Int × ByteArray)) ⊕ Unit} (h : spec_EntryOf_l0 w wl y0 y1 y2 y3 = some o) : spec_EntryOf_k0 wl (y0, y1, y2, y3) = some o := apL_close _ _ (spec_EntryOf_l0_eq w wl y0 y1 y2 y3) h
noncomputable def spec_EntryOf_raw (D : DFun E) (L : LFun E) (a0 : List XItem) (a1 : List XFloor) (a2 : Int) : Option ((Int × Int × Int × Int × ByteArray × Bool)) :=
 Option.bind (spec_EntryOf_k0 L (a2, 0, a0, a1)) fun z3 =>
 elimS z3 (fun u4 =>
 some (u4.2.1, u4.2.2.1, u4.2.2.2.1, u4.2.2.2.2.1, u4.2.2.2.2.2, u4.1))
 (fun z5 =>
 some (0, 0, 0, 0, ByteArray.empty, false))
theorem spec_EntryOf_raw_eq (D : DFun E) (L : LFun E) (a0 : List XItem) (a1 : List XFloor) (a2 : Int) : spec_EntryOf (stepD E D L) (a0, a1, a2) = spec_EntryOf_raw D L a0 a1 a2 := by kernel_rfl
theorem spec_EntryOf_of (a0 : List XItem) (a1 : List XFloor) (a2 : Int) {o : (Int × Int × Int × Int × ByteArray × Bool)} (h : spec_EntryOf_raw w wl a0 a1 a2 = some o) : spec_EntryOf w (a0, a1, a2) = some o := ap_close _ _ (spec_EntryOf_raw_eq w wl a0 a1 a2) h
noncomputable def spec_StateOk_l0 (D : DFun E) (L : LFun E) (y0 : Int) (y1 : List XItem) (y2 : List XFloor) : Option (Bool ⊕ XState) :=
 bif (decide (y0 < (((List.length y1) : Nat) : Int))) then (bif inb y0 (List.length y1) then
 let e1 := (rd1 zItem y1 y0)
 Option.bind (spec_l3Node D e1.1) fun r2 =>
 bif (!r2) then (some (Sum.inl false))
 else (bif (decide (0 < y0)) then (bif inb (IntKind.wrap .i64 (y0 - 1)) (List.length y1) then
 let e3 := (rd1 zItem y1 (IntKind.wrap .i64 (y0 - 1)))
 bif (decide (e1.1 ≤ e3.1)) then (some (Sum.inl false))
 else (Option.bind (spec_EntryOk D (e1.2.1, e1.2.2.1, e1.2.2.2.1, e1.2.2.2.2.1, e1.2.2.2.2.2)) fun r4 =>
 bif (!r4) then (some (Sum.inl false))
 else (Option.bind (spec_FloorOf D (y1, y2, e1.1)) fun r5 =>
 bif (decide (e1.2.1 ≤ r5)) then (some (Sum.inl false))
 else (spec_StateOk_k0 L ((IntKind.wrap .i64 (y0 + 1)), y1, y2)))) else none)
 else (Option.bind (spec_EntryOk D (e1.2.1, e1.2.2.1, e1.2.2.2.1, e1.2.2.2.2.1, e1.2.2.2.2.2)) fun r6 =>
 bif (!r6) then (some (Sum.inl false))
 else (Option.bind (spec_FloorOf D (y1, y2, e1.1)) fun r7 =>
 bif (decide (e1.2.1 ≤ r7)) then (some (Sum.inl false))
 else (spec_StateOk_k0 L ((IntKind.wrap .i64 (y0 + 1)), y1, y2))))) else none)
 else (some (Sum.inr (y1, y2)))
theorem spec_StateOk_l0_eq (D : DFun E) (L : LFun E) (y0 : Int) (y1 : List XItem) (y2 : List XFloor) : spec_StateOk_k0 (stepL E D L) (y0, y1, y2) = spec_StateOk_l0 D L y0 y1 y2 := by kernel_rfl
theorem spec_StateOk_l0_of (y0 : Int) (y1 : List XItem) (y2 : List XFloor) {o : Bool ⊕ XState} (h : spec_StateOk_l0 w wl y0 y1 y2 = some o) : spec_StateOk_k0 wl (y0, y1, y2) = some o := apL_close _ _ (spec_StateOk_l0_eq w wl y0 y1 y2) h
noncomputable def spec_StateOk_l2 (D : DFun E) (L : LFun E) (y0 : Int) (y1 : List XItem) (y2 : List XFloor) : Option (Bool ⊕ Unit) :=
 bif (decide (y0 < (((List.length y2) : Nat) : Int))) then (bif inb y0 (List.length y2) then
 let e11 := (rd1 zFloor y2 y0)
 Option.bind (spec_l3Node D e11.1) fun r12 =>
 bif (!r12) then (some (Sum.inl false))
 else (bif (decide (0 < y0)) then (bif inb (IntKind.wrap .i64 (y0 - 1)) (List.length y2) then
 let e13 := (rd1 zFloor y2 (IntKind.wrap .i64 (y0 - 1)))
 bif (decide (e11.1 ≤ e13.1)) then (some (Sum.inl false))
 else (Option.bind (spec_l1In D (e11.2, 1, 1000)) fun r14 =>
 bif (!r14) then (some (Sum.inl false))
 else (spec_StateOk_k2 L ((IntKind.wrap .i64 (y0 + 1)), y1, y2))) else none)
 else (Option.bind (spec_l1In D (e11.2, 1, 1000)) fun r15 =>
 bif (!r15) then (some (Sum.inl false))
 else (spec_StateOk_k2 L ((IntKind.wrap .i64 (y0 + 1)), y1, y2)))) else none)
 else (some (Sum.inr ()))
theorem spec_StateOk_l2_eq (D : DFun E) (L : LFun E) (y0 : Int) (y1 : List XItem) (y2 : List XFloor) : spec_StateOk_k2 (stepL E D L) (y0, y1, y2) = spec_StateOk_l2 D L y0 y1 y2 := by kernel_rfl
theorem spec_StateOk_l2_of (y0 : Int) (y1 : List XItem) (y2 : List XFloor) {o : Bool ⊕ Unit} (h : spec_StateOk_l2 w wl y0 y1 y2 = some o) : spec_StateOk_k2 wl (y0, y1, y2) = some o := apL_close _ _ (spec_StateOk_l2_eq w wl y0 y1 y2) h
noncomputable def spec_StateOk_raw (D : DFun E) (L : LFun E) (a0 : List XItem) (a1 : List XFloor) : Option (Bool) :=
 Option.bind (spec_StateOk_k0 L (0, a0, a1)) fun z8 =>
 elimS z8 (fun u9 =>
 some u9)
 (fun z10 =>
 Option.bind (spec_StateOk_k2 L (0, z10.1, z10.2)) fun z16 =>
 elimS z16 (fun u17 =>
 some u17)
 (fun z18 =>
 some true))
theorem spec_StateOk_raw_eq (D : DFun E) (L : LFun E) (a0 : List XItem) (a1 : List XFloor) : spec_StateOk (stepD E D L) (a0, a1) = spec_StateOk_raw D L a0 a1 := by kernel_rfl
theorem spec_StateOk_of (a0 : List XItem) (a1 : List XFloor) {o : Bool} (h : spec_StateOk_raw w wl a0 a1 = some o) : spec_StateOk w (a0, a1) = some o := ap_close _ _ (spec_StateOk_raw_eq w wl a0 a1) h
noncomputable def spec_l1Max_raw (D : DFun E) (L : LFun E) (a0 : Int) (a1 : Int) : Option (Int) :=
 bif (decide (a1 < a0)) then (some a0)
 else (some a1)
theorem spec_l1Max_raw_eq (D : DFun E) (L : LFun E) (a0 : Int) (a1 : Int) : spec_l1Max (stepD E D L) (a0, a1) = spec_l1Max_raw D L a0 a1 := by kernel_rfl
theorem spec_l1Max_of (a0 : Int) (a1 : Int) {o : Int} (h : spec_l1Max_raw w wl a0 a1 = some o) : spec_l1Max w (a0, a1) = some o := ap_close _ _ (spec_l1Max_raw_eq w wl a0 a1) h
noncomputable def laws_toState_raw (D : DFun E) (L : LFun E) (a0 : List XItem) (a1 : List XFloor) : Option (XState) :=
 Option.bind (laws_toItemS D a0) fun r1 =>
 Option.bind (laws_toFloorS D a1) fun r2 =>
 some (r1, r2)
theorem laws_toState_raw_eq (D : DFun E) (L : LFun E) (a0 : List XItem) (a1 : List XFloor) : laws_toState (stepD E D L) (a0, a1) = laws_toState_raw D L a0 a1 := by kernel_rfl
theorem laws_toState_of (a0 : List XItem) (a1 : List XFloor) {o : XState} (h : laws_toState_raw w wl a0 a1 = some o) : laws_toState w (a0, a1) = some o := ap_close _ _ (laws_toState_raw_eq w wl a0 a1) h
noncomputable def impl_EntryOf_l0 (D : DFun E) (L : LFun E) (y0 : Int) (y1 : List XItem) (y2 : Int) (y3 : Int) : Option (((Bool × Int × Int × Int × Int × ByteArray)) ⊕ Unit) :=
 bif (decide (y3 < y2)) then (bif inb y3 (List.length y1) then
 let e1 := (rd1 zItem y1 y3)
 bif (decide (e1.1 = y0)) then (some (Sum.inl (true, e1.2.1, e1.2.2.1, e1.2.2.2.1, e1.2.2.2.2.1, e1.2.2.2.2.2)))
 else (impl_EntryOf_k0 L (y0, y1, y2, (IntKind.wrap .i64 (y3 + 1)))) else none)
 else (some (Sum.inr ()))
theorem impl_EntryOf_l0_eq (D : DFun E) (L : LFun E) (y0 : Int) (y1 : List XItem) (y2 : Int) (y3 : Int) : impl_EntryOf_k0 (stepL E D L) (y0, y1, y2, y3) = impl_EntryOf_l0 D L y0 y1 y2 y3 := by kernel_rfl
theorem impl_EntryOf_l0_of (y0 : Int) (y1 : List XItem) (y2 : Int) (y3 : Int) {o : ((Bool × Int × Int × Int × Int × ByteArray)) ⊕ Unit} (h : impl_EntryOf_l0 w wl y0 y1 y2 y3 = some o) : impl_EntryOf_k0 wl (y0, y1, y2, y3) = some o := apL_close _ _ (impl_EntryOf_l0_eq w wl y0 y1 y2 y3) h
noncomputable def impl_EntryOf_raw (D : DFun E) (L : LFun E) (a0 : List XItem) (a1 : List XFloor) (a2 : Int) : Option ((Int × Int × Int × Int × ByteArray × Bool)) :=
 Option.bind (impl_EntryOf_k0 L (a2, a0, (((List.length a0) : Nat) : Int), 0)) fun z2 =>
 elimS z2 (fun u3 =>
 some (u3.2.1, u3.2.2.1, u3.2.2.2.1, u3.2.2.2.2.1, u3.2.2.2.2.2, u3.1))
 (fun z4 =>
 some (0, 0, 0, 0, ByteArray.empty, false))
theorem impl_EntryOf_raw_eq (D : DFun E) (L : LFun E) (a0 : List XItem) (a1 : List XFloor) (a2 : Int) : impl_EntryOf (stepD E D L) (a0, a1, a2) = impl_EntryOf_raw D L a0 a1 a2 := by kernel_rfl
theorem impl_EntryOf_of (a0 : List XItem) (a1 : List XFloor) (a2 : Int) {o : (Int × Int × Int × Int × ByteArray × Bool)} (h : impl_EntryOf_raw w wl a0 a1 a2 = some o) : impl_EntryOf w (a0, a1, a2) = some o := ap_close _ _ (impl_EntryOf_raw_eq w wl a0 a1 a2) h
noncomputable def impl_StateOk_l0 (D : DFun E) (L : LFun E) (y0 : List XFloor) (y1 : Int) (y2 : Int) (y3 : List XItem) (y4 : List XFloor) : Option (Bool ⊕ XState) :=
 bif (decide (y2 < y1)) then (bif inb y2 (List.length y0) then
 let e1 := (rd1 zFloor y0 y2)
 Option.bind (impl_isNode D e1.1) fun r2 =>
 bif (!r2) then (some (Sum.inl false))
 else (Option.bind (impl_within D (e1.2, 1, 1000)) fun r3 =>
 bif (!r3) then (some (Sum.inl false))
 else (bif (decide (0 < y2)) then (bif inb (IntKind.wrap .i64 (y2 - 1)) (List.length y4) then
 let e4 := (rd1 zFloor y4 (IntKind.wrap .i64 (y2 - 1)))
 bif (decide (e1.1 ≤ e4.1)) then (some (Sum.inl false))
 else (impl_StateOk_k0 L (y0, y1, (IntKind.wrap .i64 (y2 + 1)), y3, y4)) else none)
 else (impl_StateOk_k0 L (y0, y1, (IntKind.wrap .i64 (y2 + 1)), y3, y4)))) else none)
 else (some (Sum.inr (y3, y4)))
theorem impl_StateOk_l0_eq (D : DFun E) (L : LFun E) (y0 : List XFloor) (y1 : Int) (y2 : Int) (y3 : List XItem) (y4 : List XFloor) : impl_StateOk_k0 (stepL E D L) (y0, y1, y2, y3, y4) = impl_StateOk_l0 D L y0 y1 y2 y3 y4 := by kernel_rfl
theorem impl_StateOk_l0_of (y0 : List XFloor) (y1 : Int) (y2 : Int) (y3 : List XItem) (y4 : List XFloor) {o : Bool ⊕ XState} (h : impl_StateOk_l0 w wl y0 y1 y2 y3 y4 = some o) : impl_StateOk_k0 wl (y0, y1, y2, y3, y4) = some o := apL_close _ _ (impl_StateOk_l0_eq w wl y0 y1 y2 y3 y4) h
noncomputable def impl_StateOk_l2 (D : DFun E) (L : LFun E) (y0 : List XItem) (y1 : Int) (y2 : Int) (y3 : List XItem) (y4 : List XFloor) : Option (Bool ⊕ Unit) :=
 bif (decide (y2 < y1)) then (bif inb y2 (List.length y0) then
 let e8 := (rd1 zItem y0 y2)
 Option.bind (impl_isNode D e8.1) fun r9 =>
 bif (!r9) then (some (Sum.inl false))
 else (Option.bind (impl_EntryOk D (e8.2.1, e8.2.2.1, e8.2.2.2.1, e8.2.2.2.2.1, e8.2.2.2.2.2)) fun r10 =>
 bif (!r10) then (some (Sum.inl false))
 else (Option.bind (impl_FloorOf D (y3, y4, e8.1)) fun r11 =>
 bif (decide (e8.2.1 ≤ r11)) then (some (Sum.inl false))
 else (bif (decide (0 < y2)) then (bif inb (IntKind.wrap .i64 (y2 - 1)) (List.length y3) then
 let e12 := (rd1 zItem y3 (IntKind.wrap .i64 (y2 - 1)))
 bif (decide (e8.1 ≤ e12.1)) then (some (Sum.inl false))
 else (impl_StateOk_k2 L (y0, y1, (IntKind.wrap .i64 (y2 + 1)), y3, y4)) else none)
 else (impl_StateOk_k2 L (y0, y1, (IntKind.wrap .i64 (y2 + 1)), y3, y4))))) else none)
 else (some (Sum.inr ()))
theorem impl_StateOk_l2_eq (D : DFun E) (L : LFun E) (y0 : List XItem) (y1 : Int) (y2 : Int) (y3 : List XItem) (y4 : List XFloor) : impl_StateOk_k2 (stepL E D L) (y0, y1, y2, y3, y4) = impl_StateOk_l2 D L y0 y1 y2 y3 y4 := by kernel_rfl
theorem impl_StateOk_l2_of (y0 : List XItem) (y1 : Int) (y2 : Int) (y3 : List XItem) (y4 : List XFloor) {o : Bool ⊕ Unit} (h : impl_StateOk_l2 w wl y0 y1 y2 y3 y4 = some o) : impl_StateOk_k2 wl (y0, y1, y2, y3, y4) = some o := apL_close _ _ (impl_StateOk_l2_eq w wl y0 y1 y2 y3 y4) h
noncomputable def impl_StateOk_raw (D : DFun E) (L : LFun E) (a0 : List XItem) (a1 : List XFloor) : Option (Bool) :=
 Option.bind (impl_StateOk_k0 L (a1, (((List.length a1) : Nat) : Int), 0, a0, a1)) fun z5 =>
 elimS z5 (fun u6 =>
 some u6)
 (fun z7 =>
 Option.bind (impl_StateOk_k2 L (z7.1, (((List.length z7.1) : Nat) : Int), 0, z7.1, z7.2)) fun z13 =>
 elimS z13 (fun u14 =>
 some u14)
 (fun z15 =>
 some true))
theorem impl_StateOk_raw_eq (D : DFun E) (L : LFun E) (a0 : List XItem) (a1 : List XFloor) : impl_StateOk (stepD E D L) (a0, a1) = impl_StateOk_raw D L a0 a1 := by kernel_rfl
theorem impl_StateOk_of (a0 : List XItem) (a1 : List XFloor) {o : Bool} (h : impl_StateOk_raw w wl a0 a1 = some o) : impl_StateOk w (a0, a1) = some o := ap_close _ _ (impl_StateOk_raw_eq w wl a0 a1) h
noncomputable def laws_eqState_raw (D : DFun E) (L : LFun E) (a0 : List XItem) (a1 : List XFloor) (a2 : List XItem) (a3 : List XFloor) : Option (Bool) :=
 Option.bind (laws_eqItemS D (a0, a2)) fun r1 =>
 bif (!r1) then (some false)
 else (Option.bind (laws_eqFloorS D (a1, a3)) fun r2 =>
 bif (!r2) then (some false)
 else (some true))
theorem laws_eqState_raw_eq (D : DFun E) (L : LFun E) (a0 : List XItem) (a1 : List XFloor) (a2 : List XItem) (a3 : List XFloor) : laws_eqState (stepD E D L) (a0, a1, a2, a3) = laws_eqState_raw D L a0 a1 a2 a3 := by kernel_rfl
theorem laws_eqState_of (a0 : List XItem) (a1 : List XFloor) (a2 : List XItem) (a3 : List XFloor) {o : Bool} (h : laws_eqState_raw w wl a0 a1 a2 a3 = some o) : laws_eqState w (a0, a1, a2, a3) = some o := ap_close _ _ (laws_eqState_raw_eq w wl a0 a1 a2 a3) h
noncomputable def laws_eqItem_raw (D : DFun E) (L : LFun E) (a0 : Int) (a1 : Int) (a2 : Int) (a3 : Int) (a4 : Int) (a5 : ByteArray) (a6 : Int) (a7 : Int) (a8 : Int) (a9 : Int) (a10 : Int) (a11 : ByteArray) : Option (Bool) :=
 bif (!decide (a0 = a6)) then (some false)
 else (Option.bind (laws_eqEntry D (a1, a2, a3, a4, a5, a7, a8, a9, a10, a11)) fun r1 =>
 bif (!r1) then (some false)
 else (some true))
theorem laws_eqItem_raw_eq (D : DFun E) (L : LFun E) (a0 : Int) (a1 : Int) (a2 : Int) (a3 : Int) (a4 : Int) (a5 : ByteArray) (a6 : Int) (a7 : Int) (a8 : Int) (a9 : Int) (a10 : Int) (a11 : ByteArray) : laws_eqItem (stepD E D L) (a0, a1, a2, a3, a4, a5, a6, a7, a8, a9, a10, a11) = laws_eqItem_raw D L a0 a1 a2 a3 a4 a5 a6 a7 a8 a9 a10 a11 := by kernel_rfl
theorem laws_eqItem_of (a0 : Int) (a1 : Int) (a2 : Int) (a3 : Int) (a4 : Int) (a5 : ByteArray) (a6 : Int) (a7 : Int) (a8 : Int) (a9 : Int) (a10 : Int) (a11 : ByteArray) {o : Bool} (h : laws_eqItem_raw w wl a0 a1 a2 a3 a4 a5 a6 a7 a8 a9 a10 a11 = some o) : laws_eqItem w (a0, a1, a2, a3, a4, a5, a6, a7, a8, a9, a10, a11) = some o := ap_close _ _ (laws_eqItem_raw_eq w wl a0 a1 a2 a3 a4 a5 a6 a7 a8 a9 a10 a11) h
noncomputable def laws_szItemS_l0 (D : DFun E) (L : LFun E) (y0 : List XItem) (y1 : Int) (y2 : Int) : Option (Int ⊕ Int) :=
 bif (decide (y2 < (((List.length y0) : Nat) : Int))) then (bif inb y2 (List.length y0) then
 let e1 := (rd1 zItem y0 y2)
 Option.bind (laws_szItem D (e1.1, e1.2.1, e1.2.2.1, e1.2.2.2.1, e1.2.2.2.2.1, e1.2.2.2.2.2, y1)) fun r2 =>
 bif (decide (r2 < 0)) then (some (Sum.inl (-1)))
 else (laws_szItemS_k0 L (y0, r2, (IntKind.wrap .i64 (y2 + 1)))) else none)
 else (some (Sum.inr y1))
theorem laws_szItemS_l0_eq (D : DFun E) (L : LFun E) (y0 : List XItem) (y1 : Int) (y2 : Int) : laws_szItemS_k0 (stepL E D L) (y0, y1, y2) = laws_szItemS_l0 D L y0 y1 y2 := by kernel_rfl
theorem laws_szItemS_l0_of (y0 : List XItem) (y1 : Int) (y2 : Int) {o : Int ⊕ Int} (h : laws_szItemS_l0 w wl y0 y1 y2 = some o) : laws_szItemS_k0 wl (y0, y1, y2) = some o := apL_close _ _ (laws_szItemS_l0_eq w wl y0 y1 y2) h
noncomputable def laws_szItemS_raw (D : DFun E) (L : LFun E) (a0 : List XItem) (a1 : Int) : Option (Int) :=
 bif (decide ((IntKind.wrap .i64 (a1 - (((List.length a0) : Nat) : Int))) < 0)) then (some (-1))
 else (Option.bind (laws_szItemS_k0 L (a0, (IntKind.wrap .i64 (a1 - (((List.length a0) : Nat) : Int))), 0)) fun z3 =>
 elimS z3 (fun u4 =>
 some u4)
 (fun z5 =>
 some z5))
theorem laws_szItemS_raw_eq (D : DFun E) (L : LFun E) (a0 : List XItem) (a1 : Int) : laws_szItemS (stepD E D L) (a0, a1) = laws_szItemS_raw D L a0 a1 := by kernel_rfl
theorem laws_szItemS_of (a0 : List XItem) (a1 : Int) {o : Int} (h : laws_szItemS_raw w wl a0 a1 = some o) : laws_szItemS w (a0, a1) = some o := ap_close _ _ (laws_szItemS_raw_eq w wl a0 a1) h
noncomputable def laws_szFloorS_raw (D : DFun E) (L : LFun E) (a0 : List XFloor) (a1 : Int) : Option (Int) :=
 bif (decide ((IntKind.wrap .i64 (a1 - (((List.length a0) : Nat) : Int))) < 0)) then (some (-1))
 else (some (IntKind.wrap .i64 (a1 - (((List.length a0) : Nat) : Int))))
theorem laws_szFloorS_raw_eq (D : DFun E) (L : LFun E) (a0 : List XFloor) (a1 : Int) : laws_szFloorS (stepD E D L) (a0, a1) = laws_szFloorS_raw D L a0 a1 := by kernel_rfl
theorem laws_szFloorS_of (a0 : List XFloor) (a1 : Int) {o : Int} (h : laws_szFloorS_raw w wl a0 a1 = some o) : laws_szFloorS w (a0, a1) = some o := ap_close _ _ (laws_szFloorS_raw_eq w wl a0 a1) h
noncomputable def spec_l3Node_raw (D : DFun E) (L : LFun E) (a0 : Int) : Option (Bool) :=
 Option.bind (spec_l1In D (a0, 0, 4)) fun r1 =>
 some r1
theorem spec_l3Node_raw_eq (D : DFun E) (L : LFun E) (a0 : Int) : spec_l3Node (stepD E D L) a0 = spec_l3Node_raw D L a0 := by kernel_rfl
theorem spec_l3Node_of (a0 : Int) {o : Bool} (h : spec_l3Node_raw w wl a0 = some o) : spec_l3Node w a0 = some o := ap_close _ _ (spec_l3Node_raw_eq w wl a0) h
end Go.Proofs.Ytgkobeililjgbaa.M
