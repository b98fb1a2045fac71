/- Plain forms of the functions that FnExactPlain reaches, part 0. No conditions. -/
import Derived.Test.YtgkobeililjgbaaFnExactPlainTab
namespace Go.Proofs.Ytgkobeililjgbaa.M
open Go Go.Eng Go.Proofs
set_option linter.unusedVariables false
noncomputable def laws_FnExactPlain_raw (D : DFun E) (L : LFun E) (a0 : List XState) : Option (Bool) :=
 Option.bind (laws_szStateS D (a0, 1048576)) fun r1 =>
 bif (decide (r1 < 0)) then (some true)
 else (Option.bind (laws_toStateS D a0) fun r2 =>
 Option.bind (spec_Plain D r2) fun r3 =>
 Option.bind (laws_toStateS D a0) fun r4 =>
 Option.bind (impl_Plain D r4) fun r5 =>
 Option.bind (laws_eqItemS D (r5, r3)) fun r6 =>
 bif (!r6) then (some false)
 else (Option.bind (laws_toStateS D a0) fun r7 =>
 Option.bind (laws_eqStateS D (r4, r7)) fun r8 =>
 bif (!r8) then (some false)
 else (Option.bind (laws_markStateS D (r4, 1)) fun r9 =>
 bif (decide (r9.1 < 0)) then (some false)
 else (Option.bind (laws_eqItemS D (r5, r3)) fun r10 =>
 bif (!r10) then (some false)
 else (Option.bind (laws_markItemS D (r5, 1)) fun r11 =>
 Option.bind (laws_heldItemS D (r11.2, 1)) fun r12 =>
 bif (decide (r12 < 0)) then (some false)
 else (bif (!decide (r12 = r11.1)) then (some false)
 else (Option.bind (laws_toStateS D a0) fun r13 =>
 Option.bind (impl_Plain D r13) fun r14 =>
 Option.bind (laws_eqItemS D (r14, r3)) fun r15 =>
 bif (!r15) then (some false)
 else (Option.bind (laws_heldItemS D (r11.2, 1)) fun r16 =>
 bif (decide (r16 < 0)) then (some false)
 else (bif (!decide (r16 = r11.1)) then (some false)
 else (some true))))))))))
theorem laws_FnExactPlain_raw_eq (D : DFun E) (L : LFun E) (a0 : List XState) : laws_FnExactPlain (stepD E D L) a0 = laws_FnExactPlain_raw D L a0 := by kernel_rfl
theorem laws_FnExactPlain_of (a0 : List XState) {o : Bool} (h : laws_FnExactPlain_raw w wl a0 = some o) : laws_FnExactPlain w a0 = some o := ap_close _ _ (laws_FnExactPlain_raw_eq w wl a0) h
noncomputable def laws_szStateS_l0 (D : DFun E) (L : LFun E) (y0 : List XState) (y1 : Int) (y2 : Int) : Option (Int ⊕ Int) :=
 bif (decide (y2 < (((List.length y0) : Nat) : Int))) then (bif inb y2 (List.length y0) then
 let e1 := (rd1 zState y0 y2)
 Option.bind (laws_szState D (e1.1, e1.2, y1)) fun r2 =>
 bif (decide (r2 < 0)) then (some (Sum.inl (-1)))
 else (laws_szStateS_k0 L (y0, r2, (IntKind.wrap .i64 (y2 + 1)))) else none)
 else (some (Sum.inr y1))
theorem laws_szStateS_l0_eq (D : DFun E) (L : LFun E) (y0 : List XState) (y1 : Int) (y2 : Int) : laws_szStateS_k0 (stepL E D L) (y0, y1, y2) = laws_szStateS_l0 D L y0 y1 y2 := by kernel_rfl
theorem laws_szStateS_l0_of (y0 : List XState) (y1 : Int) (y2 : Int) {o : Int ⊕ Int} (h : laws_szStateS_l0 w wl y0 y1 y2 = some o) : laws_szStateS_k0 wl (y0, y1, y2) = some o := apL_close _ _ (laws_szStateS_l0_eq w wl y0 y1 y2) h
noncomputable def laws_szStateS_raw (D : DFun E) (L : LFun E) (a0 : List XState) (a1 : Int) : Option (Int) :=
 bif (decide ((IntKind.wrap .i64 (a1 - (((List.length a0) : Nat) : Int))) < 0)) then (some (-1))
 else (Option.bind (laws_szStateS_k0 L (a0, (IntKind.wrap .i64 (a1 - (((List.length a0) : Nat) : Int))), 0)) fun z3 =>
 elimS z3 (fun u4 =>
 some u4)
 (fun z5 =>
 some z5))
theorem laws_szStateS_raw_eq (D : DFun E) (L : LFun E) (a0 : List XState) (a1 : Int) : laws_szStateS (stepD E D L) (a0, a1) = laws_szStateS_raw D L a0 a1 := by kernel_rfl
theorem laws_szStateS_of (a0 : List XState) (a1 : Int) {o : Int} (h : laws_szStateS_raw w wl a0 a1 = some o) : laws_szStateS w (a0, a1) = some o := ap_close _ _ (laws_szStateS_raw_eq w wl a0 a1) h
noncomputable def laws_toStateS_l0 (D : DFun E) (L : LFun E) (y0 : List XState) (y1 : Int) (y2 : List XState) : Option ((List XState)) :=
 bif (decide (y1 < (((List.length y0) : Nat) : Int))) then (bif inb y1 (List.length y0) then
 let e1 := (rd1 zState y0 y1)
 Option.bind (laws_toState D (e1.1, e1.2)) fun r2 =>
 bif inb y1 (List.length y2) then
 let l3 := List.set y2 (Int.toNat y1) (r2.1, r2.2)
 laws_toStateS_k0 L (y0, (IntKind.wrap .i64 (y1 + 1)), l3) else none else none)
 else (some y2)
theorem laws_toStateS_l0_eq (D : DFun E) (L : LFun E) (y0 : List XState) (y1 : Int) (y2 : List XState) : laws_toStateS_k0 (stepL E D L) (y0, y1, y2) = laws_toStateS_l0 D L y0 y1 y2 := by kernel_rfl
theorem laws_toStateS_l0_of (y0 : List XState) (y1 : Int) (y2 : List XState) {o : (List XState)} (h : laws_toStateS_l0 w wl y0 y1 y2 = some o) : laws_toStateS_k0 wl (y0, y1, y2) = some o := apL_close _ _ (laws_toStateS_l0_eq w wl y0 y1 y2) h
noncomputable def laws_toStateS_raw (D : DFun E) (L : LFun E) (a0 : List XState) : Option (List XState) :=
 bif (decide ((0 : Int) ≤ (((List.length a0) : Nat) : Int) ∧ ((((List.length a0) : Nat) : Int) : Int) = (((List.length a0) : Nat) : Int)) && fits (Int.toNat (((List.length a0) : Nat) : Int)) 48) then
 Option.bind (laws_toStateS_k0 L (a0, 0, (List.replicate (Int.toNat (((List.length a0) : Nat) : Int)) ([], [])))) fun z4 =>
 some z4 else none
theorem laws_toStateS_raw_eq (D : DFun E) (L : LFun E) (a0 : List XState) : laws_toStateS (stepD E D L) a0 = laws_toStateS_raw D L a0 := by kernel_rfl
theorem laws_toStateS_of (a0 : List XState) {o : List XState} (h : laws_toStateS_raw w wl a0 = some o) : laws_toStateS w a0 = some o := ap_close _ _ (laws_toStateS_raw_eq w wl a0) h
noncomputable def laws_eqStateS_l0 (D : DFun E) (L : LFun E) (y0 : List XState) (y1 : List XState) (y2 : Int) : Option (Bool ⊕ Unit) :=
 bif (decide (y2 < (((List.length y0) : Nat) : Int))) then (bif inb y2 (List.length y0) then
 let e1 := (rd1 zState y0 y2)
 bif inb y2 (List.length y1) then
 let e2 := (rd1 zState y1 y2)
 Option.bind (laws_eqState D (e1.1, e1.2, e2.1, e2.2)) fun r3 =>
 bif (!r3) then (some (Sum.inl false))
 else (laws_eqStateS_k0 L (y0, y1, (IntKind.wrap .i64 (y2 + 1)))) else none else none)
 else (some (Sum.inr ()))
theorem laws_eqStateS_l0_eq (D : DFun E) (L : LFun E) (y0 : List XState) (y1 : List XState) (y2 : Int) : laws_eqStateS_k0 (stepL E D L) (y0, y1, y2) = laws_eqStateS_l0 D L y0 y1 y2 := by kernel_rfl
theorem laws_eqStateS_l0_of (y0 : List XState) (y1 : List XState) (y2 : Int) {o : Bool ⊕ Unit} (h : laws_eqStateS_l0 w wl y0 y1 y2 = some o) : laws_eqStateS_k0 wl (y0, y1, y2) = some o := apL_close _ _ (laws_eqStateS_l0_eq w wl y0 y1 y2) h
noncomputable def laws_eqStateS_raw (D : DFun E) (L : LFun E) (a0 : List XState) (a1 : List XState) : Option (Bool) :=
 bif (!decide ((((List.length a0) : Nat) : Int) = (((List.length a1) : Nat) : Int))) then (some false)
 else (Option.bind (laws_eqStateS_k0 L (a0, a1, 0)) fun z4 =>
 elimS z4 (fun u5 =>
 some u5)
 (fun z6 =>
 some true))
theorem laws_eqStateS_raw_eq (D : DFun E) (L : LFun E) (a0 : List XState) (a1 : List XState) : laws_eqStateS (stepD E D L) (a0, a1) = laws_eqStateS_raw D L a0 a1 := by kernel_rfl
theorem laws_eqStateS_of (a0 : List XState) (a1 : List XState) {o : Bool} (h : laws_eqStateS_raw w wl a0 a1 = some o) : laws_eqStateS w (a0, a1) = some o := ap_close _ _ (laws_eqStateS_raw_eq w wl a0 a1) h
noncomputable def spec_Plain_l0 (D : DFun E) (L : LFun E) (y0 : List XState) (y1 : Int) (y2 : List XItem) : Option ((List XItem)) :=
 bif (decide (y1 < 5)) then (Option.bind (spec_Plain_k2 L (y0, y1, false, 0, y2, 0, 0, 0, 0, ByteArray.empty)) fun z6 =>
 bif z6.2.2.1 then (bif (decide (z6.2.2.2.2.2.1 = 0)) then (bif fits (List.length z6.2.2.2.1 + List.length ([(z6.2.1, z6.2.2.2.2.1, z6.2.2.2.2.2.1, z6.2.2.2.2.2.2.1, z6.2.2.2.2.2.2.2.1, z6.2.2.2.2.2.2.2.2)] : List XItem)) 56 then
 spec_Plain_k0 L (z6.1, (IntKind.wrap .i64 (z6.2.1 + 1)), (z6.2.2.2.1 ++ ([(z6.2.1, z6.2.2.2.2.1, z6.2.2.2.2.2.1, z6.2.2.2.2.2.2.1, z6.2.2.2.2.2.2.2.1, z6.2.2.2.2.2.2.2.2)] : List XItem))) else none)
 else (spec_Plain_k0 L (z6.1, (IntKind.wrap .i64 (z6.2.1 + 1)), z6.2.2.2.1)))
 else (spec_Plain_k0 L (z6.1, (IntKind.wrap .i64 (z6.2.1 + 1)), z6.2.2.2.1)))
 else (some y2)
theorem spec_Plain_l0_eq (D : DFun E) (L : LFun E) (y0 : List XState) (y1 : Int) (y2 : List XItem) : spec_Plain_k0 (stepL E D L) (y0, y1, y2) = spec_Plain_l0 D L y0 y1 y2 := by kernel_rfl
theorem spec_Plain_l0_of (y0 : List XState) (y1 : Int) (y2 : List XItem) {o : (List XItem)} (h : spec_Plain_l0 w wl y0 y1 y2 = some o) : spec_Plain_k0 wl (y0, y1, y2) = some o := apL_close _ _ (spec_Plain_l0_eq w wl y0 y1 y2) h
noncomputable def spec_Plain_l2 (D : DFun E) (L : LFun E) (y0 : List XState) (y1 : Int) (y2 : Bool) (y3 : Int) (y4 : List XItem) (y5 : Int) (y6 : Int) (y7 : Int) (y8 : Int) (y9 : ByteArray) : Option ((((List XState) × Int × Bool × (List XItem) × Int × Int × Int × Int × ByteArray))) :=
 bif (decide (y3 < (((List.length y0) : Nat) : Int))) then (bif inb y3 (List.length y0) then
 let e1 := (rd1 zState y0 y3)
 Option.bind (spec_EntryOf D (e1.1, e1.2, y1)) fun r2 =>
 bif r2.2.2.2.2.2 then (bif inb y3 (List.length y0) then
 let e3 := (rd1 zState y0 y3)
 Option.bind (spec_StateOk D (e3.1, e3.2)) fun r4 =>
 bif r4 then (Option.bind (spec_EntryMax D (y5, y6, y7, y8, y9, r2.1, r2.2.1, r2.2.2.1, r2.2.2.2.1, r2.2.2.2.2.1)) fun r5 =>
 spec_Plain_k2 L (y0, y1, true, (IntKind.wrap .i64 (y3 + 1)), y4, r5.1, r5.2.1, r5.2.2.1, r5.2.2.2.1, r5.2.2.2.2))
 else (spec_Plain_k2 L (y0, y1, y2, (IntKind.wrap .i64 (y3 + 1)), y4, y5, y6, y7, y8, y9)) else none)
 else (spec_Plain_k2 L (y0, y1, y2, (IntKind.wrap .i64 (y3 + 1)), y4, y5, y6, y7, y8, y9)) else none)
 else (some (y0, y1, y2, y4, y5, y6, y7, y8, y9))
theorem spec_Plain_l2_eq (D : DFun E) (L : LFun E) (y0 : List XState) (y1 : Int) (y2 : Bool) (y3 : Int) (y4 : List XItem) (y5 : Int) (y6 : Int) (y7 : Int) (y8 : Int) (y9 : ByteArray) : spec_Plain_k2 (stepL E D L) (y0, y1, y2, y3, y4, y5, y6, y7, y8, y9) = spec_Plain_l2 D L y0 y1 y2 y3 y4 y5 y6 y7 y8 y9 := by kernel_rfl
theorem spec_Plain_l2_of (y0 : List XState) (y1 : Int) (y2 : Bool) (y3 : Int) (y4 : List XItem) (y5 : Int) (y6 : Int) (y7 : Int) (y8 : Int) (y9 : ByteArray) {o : (((List XState) × Int × Bool × (List XItem) × Int × Int × Int × Int × ByteArray))} (h : spec_Plain_l2 w wl y0 y1 y2 y3 y4 y5 y6 y7 y8 y9 = some o) : spec_Plain_k2 wl (y0, y1, y2, y3, y4, y5, y6, y7, y8, y9) = some o := apL_close _ _ (spec_Plain_l2_eq w wl y0 y1 y2 y3 y4 y5 y6 y7 y8 y9) h
noncomputable def spec_Plain_raw (D : DFun E) (L : LFun E) (a0 : List XState) : Option (List XItem) :=
 Option.bind (spec_Plain_k0 L (a0, 0, [])) fun z7 =>
 some z7
theorem spec_Plain_raw_eq (D : DFun E) (L : LFun E) (a0 : List XState) : spec_Plain (stepD E D L) a0 = spec_Plain_raw D L a0 := by kernel_rfl
theorem spec_Plain_of (a0 : List XState) {o : List XItem} (h : spec_Plain_raw w wl a0 = some o) : spec_Plain w a0 = some o := ap_close _ _ (spec_Plain_raw_eq w wl a0) h
noncomputable def impl_Plain_l0 (D : DFun E) (L : LFun E) (y0 : List XState) (y1 : Int) (y2 : List XItem) : Option ((List XItem)) :=
 bif (decide (y1 < 5)) then (Option.bind (impl_Plain_k2 L (y0, y1, y0, (((List.length y0) : Nat) : Int), 0, y2, 0, 0, 0, 0, ByteArray.empty)) fun z5 =>
 bif (decide (0 < z5.2.2.2.1)) then (bif (decide (z5.2.2.2.2.1 = 0)) then (bif fits (List.length z5.2.2.1 + List.length ([(z5.2.1, z5.2.2.2.1, z5.2.2.2.2.1, z5.2.2.2.2.2.1, z5.2.2.2.2.2.2.1, z5.2.2.2.2.2.2.2)] : List XItem)) 56 then
 impl_Plain_k0 L (z5.1, (IntKind.wrap .i64 (z5.2.1 + 1)), (z5.2.2.1 ++ ([(z5.2.1, z5.2.2.2.1, z5.2.2.2.2.1, z5.2.2.2.2.2.1, z5.2.2.2.2.2.2.1, z5.2.2.2.2.2.2.2)] : List XItem))) else none)
 else (impl_Plain_k0 L (z5.1, (IntKind.wrap .i64 (z5.2.1 + 1)), z5.2.2.1)))
 else (impl_Plain_k0 L (z5.1, (IntKind.wrap .i64 (z5.2.1 + 1)), z5.2.2.1)))
 else (some y2)
theorem impl_Plain_l0_eq (D : DFun E) (L : LFun E) (y0 : List XState) (y1 : Int) (y2 : List XItem) : impl_Plain_k0 (stepL E D L) (y0, y1, y2) = impl_Plain_l0 D L y0 y1 y2 := by kernel_rfl
theorem impl_Plain_l0_of (y0 : List XState) (y1 : Int) (y2 : List XItem) {o : (List XItem)} (h : impl_Plain_l0 w wl y0 y1 y2 = some o) : impl_Plain_k0 wl (y0, y1, y2) = some o := apL_close _ _ (impl_Plain_l0_eq w wl y0 y1 y2) h
noncomputable def impl_Plain_l2 (D : DFun E) (L : LFun E) (y0 : List XState) (y1 : Int) (y2 : List XState) (y3 : Int) (y4 : Int) (y5 : List XItem) (y6 : Int) (y7 : Int) (y8 : Int) (y9 : Int) (y10 : ByteArray) : Option ((((List XState) × Int × (List XItem) × Int × Int × Int × Int × ByteArray))) :=
 bif (decide (y4 < y3)) then (bif inb y4 (List.length y2) then
 let e1 := (rd1 zState y2 y4)
 Option.bind (impl_EntryOf D (e1.1, e1.2, y1)) fun r2 =>
 bif r2.2.2.2.2.2 then (Option.bind (impl_StateOk D (e1.1, e1.2)) fun r3 =>
 bif r3 then (Option.bind (impl_EntryMax D (y6, y7, y8, y9, y10, r2.1, r2.2.1, r2.2.2.1, r2.2.2.2.1, r2.2.2.2.2.1)) fun r4 =>
 impl_Plain_k2 L (y0, y1, y2, y3, (IntKind.wrap .i64 (y4 + 1)), y5, r4.1, r4.2.1, r4.2.2.1, r4.2.2.2.1, r4.2.2.2.2))
 else (impl_Plain_k2 L (y0, y1, y2, y3, (IntKind.wrap .i64 (y4 + 1)), y5, y6, y7, y8, y9, y10)))
 else (impl_Plain_k2 L (y0, y1, y2, y3, (IntKind.wrap .i64 (y4 + 1)), y5, y6, y7, y8, y9, y10)) else none)
 else (some (y0, y1, y5, y6, y7, y8, y9, y10))
theorem impl_Plain_l2_eq (D : DFun E) (L : LFun E) (y0 : List XState) (y1 : Int) (y2 : List XState) (y3 : Int) (y4 : Int) (y5 : List XItem) (y6 : Int) (y7 : Int) (y8 : Int) (y9 : Int) (y10 : ByteArray) : impl_Plain_k2 (stepL E D L) (y0, y1, y2, y3, y4, y5, y6, y7, y8, y9, y10) = impl_Plain_l2 D L y0 y1 y2 y3 y4 y5 y6 y7 y8 y9 y10 := by kernel_rfl
theorem impl_Plain_l2_of (y0 : List XState) (y1 : Int) (y2 : List XState) (y3 : Int) (y4 : Int) (y5 : List XItem) (y6 : Int) (y7 : Int) (y8 : Int) (y9 : Int) (y10 : ByteArray) {o : (((List XState) × Int × (List XItem) × Int × Int × Int × Int × ByteArray))} (h : impl_Plain_l2 w wl y0 y1 y2 y3 y4 y5 y6 y7 y8 y9 y10 = some o) : impl_Plain_k2 wl (y0, y1, y2, y3, y4, y5, y6, y7, y8, y9, y10) = some o := apL_close _ _ (impl_Plain_l2_eq w wl y0 y1 y2 y3 y4 y5 y6 y7 y8 y9 y10) h
noncomputable def impl_Plain_raw (D : DFun E) (L : LFun E) (a0 : List XState) : Option (List XItem) :=
 Option.bind (impl_Plain_k0 L (a0, 0, [])) fun z6 =>
 some z6
theorem impl_Plain_raw_eq (D : DFun E) (L : LFun E) (a0 : List XState) : impl_Plain (stepD E D L) a0 = impl_Plain_raw D L a0 := by kernel_rfl
theorem impl_Plain_of (a0 : List XState) {o : List XItem} (h : impl_Plain_raw w wl a0 = some o) : impl_Plain w a0 = some o := ap_close _ _ (impl_Plain_raw_eq w wl a0) h
noncomputable def laws_eqItemS_l0 (D : DFun E) (L : LFun E) (y0 : List XItem) (y1 : List XItem) (y2 : Int) : Option (Bool ⊕ Unit) :=
 bif (decide (y2 < (((List.length y0) : Nat) : Int))) then (bif inb y2 (List.length y0) then
 let e1 := (rd1 zItem y0 y2)
 bif inb y2 (List.length y1) then
 let e2 := (rd1 zItem y1 y2)
 Option.bind (laws_eqItem D (e1.1, e1.2.1, e1.2.2.1, e1.2.2.2.1, e1.2.2.2.2.1, e1.2.2.2.2.2, e2.1, e2.2.1, e2.2.2.1, e2.2.2.2.1, e2.2.2.2.2.1, e2.2.2.2.2.2)) fun r3 =>
 bif (!r3) then (some (Sum.inl false))
 else (laws_eqItemS_k0 L (y0, y1, (IntKind.wrap .i64 (y2 + 1)))) else none else none)
 else (some (Sum.inr ()))
theorem laws_eqItemS_l0_eq (D : DFun E) (L : LFun E) (y0 : List XItem) (y1 : List XItem) (y2 : Int) : laws_eqItemS_k0 (stepL E D L) (y0, y1, y2) = laws_eqItemS_l0 D L y0 y1 y2 := by kernel_rfl
theorem laws_eqItemS_l0_of (y0 : List XItem) (y1 : List XItem) (y2 : Int) {o : Bool ⊕ Unit} (h : laws_eqItemS_l0 w wl y0 y1 y2 = some o) : laws_eqItemS_k0 wl (y0, y1, y2) = some o := apL_close _ _ (laws_eqItemS_l0_eq w wl y0 y1 y2) h
noncomputable def laws_eqItemS_raw (D : DFun E) (L : LFun E) (a0 : List XItem) (a1 : List XItem) : Option (Bool) :=
 bif (!decide ((((List.length a0) : Nat) : Int) = (((List.length a1) : Nat) : Int))) then (some false)
 else (Option.bind (laws_eqItemS_k0 L (a0, a1, 0)) fun z4 =>
 elimS z4 (fun u5 =>
 some u5)
 (fun z6 =>
 some true))
theorem laws_eqItemS_raw_eq (D : DFun E) (L : LFun E) (a0 : List XItem) (a1 : List XItem) : laws_eqItemS (stepD E D L) (a0, a1) = laws_eqItemS_raw D L a0 a1 := by kernel_rfl
theorem laws_eqItemS_of (a0 : List XItem) (a1 : List XItem) {o : Bool} (h : laws_eqItemS_raw w wl a0 a1 = some o) : laws_eqItemS w (a0, a1) = some o := ap_close _ _ (laws_eqItemS_raw_eq w wl a0 a1) h
noncomputable def laws_markStateS_l0 (D : DFun E) (L : LFun E) (y0 : Int) (y1 : Int) (y2 : List XState) : Option (((Int × (List XState)))) :=
 bif (decide (y1 < (((List.length y2) : Nat) : Int))) then (bif inb y1 (List.length y2) then
 let e1 := (rd1 zState y2 y1)
 Option.bind (laws_markItemS D ((rd1 zState y2 y1).1, y0)) fun r2 =>
 let e3 := (rd1 zState y2 y1)
 let l4 := List.set y2 (Int.toNat y1) (r2.2, e3.2)
 bif inb y1 (List.length l4) then
 let e5 := (rd1 zState l4 y1)
 Option.bind (laws_markFloorS D ((rd1 zState l4 y1).2, r2.1)) fun r6 =>
 let e7 := (rd1 zState l4 y1)
 let l8 := List.set l4 (Int.toNat y1) (e7.1, r6.2)
 laws_markStateS_k0 L (r6.1, (IntKind.wrap .i64 (y1 + 1)), l8) else none else none)
 else (some (y0, y2))
theorem laws_markStateS_l0_eq (D : DFun E) (L : LFun E) (y0 : Int) (y1 : Int) (y2 : List XState) : laws_markStateS_k0 (stepL E D L) (y0, y1, y2) = laws_markStateS_l0 D L y0 y1 y2 := by kernel_rfl
theorem laws_markStateS_l0_of (y0 : Int) (y1 : Int) (y2 : List XState) {o : ((Int × (List XState)))} (h : laws_markStateS_l0 w wl y0 y1 y2 = some o) : laws_markStateS_k0 wl (y0, y1, y2) = some o := apL_close _ _ (laws_markStateS_l0_eq w wl y0 y1 y2) h
noncomputable def laws_markStateS_raw (D : DFun E) (L : LFun E) (a0 : List XState) (a1 : Int) : Option ((Int × (List XState))) :=
 Option.bind (laws_markStateS_k0 L (a1, 0, a0)) fun z9 =>
 some (z9.1, z9.2)
theorem laws_markStateS_raw_eq (D : DFun E) (L : LFun E) (a0 : List XState) (a1 : Int) : laws_markStateS (stepD E D L) (a0, a1) = laws_markStateS_raw D L a0 a1 := by kernel_rfl
theorem laws_markStateS_of (a0 : List XState) (a1 : Int) {o : (Int × (List XState))} (h : laws_markStateS_raw w wl a0 a1 = some o) : laws_markStateS w (a0, a1) = some o := ap_close _ _ (laws_markStateS_raw_eq w wl a0 a1) h
noncomputable def laws_markItemS_l0 (D : DFun E) (L : LFun E) (y0 : Int) (y1 : Int) (y2 : List XItem) : Option (((Int × (List XItem)))) :=
 bif (decide (y1 < (((List.length y2) : Nat) : Int))) then (bif inb y1 (List.length y2) then
 let e1 := (rd1 zItem y2 y1)
 let l2 := List.set y2 (Int.toNat y1) (y0, e1.2.1, e1.2.2.1, e1.2.2.2.1, e1.2.2.2.2.1, e1.2.2.2.2.2)
 bif inb y1 (List.length l2) then
 let e3 := (rd1 zItem l2 y1)
 let l4 := List.set l2 (Int.toNat y1) (e3.1, (IntKind.wrap .i64 (y0 + 1)), e3.2.2.1, e3.2.2.2.1, e3.2.2.2.2.1, e3.2.2.2.2.2)
 bif inb y1 (List.length l4) then
 let e5 := (rd1 zItem l4 y1)
 let l6 := List.set l4 (Int.toNat y1) (e5.1, e5.2.1, (IntKind.wrap .i64 ((IntKind.wrap .i64 (y0 + 1)) + 1)), e5.2.2.2.1, e5.2.2.2.2.1, e5.2.2.2.2.2)
 bif inb y1 (List.length l6) then
 let e7 := (rd1 zItem l6 y1)
 let l8 := List.set l6 (Int.toNat y1) (e7.1, e7.2.1, e7.2.2.1, (IntKind.wrap .i64 ((IntKind.wrap .i64 ((IntKind.wrap .i64 (y0 + 1)) + 1)) + 1)), e7.2.2.2.2.1, e7.2.2.2.2.2)
 bif inb y1 (List.length l8) then
 let e9 := (rd1 zItem l8 y1)
 let l10 := List.set l8 (Int.toNat y1) (e9.1, e9.2.1, e9.2.2.1, e9.2.2.2.1, (IntKind.wrap .i64 ((IntKind.wrap .i64 ((IntKind.wrap .i64 ((IntKind.wrap .i64 (y0 + 1)) + 1)) + 1)) + 1)), e9.2.2.2.2.2)
 Option.bind (laws_markText D (IntKind.wrap .i64 ((IntKind.wrap .i64 ((IntKind.wrap .i64 ((IntKind.wrap .i64 ((IntKind.wrap .i64 (y0 + 1)) + 1)) + 1)) + 1)) + 1))) fun r11 =>
 bif inb y1 (List.length l10) then
 let e12 := (rd1 zItem l10 y1)
 let l13 := List.set l10 (Int.toNat y1) (e12.1, e12.2.1, e12.2.2.1, e12.2.2.2.1, e12.2.2.2.2.1, r11)
 laws_markItemS_k0 L ((IntKind.wrap .i64 ((IntKind.wrap .i64 ((IntKind.wrap .i64 ((IntKind.wrap .i64 ((IntKind.wrap .i64 ((IntKind.wrap .i64 (y0 + 1)) + 1)) + 1)) + 1)) + 1)) + 1)), (IntKind.wrap .i64 (y1 + 1)), l13) else none else none else none else none else none else none)
 else (some (y0, y2))
theorem laws_markItemS_l0_eq (D : DFun E) (L : LFun E) (y0 : Int) (y1 : Int) (y2 : List XItem) : laws_markItemS_k0 (stepL E D L) (y0, y1, y2) = laws_markItemS_l0 D L y0 y1 y2 := by kernel_rfl
theorem laws_markItemS_l0_of (y0 : Int) (y1 : Int) (y2 : List XItem) {o : ((Int × (List XItem)))} (h : laws_markItemS_l0 w wl y0 y1 y2 = some o) : laws_markItemS_k0 wl (y0, y1, y2) = some o := apL_close _ _ (laws_markItemS_l0_eq w wl y0 y1 y2) h
noncomputable def laws_markItemS_raw (D : DFun E) (L : LFun E) (a0 : List XItem) (a1 : Int) : Option ((Int × (List XItem))) :=
 Option.bind (laws_markItemS_k0 L (a1, 0, a0)) fun z14 =>
 some (z14.1, z14.2)
theorem laws_markItemS_raw_eq (D : DFun E) (L : LFun E) (a0 : List XItem) (a1 : Int) : laws_markItemS (stepD E D L) (a0, a1) = laws_markItemS_raw D L a0 a1 := by kernel_rfl
theorem laws_markItemS_of (a0 : List XItem) (a1 : Int) {o : (Int × (List XItem))} (h : laws_markItemS_raw w wl a0 a1 = some o) : laws_markItemS w (a0, a1) = some o := ap_close _ _ (laws_markItemS_raw_eq w wl a0 a1) h
noncomputable def laws_heldItemS_l0 (D : DFun E) (L : LFun E) (y0 : List XItem) (y1 : Int) (y2 : Int) : Option (Int ⊕ Int) :=
 bif (decide (y2 < (((List.length y0) : Nat) : Int))) then (bif inb y2 (List.length y0) then
 let e1 := (rd1 zItem y0 y2)
 bif (!decide (e1.1 = y1)) then (some (Sum.inl (-1)))
 else (bif inb y2 (List.length y0) then
 let e2 := (rd1 zItem y0 y2)
 bif (!decide (e2.2.1 = (IntKind.wrap .i64 (y1 + 1)))) then (some (Sum.inl (-1)))
 else (bif inb y2 (List.length y0) then
 let e3 := (rd1 zItem y0 y2)
 bif (!decide (e3.2.2.1 = (IntKind.wrap .i64 ((IntKind.wrap .i64 (y1 + 1)) + 1)))) then (some (Sum.inl (-1)))
 else (bif inb y2 (List.length y0) then
 let e4 := (rd1 zItem y0 y2)
 bif (!decide (e4.2.2.2.1 = (IntKind.wrap .i64 ((IntKind.wrap .i64 ((IntKind.wrap .i64 (y1 + 1)) + 1)) + 1)))) then (some (Sum.inl (-1)))
 else (bif inb y2 (List.length y0) then
 let e5 := (rd1 zItem y0 y2)
 bif (!decide (e5.2.2.2.2.1 = (IntKind.wrap .i64 ((IntKind.wrap .i64 ((IntKind.wrap .i64 ((IntKind.wrap .i64 (y1 + 1)) + 1)) + 1)) + 1)))) then (some (Sum.inl (-1)))
 else (bif inb y2 (List.length y0) then
 let e6 := (rd1 zItem y0 y2)
 Option.bind (laws_markText D (IntKind.wrap .i64 ((IntKind.wrap .i64 ((IntKind.wrap .i64 ((IntKind.wrap .i64 ((IntKind.wrap .i64 (y1 + 1)) + 1)) + 1)) + 1)) + 1))) fun r7 =>
 bif (!beqS e6.2.2.2.2.2 r7) then (some (Sum.inl (-1)))
 else (laws_heldItemS_k0 L (y0, (IntKind.wrap .i64 ((IntKind.wrap .i64 ((IntKind.wrap .i64 ((IntKind.wrap .i64 ((IntKind.wrap .i64 ((IntKind.wrap .i64 (y1 + 1)) + 1)) + 1)) + 1)) + 1)) + 1)), (IntKind.wrap .i64 (y2 + 1)))) else none) else none) else none) else none) else none) else none)
 else (some (Sum.inr y1))
theorem laws_heldItemS_l0_eq (D : DFun E) (L : LFun E) (y0 : List XItem) (y1 : Int) (y2 : Int) : laws_heldItemS_k0 (stepL E D L) (y0, y1, y2) = laws_heldItemS_l0 D L y0 y1 y2 := by kernel_rfl
theorem laws_heldItemS_l0_of (y0 : List XItem) (y1 : Int) (y2 : Int) {o : Int ⊕ Int} (h : laws_heldItemS_l0 w wl y0 y1 y2 = some o) : laws_heldItemS_k0 wl (y0, y1, y2) = some o := apL_close _ _ (laws_heldItemS_l0_eq w wl y0 y1 y2) h
noncomputable def laws_heldItemS_raw (D : DFun E) (L : LFun E) (a0 : List XItem) (a1 : Int) : Option (Int) :=
 Option.bind (laws_heldItemS_k0 L (a0, a1, 0)) fun z8 =>
 elimS z8 (fun u9 =>
 some u9)
 (fun z10 =>
 some z10)
theorem laws_heldItemS_raw_eq (D : DFun E) (L : LFun E) (a0 : List XItem) (a1 : Int) : laws_heldItemS (stepD E D L) (a0, a1) = laws_heldItemS_raw D L a0 a1 := by kernel_rfl
theorem laws_heldItemS_of (a0 : List XItem) (a1 : Int) {o : Int} (h : laws_heldItemS_raw w wl a0 a1 = some o) : laws_heldItemS w (a0, a1) = some o := ap_close _ _ (laws_heldItemS_raw_eq w wl a0 a1) h
noncomputable def spec_l1In_raw (D : DFun E) (L : LFun E) (a0 : Int) (a1 : Int) (a2 : Int) : Option (Bool) :=
 bif (decide (a1 ≤ a0)) then (some (decide (a0 ≤ a2)))
 else (some false)
theorem spec_l1In_raw_eq (D : DFun E) (L : LFun E) (a0 : Int) (a1 : Int) (a2 : Int) : spec_l1In (stepD E D L) (a0, a1, a2) = spec_l1In_raw D L a0 a1 a2 := by kernel_rfl
theorem spec_l1In_of (a0 : Int) (a1 : Int) (a2 : Int) {o : Bool} (h : spec_l1In_raw w wl a0 a1 a2 = some o) : spec_l1In w (a0, a1, a2) = some o := ap_close _ _ (spec_l1In_raw_eq w wl a0 a1 a2) h
noncomputable def impl_within_raw (D : DFun E) (L : LFun E) (a0 : Int) (a1 : Int) (a2 : Int) : Option (Bool) :=
 bif (decide (a1 ≤ a0)) then (some (decide (a0 ≤ a2)))
 else (some false)
theorem impl_within_raw_eq (D : DFun E) (L : LFun E) (a0 : Int) (a1 : Int) (a2 : Int) : impl_within (stepD E D L) (a0, a1, a2) = impl_within_raw D L a0 a1 a2 := by kernel_rfl
theorem impl_within_of (a0 : Int) (a1 : Int) (a2 : Int) {o : Bool} (h : impl_within_raw w wl a0 a1 a2 = some o) : impl_within w (a0, a1, a2) = some o := ap_close _ _ (impl_within_raw_eq w wl a0 a1 a2) h
noncomputable def laws_szState_raw (D : DFun E) (L : LFun E) (a0 : List XItem) (a1 : List XFloor) (a2 : Int) : Option (Int) :=
 Option.bind (laws_szItemS D (a0, a2)) fun r1 =>
 bif (decide (r1 < 0)) then (some (-1))
 else (Option.bind (laws_szFloorS D (a1, r1)) fun r2 =>
 bif (decide (r2 < 0)) then (some (-1))
 else (some r2))
theorem laws_szState_raw_eq (D : DFun E) (L : LFun E) (a0 : List XItem) (a1 : List XFloor) (a2 : Int) : laws_szState (stepD E D L) (a0, a1, a2) = laws_szState_raw D L a0 a1 a2 := by kernel_rfl
theorem laws_szState_of (a0 : List XItem) (a1 : List XFloor) (a2 : Int) {o : Int} (h : laws_szState_raw w wl a0 a1 a2 = some o) : laws_szState w (a0, a1, a2) = some o := ap_close _ _ (laws_szState_raw_eq w wl a0 a1 a2) h
noncomputable def spec_EntryOf_l0 (D : DFun E) (L : LFun E) (y0 : Int) (y1 : Int) (y2 : List XItem) (y3 : List XFloor) : Option (((Bool × Int × Int × Int × Int × ByteArray)) ⊕ Unit) :=
 bif (decide (y1 < (((List.length y2) : Nat) : Int))) then (bif inb y1 (List.length y2) then
 let e1 := (rd1 zItem y2 y1)
 bif (decide (e1.1 = y0)) then (bif inb y1 (List.length y2) then
 let e2 := (rd1 zItem y2 y1)
 some (Sum.inl (true, e2.2.1, e2.2.2.1, e2.2.2.2.1, e2.2.2.2.2.1, e2.2.2.2.2.2)) else none)
 else (spec_EntryOf_k0 L (y0, (IntKind.wrap .i64 (y1 + 1)), y2, y3)) else none)
 else (some (Sum.inr ()))
theorem spec_EntryOf_l0_eq (D : DFun E) (L : LFun E) (y0 : Int) (y1 : Int) (y2 : List XItem) (y3 : List XFloor) : spec_EntryOf_k0 (stepL E D L) (y0, y1, y2, y3) = spec_EntryOf_l0 D L y0 y1 y2 y3 := by kernel_rfl
theorem spec_EntryOf_l0_of (y0 : Int) (y1 : Int) (y2 : List XItem) (y3 : List XFloor) {o : ((Bool × Int × Int × Int × Int × ByteArray)) ⊕ Unit} (h : spec_EntryOf_l0 w wl y0 y1 y2 y3 = some o) : spec_EntryOf_k0 wl (y0, y1, y2, y3) = some o := apL_close _ _ (spec_EntryOf_l0_eq w wl y0 y1 y2 y3) h
noncomputable def spec_EntryOf_raw (D : DFun E) (L : LFun E) (a0 : List XItem) (a1 : List XFloor) (a2 : Int) : Option ((Int × Int × Int × Int × ByteArray × Bool)) :=
 Option.bind (spec_EntryOf_k0 L (a2, 0, a0, a1)) fun z3 =>
 elimS z3 (fun u4 =>
 some (u4.2.1, u4.2.2.1, u4.2.2.2.1, u4.2.2.2.2.1, u4.2.2.2.2.2, u4.1))
 (fun z5 =>
 some (0, 0, 0, 0, ByteArray.empty, false))
theorem spec_EntryOf_raw_eq (D : DFun E) (L : LFun E) (a0 : List XItem) (a1 : List XFloor) (a2 : Int) : spec_EntryOf (stepD E D L) (a0, a1, a2) = spec_EntryOf_raw D L a0 a1 a2 := by kernel_rfl
theorem spec_EntryOf_of (a0 : List XItem) (a1 : List XFloor) (a2 : Int) {o : (Int × Int × Int × Int × ByteArray × Bool)} (h : spec_EntryOf_raw w wl a0 a1 a2 = some o) : spec_EntryOf w (a0, a1, a2) = some o := ap_close _ _ (spec_EntryOf_raw_eq w wl a0 a1 a2) h
noncomputable def spec_StateOk_l0 (D : DFun E) (L : LFun E) (y0 : Int) (y1 : List XItem) (y2 : List XFloor) : Option (Bool ⊕ XState) :=
 bif (decide (y0 < (((List.length y1) : Nat) : Int))) then (bif inb y0 (List.length y1) then
 let e1 := (rd1 zItem y1 y0)
 Option.bind (spec_l3Node D e1.1) fun r2 =>
 bif (!r2) then (some (Sum.inl false))
 else (bif (decide (0 < y0)) then (bif inb (IntKind.wrap .i64 (y0 - 1)) (List.length y1) then
 let e3 := (rd1 zItem y1 (IntKind.wrap .i64 (y0 - 1)))
 bif (decide (e1.1 ≤ e3.1)) then (some (Sum.inl false))
 else (Option.bind (spec_EntryOk D (e1.2.1, e1.2.2.1, e1.2.2.2.1, e1.2.2.2.2.1, e1.2.2.2.2.2)) fun r4 =>
 bif (!r4) then (some (Sum.inl false))
 else (Option.bind (spec_FloorOf D (y1, y2, e1.1)) fun r5 =>
 bif (decide (e1.2.1 ≤ r5)) then (some (Sum.inl false))
 else (spec_StateOk_k0 L ((IntKind.wrap .i64 (y0 + 1)), y1, y2)))) else none)
 else (Option.bind (spec_EntryOk D (e1.2.1, e1.2.2.1, e1.2.2.2.1, e1.2.2.2.2.1, e1.2.2.2.2.2)) fun r6 =>
 bif (!r6) then (some (Sum.inl false))
 else (Option.bind (spec_FloorOf D (y1, y2, e1.1)) fun r7 =>
 bif (decide (e1.2.1 ≤ r7)) then (some (Sum.inl false))
 else (spec_StateOk_k0 L ((IntKind.wrap .i64 (y0 + 1)), y1, y2))))) else none)
 else (some (Sum.inr (y1, y2)))
theorem spec_StateOk_l0_eq (D : DFun E) (L : LFun E) (y0 : Int) (y1 : List XItem) (y2 : List XFloor) : spec_StateOk_k0 (stepL E D L) (y0, y1, y2) = spec_StateOk_l0 D L y0 y1 y2 := by kernel_rfl
theorem spec_StateOk_l0_of (y0 : Int) (y1 : List XItem) (y2 : List XFloor) {o : Bool ⊕ XState} (h : spec_StateOk_l0 w wl y0 y1 y2 = some o) : spec_StateOk_k0 wl (y0, y1, y2) = some o := apL_close _ _ (spec_StateOk_l0_eq w wl y0 y1 y2) h
noncomputable def spec_StateOk_l2 (D : DFun E) (L : LFun E) (y0 : Int) (y1 : List XItem) (y2 : List XFloor) : Option (Bool ⊕ Unit) :=
 bif (decide (y0 < (((List.length y2) : Nat) : Int))) then (bif inb y0 (List.length y2) then
 let e11 := (rd1 zFloor y2 y0)
 Option.bind (spec_l3Node D e11.1) fun r12 =>
 bif (!r12) then (some (Sum.inl false))
 else (bif (decide (0 < y0)) then (bif inb (IntKind.wrap .i64 (y0 - 1)) (List.length y2) then
 let e13 := (rd1 zFloor y2 (IntKind.wrap .i64 (y0 - 1)))
 bif (decide (e11.1 ≤ e13.1)) then (some (Sum.inl false))
 else (Option.bind (spec_l1In D (e11.2, 1, 1000)) fun r14 =>
 bif (!r14) then (some (Sum.inl false))
 else (spec_StateOk_k2 L ((IntKind.wrap .i64 (y0 + 1)), y1, y2))) else none)
 else (Option.bind (spec_l1In D (e11.2, 1, 1000)) fun r15 =>
 bif (!r15) then (some (Sum.inl false))
 else (spec_StateOk_k2 L ((IntKind.wrap .i64 (y0 + 1)), y1, y2)))) else none)
 else (some (Sum.inr ()))
theorem spec_StateOk_l2_eq (D : DFun E) (L : LFun E) (y0 : Int) (y1 : List XItem) (y2 : List XFloor) : spec_StateOk_k2 (stepL E D L) (y0, y1, y2) = spec_StateOk_l2 D L y0 y1 y2 := by kernel_rfl
theorem spec_StateOk_l2_of (y0 : Int) (y1 : List XItem) (y2 : List XFloor) {o : Bool ⊕ Unit} (h : spec_StateOk_l2 w wl y0 y1 y2 = some o) : spec_StateOk_k2 wl (y0, y1, y2) = some o := apL_close _ _ (spec_StateOk_l2_eq w wl y0 y1 y2) h
noncomputable def spec_StateOk_raw (D : DFun E) (L : LFun E) (a0 : List XItem) (a1 : List XFloor) : Option (Bool) :=
 Option.bind (spec_StateOk_k0 L (0, a0, a1)) fun z8 =>
 elimS z8 (fun u9 =>
 some u9)
 (fun z10 =>
 Option.bind (spec_StateOk_k2 L (0, z10.1, z10.2)) fun z16 =>
 elimS z16 (fun u17 =>
 some u17)
 (fun z18 =>
 some true))
theorem spec_StateOk_raw_eq (D : DFun E) (L : LFun E) (a0 : List XItem) (a1 : List XFloor) : spec_StateOk (stepD E D L) (a0, a1) = spec_StateOk_raw D L a0 a1 := by kernel_rfl
theorem spec_StateOk_of (a0 : List XItem) (a1 : List XFloor) {o : Bool} (h : spec_StateOk_raw w wl a0 a1 = some o) : spec_StateOk w (a0, a1) = some o := ap_close _ _ (spec_StateOk_raw_eq w wl a0 a1) h
end Go.Proofs.Ytgkobeililjgbaa.M
