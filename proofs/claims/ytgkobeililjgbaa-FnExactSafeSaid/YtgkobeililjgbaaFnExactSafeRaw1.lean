/- Plain forms of the functions that FnExactSafe reaches, part 1. No conditions. -/
import Derived.Test.YtgkobeililjgbaaFnExactSafeTab
namespace Go.Proofs.Ytgkobeililjgbaa.M
open Go Go.Eng Go.Proofs
set_option linter.unusedVariables false
noncomputable def spec_l1In_raw (D : DFun E) (L : LFun E) (a0 : Int) (a1 : Int) (a2 : Int) : Option (Bool) :=
 bif (decide (a1 ≤ a0)) then (some (decide (a0 ≤ a2)))
 else (some false)
theorem spec_l1In_raw_eq (D : DFun E) (L : LFun E) (a0 : Int) (a1 : Int) (a2 : Int) : spec_l1In (stepD E D L) (a0, a1, a2) = spec_l1In_raw D L a0 a1 a2 := by kernel_rfl
theorem spec_l1In_of (a0 : Int) (a1 : Int) (a2 : Int) {o : Bool} (h : spec_l1In_raw w wl a0 a1 a2 = some o) : spec_l1In w (a0, a1, a2) = some o := ap_close _ _ (spec_l1In_raw_eq w wl a0 a1 a2) h
noncomputable def impl_within_raw (D : DFun E) (L : LFun E) (a0 : Int) (a1 : Int) (a2 : Int) : Option (Bool) :=
 bif (decide (a1 ≤ a0)) then (some (decide (a0 ≤ a2)))
 else (some false)
theorem impl_within_raw_eq (D : DFun E) (L : LFun E) (a0 : Int) (a1 : Int) (a2 : Int) : impl_within (stepD E D L) (a0, a1, a2) = impl_within_raw D L a0 a1 a2 := by kernel_rfl
theorem impl_within_of (a0 : Int) (a1 : Int) (a2 : Int) {o : Bool} (h : impl_within_raw w wl a0 a1 a2 = some o) : impl_within w (a0, a1, a2) = some o := ap_close _ _ (impl_within_raw_eq w wl a0 a1 a2) h
noncomputable def spec_l1Has_l0 (D : DFun E) (L : LFun E) (y0 : List Int) (y1 : Int) (y2 : Int) : Option (Bool ⊕ Unit) :=
 bif (decide (y2 < (((List.length y0) : Nat) : Int))) then (bif inb y2 (List.length y0) then
 bif (decide ((rd1 (0 : Int) y0 y2) = y1)) then (some (Sum.inl true))
 else (spec_l1Has_k0 L (y0, y1, (IntKind.wrap .i64 (y2 + 1)))) else none)
 else (some (Sum.inr ()))
theorem spec_l1Has_l0_eq (D : DFun E) (L : LFun E) (y0 : List Int) (y1 : Int) (y2 : Int) : spec_l1Has_k0 (stepL E D L) (y0, y1, y2) = spec_l1Has_l0 D L y0 y1 y2 := by kernel_rfl
theorem spec_l1Has_l0_of (y0 : List Int) (y1 : Int) (y2 : Int) {o : Bool ⊕ Unit} (h : spec_l1Has_l0 w wl y0 y1 y2 = some o) : spec_l1Has_k0 wl (y0, y1, y2) = some o := apL_close _ _ (spec_l1Has_l0_eq w wl y0 y1 y2) h
noncomputable def spec_l1Has_raw (D : DFun E) (L : LFun E) (a0 : List Int) (a1 : Int) : Option (Bool) :=
 Option.bind (spec_l1Has_k0 L (a0, a1, 0)) fun z1 =>
 elimS z1 (fun u2 =>
 some u2)
 (fun z3 =>
 some false)
theorem spec_l1Has_raw_eq (D : DFun E) (L : LFun E) (a0 : List Int) (a1 : Int) : spec_l1Has (stepD E D L) (a0, a1) = spec_l1Has_raw D L a0 a1 := by kernel_rfl
theorem spec_l1Has_of (a0 : List Int) (a1 : Int) {o : Bool} (h : spec_l1Has_raw w wl a0 a1 = some o) : spec_l1Has w (a0, a1) = some o := ap_close _ _ (spec_l1Has_raw_eq w wl a0 a1) h
noncomputable def slices_Containsint_int_raw (D : DFun E) (L : LFun E) (a0 : List Int) (a1 : Int) : Option (Bool) :=
 Option.bind (slices_Indexint_int D (a0, a1)) fun r1 =>
 some (decide (0 ≤ r1))
theorem slices_Containsint_int_raw_eq (D : DFun E) (L : LFun E) (a0 : List Int) (a1 : Int) : slices_Containsint_int (stepD E D L) (a0, a1) = slices_Containsint_int_raw D L a0 a1 := by kernel_rfl
theorem slices_Containsint_int_of (a0 : List Int) (a1 : Int) {o : Bool} (h : slices_Containsint_int_raw w wl a0 a1 = some o) : slices_Containsint_int w (a0, a1) = some o := ap_close _ _ (slices_Containsint_int_raw_eq w wl a0 a1) h
noncomputable def laws_szState_raw (D : DFun E) (L : LFun E) (a0 : List XItem) (a1 : List XFloor) (a2 : Int) : Option (Int) :=
 Option.bind (laws_szItemS D (a0, a2)) fun r1 =>
 bif (decide (r1 < 0)) then (some (-1))
 else (Option.bind (laws_szFloorS D (a1, r1)) fun r2 =>
 bif (decide (r2 < 0)) then (some (-1))
 else (some r2))
theorem laws_szState_raw_eq (D : DFun E) (L : LFun E) (a0 : List XItem) (a1 : List XFloor) (a2 : Int) : laws_szState (stepD E D L) (a0, a1, a2) = laws_szState_raw D L a0 a1 a2 := by kernel_rfl
theorem laws_szState_of (a0 : List XItem) (a1 : List XFloor) (a2 : Int) {o : Int} (h : laws_szState_raw w wl a0 a1 a2 = some o) : laws_szState w (a0, a1, a2) = some o := ap_close _ _ (laws_szState_raw_eq w wl a0 a1 a2) h
noncomputable def spec_StateOk_l0 (D : DFun E) (L : LFun E) (y0 : Int) (y1 : List XItem) (y2 : List XFloor) : Option (Bool ⊕ XState) :=
 bif (decide (y0 < (((List.length y1) : Nat) : Int))) then (bif inb y0 (List.length y1) then
 let e1 := (rd1 zItem y1 y0)
 Option.bind (spec_l3Node D e1.1) fun r2 =>
 bif (!r2) then (some (Sum.inl false))
 else (bif (decide (0 < y0)) then (bif inb (IntKind.wrap .i64 (y0 - 1)) (List.length y1) then
 let e3 := (rd1 zItem y1 (IntKind.wrap .i64 (y0 - 1)))
 bif (decide (e1.1 ≤ e3.1)) then (some (Sum.inl false))
 else (Option.bind (spec_EntryOk D (e1.2.1, e1.2.2.1, e1.2.2.2.1, e1.2.2.2.2.1, e1.2.2.2.2.2)) fun r4 =>
 bif (!r4) then (some (Sum.inl false))
 else (Option.bind (spec_FloorOf D (y1, y2, e1.1)) fun r5 =>
 bif (decide (e1.2.1 ≤ r5)) then (some (Sum.inl false))
 else (spec_StateOk_k0 L ((IntKind.wrap .i64 (y0 + 1)), y1, y2)))) else none)
 else (Option.bind (spec_EntryOk D (e1.2.1, e1.2.2.1, e1.2.2.2.1, e1.2.2.2.2.1, e1.2.2.2.2.2)) fun r6 =>
 bif (!r6) then (some (Sum.inl false))
 else (Option.bind (spec_FloorOf D (y1, y2, e1.1)) fun r7 =>
 bif (decide (e1.2.1 ≤ r7)) then (some (Sum.inl false))
 else (spec_StateOk_k0 L ((IntKind.wrap .i64 (y0 + 1)), y1, y2))))) else none)
 else (some (Sum.inr (y1, y2)))
theorem spec_StateOk_l0_eq (D : DFun E) (L : LFun E) (y0 : Int) (y1 : List XItem) (y2 : List XFloor) : spec_StateOk_k0 (stepL E D L) (y0, y1, y2) = spec_StateOk_l0 D L y0 y1 y2 := by kernel_rfl
theorem spec_StateOk_l0_of (y0 : Int) (y1 : List XItem) (y2 : List XFloor) {o : Bool ⊕ XState} (h : spec_StateOk_l0 w wl y0 y1 y2 = some o) : spec_StateOk_k0 wl (y0, y1, y2) = some o := apL_close _ _ (spec_StateOk_l0_eq w wl y0 y1 y2) h
noncomputable def spec_StateOk_l2 (D : DFun E) (L : LFun E) (y0 : Int) (y1 : List XItem) (y2 : List XFloor) : Option (Bool ⊕ Unit) :=
 bif (decide (y0 < (((List.length y2) : Nat) : Int))) then (bif inb y0 (List.length y2) then
 let e11 := (rd1 zFloor y2 y0)
 Option.bind (spec_l3Node D e11.1) fun r12 =>
 bif (!r12) then (some (Sum.inl false))
 else (bif (decide (0 < y0)) then (bif inb (IntKind.wrap .i64 (y0 - 1)) (List.length y2) then
 let e13 := (rd1 zFloor y2 (IntKind.wrap .i64 (y0 - 1)))
 bif (decide (e11.1 ≤ e13.1)) then (some (Sum.inl false))
 else (Option.bind (spec_l1In D (e11.2, 1, 1000)) fun r14 =>
 bif (!r14) then (some (Sum.inl false))
 else (spec_StateOk_k2 L ((IntKind.wrap .i64 (y0 + 1)), y1, y2))) else none)
 else (Option.bind (spec_l1In D (e11.2, 1, 1000)) fun r15 =>
 bif (!r15) then (some (Sum.inl false))
 else (spec_StateOk_k2 L ((IntKind.wrap .i64 (y0 + 1)), y1, y2)))) else none)
 else (some (Sum.inr ()))
theorem spec_StateOk_l2_eq (D : DFun E) (L : LFun E) (y0 : Int) (y1 : List XItem) (y2 : List XFloor) : spec_StateOk_k2 (stepL E D L) (y0, y1, y2) = spec_StateOk_l2 D L y0 y1 y2 := by kernel_rfl
theorem spec_StateOk_l2_of (y0 : Int) (y1 : List XItem) (y2 : List XFloor) {o : Bool ⊕ Unit} (h : spec_StateOk_l2 w wl y0 y1 y2 = some o) : spec_StateOk_k2 wl (y0, y1, y2) = some o := apL_close _ _ (spec_StateOk_l2_eq w wl y0 y1 y2) h
noncomputable def spec_StateOk_raw (D : DFun E) (L : LFun E) (a0 : List XItem) (a1 : List XFloor) : Option (Bool) :=
 Option.bind (spec_StateOk_k0 L (0, a0, a1)) fun z8 =>
 elimS z8 (fun u9 =>
 some u9)
 (fun z10 =>
 Option.bind (spec_StateOk_k2 L (0, z10.1, z10.2)) fun z16 =>
 elimS z16 (fun u17 =>
 some u17)
 (fun z18 =>
 some true))
theorem spec_StateOk_raw_eq (D : DFun E) (L : LFun E) (a0 : List XItem) (a1 : List XFloor) : spec_StateOk (stepD E D L) (a0, a1) = spec_StateOk_raw D L a0 a1 := by kernel_rfl
theorem spec_StateOk_of (a0 : List XItem) (a1 : List XFloor) {o : Bool} (h : spec_StateOk_raw w wl a0 a1 = some o) : spec_StateOk w (a0, a1) = some o := ap_close _ _ (spec_StateOk_raw_eq w wl a0 a1) h
noncomputable def laws_toState_raw (D : DFun E) (L : LFun E) (a0 : List XItem) (a1 : List XFloor) : Option (XState) :=
 Option.bind (laws_toItemS D a0) fun r1 =>
 Option.bind (laws_toFloorS D a1) fun r2 =>
 some (r1, r2)
theorem laws_toState_raw_eq (D : DFun E) (L : LFun E) (a0 : List XItem) (a1 : List XFloor) : laws_toState (stepD E D L) (a0, a1) = laws_toState_raw D L a0 a1 := by kernel_rfl
theorem laws_toState_of (a0 : List XItem) (a1 : List XFloor) {o : XState} (h : laws_toState_raw w wl a0 a1 = some o) : laws_toState w (a0, a1) = some o := ap_close _ _ (laws_toState_raw_eq w wl a0 a1) h
noncomputable def impl_StateOk_l0 (D : DFun E) (L : LFun E) (y0 : List XFloor) (y1 : Int) (y2 : Int) (y3 : List XItem) (y4 : List XFloor) : Option (Bool ⊕ XState) :=
 bif (decide (y2 < y1)) then (bif inb y2 (List.length y0) then
 let e1 := (rd1 zFloor y0 y2)
 Option.bind (impl_isNode D e1.1) fun r2 =>
 bif (!r2) then (some (Sum.inl false))
 else (Option.bind (impl_within D (e1.2, 1, 1000)) fun r3 =>
 bif (!r3) then (some (Sum.inl false))
 else (bif (decide (0 < y2)) then (bif inb (IntKind.wrap .i64 (y2 - 1)) (List.length y4) then
 let e4 := (rd1 zFloor y4 (IntKind.wrap .i64 (y2 - 1)))
 bif (decide (e1.1 ≤ e4.1)) then (some (Sum.inl false))
 else (impl_StateOk_k0 L (y0, y1, (IntKind.wrap .i64 (y2 + 1)), y3, y4)) else none)
 else (impl_StateOk_k0 L (y0, y1, (IntKind.wrap .i64 (y2 + 1)), y3, y4)))) else none)
 else (some (Sum.inr (y3, y4)))
theorem impl_StateOk_l0_eq (D : DFun E) (L : LFun E) (y0 : List XFloor) (y1 : Int) (y2 : Int) (y3 : List XItem) (y4 : List XFloor) : impl_StateOk_k0 (stepL E D L) (y0, y1, y2, y3, y4) = impl_StateOk_l0 D L y0 y1 y2 y3 y4 := by kernel_rfl
theorem impl_StateOk_l0_of (y0 : List XFloor) (y1 : Int) (y2 : Int) (y3 : List XItem) (y4 : List XFloor) {o : Bool ⊕ XState} (h : impl_StateOk_l0 w wl y0 y1 y2 y3 y4 = some o) : impl_StateOk_k0 wl (y0, y1, y2, y3, y4) = some o := apL_close _ _ (impl_StateOk_l0_eq w wl y0 y1 y2 y3 y4) h
noncomputable def impl_StateOk_l2 (D : DFun E) (L : LFun E) (y0 : List XItem) (y1 : Int) (y2 : Int) (y3 : List XItem) (y4 : List XFloor) : Option (Bool ⊕ Unit) :=
 bif (decide (y2 < y1)) then (bif inb y2 (List.length y0) then
 let e8 := (rd1 zItem y0 y2)
 Option.bind (impl_isNode D e8.1) fun r9 =>
 bif (!r9) then (some (Sum.inl false))
 else (Option.bind (impl_EntryOk D (e8.2.1, e8.2.2.1, e8.2.2.2.1, e8.2.2.2.2.1, e8.2.2.2.2.2)) fun r10 =>
 bif (!r10) then (some (Sum.inl false))
 else (Option.bind (impl_FloorOf D (y3, y4, e8.1)) fun r11 =>
 bif (decide (e8.2.1 ≤ r11)) then (some (Sum.inl false))
 else (bif (decide (0 < y2)) then (bif inb (IntKind.wrap .i64 (y2 - 1)) (List.length y3) then
 let e12 := (rd1 zItem y3 (IntKind.wrap .i64 (y2 - 1)))
 bif (decide (e8.1 ≤ e12.1)) then (some (Sum.inl false))
 else (impl_StateOk_k2 L (y0, y1, (IntKind.wrap .i64 (y2 + 1)), y3, y4)) else none)
 else (impl_StateOk_k2 L (y0, y1, (IntKind.wrap .i64 (y2 + 1)), y3, y4))))) else none)
 else (some (Sum.inr ()))
theorem impl_StateOk_l2_eq (D : DFun E) (L : LFun E) (y0 : List XItem) (y1 : Int) (y2 : Int) (y3 : List XItem) (y4 : List XFloor) : impl_StateOk_k2 (stepL E D L) (y0, y1, y2, y3, y4) = impl_StateOk_l2 D L y0 y1 y2 y3 y4 := by kernel_rfl
theorem impl_StateOk_l2_of (y0 : List XItem) (y1 : Int) (y2 : Int) (y3 : List XItem) (y4 : List XFloor) {o : Bool ⊕ Unit} (h : impl_StateOk_l2 w wl y0 y1 y2 y3 y4 = some o) : impl_StateOk_k2 wl (y0, y1, y2, y3, y4) = some o := apL_close _ _ (impl_StateOk_l2_eq w wl y0 y1 y2 y3 y4) h
noncomputable def impl_StateOk_raw (D : DFun E) (L : LFun E) (a0 : List XItem) (a1 : List XFloor) : Option (Bool) :=
 Option.bind (impl_StateOk_k0 L (a1, (((List.length a1) : Nat) : Int), 0, a0, a1)) fun z5 =>
 elimS z5 (fun u6 =>
 some u6)
 (fun z7 =>
 Option.bind (impl_StateOk_k2 L (z7.1, (((List.length z7.1) : Nat) : Int), 0, z7.1, z7.2)) fun z13 =>
 elimS z13 (fun u14 =>
 some u14)
 (fun z15 =>
 some true))
theorem impl_StateOk_raw_eq (D : DFun E) (L : LFun E) (a0 : List XItem) (a1 : List XFloor) : impl_StateOk (stepD E D L) (a0, a1) = impl_StateOk_raw D L a0 a1 := by kernel_rfl
theorem impl_StateOk_of (a0 : List XItem) (a1 : List XFloor) {o : Bool} (h : impl_StateOk_raw w wl a0 a1 = some o) : impl_StateOk w (a0, a1) = some o := ap_close _ _ (impl_StateOk_raw_eq w wl a0 a1) h
noncomputable def laws_eqState_raw (D : DFun E) (L : LFun E) (a0 : List XItem) (a1 : List XFloor) (a2 : List XItem) (a3 : List XFloor) : Option (Bool) :=
 Option.bind (laws_eqItemS D (a0, a2)) fun r1 =>
 bif (!r1) then (some false)
 else (Option.bind (laws_eqFloorS D (a1, a3)) fun r2 =>
 bif (!r2) then (some false)
 else (some true))
theorem laws_eqState_raw_eq (D : DFun E) (L : LFun E) (a0 : List XItem) (a1 : List XFloor) (a2 : List XItem) (a3 : List XFloor) : laws_eqState (stepD E D L) (a0, a1, a2, a3) = laws_eqState_raw D L a0 a1 a2 a3 := by kernel_rfl
theorem laws_eqState_of (a0 : List XItem) (a1 : List XFloor) (a2 : List XItem) (a3 : List XFloor) {o : Bool} (h : laws_eqState_raw w wl a0 a1 a2 a3 = some o) : laws_eqState w (a0, a1, a2, a3) = some o := ap_close _ _ (laws_eqState_raw_eq w wl a0 a1 a2 a3) h
noncomputable def laws_eqItem_raw (D : DFun E) (L : LFun E) (a0 : Int) (a1 : Int) (a2 : Int) (a3 : Int) (a4 : Int) (a5 : ByteArray) (a6 : Int) (a7 : Int) (a8 : Int) (a9 : Int) (a10 : Int) (a11 : ByteArray) : Option (Bool) :=
 bif (!decide (a0 = a6)) then (some false)
 else (Option.bind (laws_eqEntry D (a1, a2, a3, a4, a5, a7, a8, a9, a10, a11)) fun r1 =>
 bif (!r1) then (some false)
 else (some true))
theorem laws_eqItem_raw_eq (D : DFun E) (L : LFun E) (a0 : Int) (a1 : Int) (a2 : Int) (a3 : Int) (a4 : Int) (a5 : ByteArray) (a6 : Int) (a7 : Int) (a8 : Int) (a9 : Int) (a10 : Int) (a11 : ByteArray) : laws_eqItem (stepD E D L) (a0, a1, a2, a3, a4, a5, a6, a7, a8, a9, a10, a11) = laws_eqItem_raw D L a0 a1 a2 a3 a4 a5 a6 a7 a8 a9 a10 a11 := by kernel_rfl
theorem laws_eqItem_of (a0 : Int) (a1 : Int) (a2 : Int) (a3 : Int) (a4 : Int) (a5 : ByteArray) (a6 : Int) (a7 : Int) (a8 : Int) (a9 : Int) (a10 : Int) (a11 : ByteArray) {o : Bool} (h : laws_eqItem_raw w wl a0 a1 a2 a3 a4 a5 a6 a7 a8 a9 a10 a11 = some o) : laws_eqItem w (a0, a1, a2, a3, a4, a5, a6, a7, a8, a9, a10, a11) = some o := ap_close _ _ (laws_eqItem_raw_eq w wl a0 a1 a2 a3 a4 a5 a6 a7 a8 a9 a10 a11) h
noncomputable def laws_szTree_raw (D : DFun E) (L : LFun E) (a0 : List Int) (a1 : Int) (a2 : Int) : Option (Int) :=
 Option.bind (laws_szIntS D (a0, a2)) fun r1 =>
 bif (decide (r1 < 0)) then (some (-1))
 else (some r1)
theorem laws_szTree_raw_eq (D : DFun E) (L : LFun E) (a0 : List Int) (a1 : Int) (a2 : Int) : laws_szTree (stepD E D L) (a0, a1, a2) = laws_szTree_raw D L a0 a1 a2 := by kernel_rfl
theorem laws_szTree_of (a0 : List Int) (a1 : Int) (a2 : Int) {o : Int} (h : laws_szTree_raw w wl a0 a1 a2 = some o) : laws_szTree w (a0, a1, a2) = some o := ap_close _ _ (laws_szTree_raw_eq w wl a0 a1 a2) h
noncomputable def laws_szIntS_raw (D : DFun E) (L : LFun E) (a0 : List Int) (a1 : Int) : Option (Int) :=
 bif (decide ((IntKind.wrap .i64 (a1 - (((List.length a0) : Nat) : Int))) < 0)) then (some (-1))
 else (some (IntKind.wrap .i64 (a1 - (((List.length a0) : Nat) : Int))))
theorem laws_szIntS_raw_eq (D : DFun E) (L : LFun E) (a0 : List Int) (a1 : Int) : laws_szIntS (stepD E D L) (a0, a1) = laws_szIntS_raw D L a0 a1 := by kernel_rfl
theorem laws_szIntS_of (a0 : List Int) (a1 : Int) {o : Int} (h : laws_szIntS_raw w wl a0 a1 = some o) : laws_szIntS w (a0, a1) = some o := ap_close _ _ (laws_szIntS_raw_eq w wl a0 a1) h
noncomputable def laws_toTree_raw (D : DFun E) (L : LFun E) (a0 : List Int) (a1 : Int) : Option (XTree) :=
 Option.bind (laws_toIntS D a0) fun r1 =>
 some (r1, a1)
theorem laws_toTree_raw_eq (D : DFun E) (L : LFun E) (a0 : List Int) (a1 : Int) : laws_toTree (stepD E D L) (a0, a1) = laws_toTree_raw D L a0 a1 := by kernel_rfl
theorem laws_toTree_of (a0 : List Int) (a1 : Int) {o : XTree} (h : laws_toTree_raw w wl a0 a1 = some o) : laws_toTree w (a0, a1) = some o := ap_close _ _ (laws_toTree_raw_eq w wl a0 a1) h
noncomputable def laws_eqTree_raw (D : DFun E) (L : LFun E) (a0 : List Int) (a1 : Int) (a2 : List Int) (a3 : Int) : Option (Bool) :=
 Option.bind (laws_eqIntS D (a0, a2)) fun r1 =>
 bif (!r1) then (some false)
 else (bif (!decide (a1 = a3)) then (some false)
 else (some true))
theorem laws_eqTree_raw_eq (D : DFun E) (L : LFun E) (a0 : List Int) (a1 : Int) (a2 : List Int) (a3 : Int) : laws_eqTree (stepD E D L) (a0, a1, a2, a3) = laws_eqTree_raw D L a0 a1 a2 a3 := by kernel_rfl
theorem laws_eqTree_of (a0 : List Int) (a1 : Int) (a2 : List Int) (a3 : Int) {o : Bool} (h : laws_eqTree_raw w wl a0 a1 a2 a3 = some o) : laws_eqTree w (a0, a1, a2, a3) = some o := ap_close _ _ (laws_eqTree_raw_eq w wl a0 a1 a2 a3) h
noncomputable def laws_szLog_raw (D : DFun E) (L : LFun E) (a0 : Int) (a1 : Int) (a2 : List XState) (a3 : Int) : Option (Int) :=
 Option.bind (laws_szStateS D (a2, a3)) fun r1 =>
 bif (decide (r1 < 0)) then (some (-1))
 else (some r1)
theorem laws_szLog_raw_eq (D : DFun E) (L : LFun E) (a0 : Int) (a1 : Int) (a2 : List XState) (a3 : Int) : laws_szLog (stepD E D L) (a0, a1, a2, a3) = laws_szLog_raw D L a0 a1 a2 a3 := by kernel_rfl
theorem laws_szLog_of (a0 : Int) (a1 : Int) (a2 : List XState) (a3 : Int) {o : Int} (h : laws_szLog_raw w wl a0 a1 a2 a3 = some o) : laws_szLog w (a0, a1, a2, a3) = some o := ap_close _ _ (laws_szLog_raw_eq w wl a0 a1 a2 a3) h
noncomputable def laws_szIntSS_l0 (D : DFun E) (L : LFun E) (y0 : List (List Int)) (y1 : Int) (y2 : Int) : Option (Int ⊕ Int) :=
 bif (decide (y2 < (((List.length y0) : Nat) : Int))) then (bif inb y2 (List.length y0) then
 Option.bind (laws_szIntS D ((rd1 ([] : List Int) y0 y2), y1)) fun r1 =>
 bif (decide (r1 < 0)) then (some (Sum.inl (-1)))
 else (laws_szIntSS_k0 L (y0, r1, (IntKind.wrap .i64 (y2 + 1)))) else none)
 else (some (Sum.inr y1))
theorem laws_szIntSS_l0_eq (D : DFun E) (L : LFun E) (y0 : List (List Int)) (y1 : Int) (y2 : Int) : laws_szIntSS_k0 (stepL E D L) (y0, y1, y2) = laws_szIntSS_l0 D L y0 y1 y2 := by kernel_rfl
theorem laws_szIntSS_l0_of (y0 : List (List Int)) (y1 : Int) (y2 : Int) {o : Int ⊕ Int} (h : laws_szIntSS_l0 w wl y0 y1 y2 = some o) : laws_szIntSS_k0 wl (y0, y1, y2) = some o := apL_close _ _ (laws_szIntSS_l0_eq w wl y0 y1 y2) h
noncomputable def laws_szIntSS_raw (D : DFun E) (L : LFun E) (a0 : List (List Int)) (a1 : Int) : Option (Int) :=
 bif (decide ((IntKind.wrap .i64 (a1 - (((List.length a0) : Nat) : Int))) < 0)) then (some (-1))
 else (Option.bind (laws_szIntSS_k0 L (a0, (IntKind.wrap .i64 (a1 - (((List.length a0) : Nat) : Int))), 0)) fun z2 =>
 elimS z2 (fun u3 =>
 some u3)
 (fun z4 =>
 some z4))
theorem laws_szIntSS_raw_eq (D : DFun E) (L : LFun E) (a0 : List (List Int)) (a1 : Int) : laws_szIntSS (stepD E D L) (a0, a1) = laws_szIntSS_raw D L a0 a1 := by kernel_rfl
theorem laws_szIntSS_of (a0 : List (List Int)) (a1 : Int) {o : Int} (h : laws_szIntSS_raw w wl a0 a1 = some o) : laws_szIntSS w (a0, a1) = some o := ap_close _ _ (laws_szIntSS_raw_eq w wl a0 a1) h
noncomputable def laws_szSessS_raw (D : DFun E) (L : LFun E) (a0 : List XSess) (a1 : Int) : Option (Int) :=
 bif (decide ((IntKind.wrap .i64 (a1 - (((List.length a0) : Nat) : Int))) < 0)) then (some (-1))
 else (some (IntKind.wrap .i64 (a1 - (((List.length a0) : Nat) : Int))))
theorem laws_szSessS_raw_eq (D : DFun E) (L : LFun E) (a0 : List XSess) (a1 : Int) : laws_szSessS (stepD E D L) (a0, a1) = laws_szSessS_raw D L a0 a1 := by kernel_rfl
theorem laws_szSessS_of (a0 : List XSess) (a1 : Int) {o : Int} (h : laws_szSessS_raw w wl a0 a1 = some o) : laws_szSessS w (a0, a1) = some o := ap_close _ _ (laws_szSessS_raw_eq w wl a0 a1) h
noncomputable def laws_szRiseS_raw (D : DFun E) (L : LFun E) (a0 : List XRise) (a1 : Int) : Option (Int) :=
 bif (decide ((IntKind.wrap .i64 (a1 - (((List.length a0) : Nat) : Int))) < 0)) then (some (-1))
 else (some (IntKind.wrap .i64 (a1 - (((List.length a0) : Nat) : Int))))
theorem laws_szRiseS_raw_eq (D : DFun E) (L : LFun E) (a0 : List XRise) (a1 : Int) : laws_szRiseS (stepD E D L) (a0, a1) = laws_szRiseS_raw D L a0 a1 := by kernel_rfl
theorem laws_szRiseS_of (a0 : List XRise) (a1 : Int) {o : Int} (h : laws_szRiseS_raw w wl a0 a1 = some o) : laws_szRiseS w (a0, a1) = some o := ap_close _ _ (laws_szRiseS_raw_eq w wl a0 a1) h
noncomputable def spec_NodeOk_l0 (D : DFun E) (L : LFun E) (y0 : Int) (y1 : Int) (y2 : Int) (y3 : List XItem) (y4 : List XFloor) (y5 : List Int) (y6 : Int) (y7 : Int) (y8 : Int) (y9 : List XState) (y10 : List Int) (y11 : List Int) (y12 : List (List Int)) (y13 : Int) (y14 : Int) (y15 : List XSess) (y16 : Int) (y17 : Int) (y18 : Int) (y19 : List XRise) : Option (Bool ⊕ XNode) :=
 bif (decide (y0 < y2)) then (bif inb y0 (List.length y11) then
 Option.bind (spec_LogSeq D (y7, y8, y9)) fun r11 =>
 bif (decide (r11 < (rd1 (0 : Int) y11 y0))) then (some (Sum.inl false))
 else (spec_NodeOk_k0 L ((IntKind.wrap .i64 (y0 + 1)), y1, y2, y3, y4, y5, y6, y7, y8, y9, y10, y11, y12, y13, y14, y15, y16, y17, y18, y19)) else none)
 else (some (Sum.inr (y1, y2, y3, y4, y5, y6, y7, y8, y9, y10, y11, y12, y13, y14, y15, y16, y17, y18, y19)))
theorem spec_NodeOk_l0_eq (D : DFun E) (L : LFun E) (y0 : Int) (y1 : Int) (y2 : Int) (y3 : List XItem) (y4 : List XFloor) (y5 : List Int) (y6 : Int) (y7 : Int) (y8 : Int) (y9 : List XState) (y10 : List Int) (y11 : List Int) (y12 : List (List Int)) (y13 : Int) (y14 : Int) (y15 : List XSess) (y16 : Int) (y17 : Int) (y18 : Int) (y19 : List XRise) : spec_NodeOk_k0 (stepL E D L) (y0, y1, y2, y3, y4, y5, y6, y7, y8, y9, y10, y11, y12, y13, y14, y15, y16, y17, y18, y19) = spec_NodeOk_l0 D L y0 y1 y2 y3 y4 y5 y6 y7 y8 y9 y10 y11 y12 y13 y14 y15 y16 y17 y18 y19 := by kernel_rfl
theorem spec_NodeOk_l0_of (y0 : Int) (y1 : Int) (y2 : Int) (y3 : List XItem) (y4 : List XFloor) (y5 : List Int) (y6 : Int) (y7 : Int) (y8 : Int) (y9 : List XState) (y10 : List Int) (y11 : List Int) (y12 : List (List Int)) (y13 : Int) (y14 : Int) (y15 : List XSess) (y16 : Int) (y17 : Int) (y18 : Int) (y19 : List XRise) {o : Bool ⊕ XNode} (h : spec_NodeOk_l0 w wl y0 y1 y2 y3 y4 y5 y6 y7 y8 y9 y10 y11 y12 y13 y14 y15 y16 y17 y18 y19 = some o) : spec_NodeOk_k0 wl (y0, y1, y2, y3, y4, y5, y6, y7, y8, y9, y10, y11, y12, y13, y14, y15, y16, y17, y18, y19) = some o := apL_close _ _ (spec_NodeOk_l0_eq w wl y0 y1 y2 y3 y4 y5 y6 y7 y8 y9 y10 y11 y12 y13 y14 y15 y16 y17 y18 y19) h
noncomputable def spec_NodeOk_l2 (D : DFun E) (L : LFun E) (y0 : Int) (y1 : Int) (y2 : Int) (y3 : List XItem) (y4 : List XFloor) (y5 : List Int) (y6 : Int) (y7 : Int) (y8 : Int) (y9 : List XState) (y10 : List Int) (y11 : List Int) (y12 : List (List Int)) (y13 : Int) (y14 : Int) (y15 : List XSess) (y16 : Int) (y17 : Int) (y18 : Int) (y19 : List XRise) : Option (Bool ⊕ XNode) :=
 bif (decide (y0 < 5)) then (bif inb y0 (List.length y19) then
 let e20 := (rd1 zRise y19 y0)
 Option.bind (spec_l1In D (e20.1, 0, 1000)) fun r21 =>
 bif (!r21) then (some (Sum.inl false))
 else (Option.bind (spec_l1In D (e20.2.1, 0, 100000)) fun r22 =>
 bif (!r22) then (some (Sum.inl false))
 else (Option.bind (spec_l1In D (e20.2.2, 0, y18)) fun r23 =>
 bif (!r23) then (some (Sum.inl false))
 else (spec_NodeOk_k2 L ((IntKind.wrap .i64 (y0 + 1)), y1, y2, y3, y4, y5, y6, y7, y8, y9, y10, y11, y12, y13, y14, y15, y16, y17, y18, y19)))) else none)
 else (some (Sum.inr (y1, y2, y3, y4, y5, y6, y7, y8, y9, y10, y11, y12, y13, y14, y15, y16, y17, y18, y19)))
theorem spec_NodeOk_l2_eq (D : DFun E) (L : LFun E) (y0 : Int) (y1 : Int) (y2 : Int) (y3 : List XItem) (y4 : List XFloor) (y5 : List Int) (y6 : Int) (y7 : Int) (y8 : Int) (y9 : List XState) (y10 : List Int) (y11 : List Int) (y12 : List (List Int)) (y13 : Int) (y14 : Int) (y15 : List XSess) (y16 : Int) (y17 : Int) (y18 : Int) (y19 : List XRise) : spec_NodeOk_k2 (stepL E D L) (y0, y1, y2, y3, y4, y5, y6, y7, y8, y9, y10, y11, y12, y13, y14, y15, y16, y17, y18, y19) = spec_NodeOk_l2 D L y0 y1 y2 y3 y4 y5 y6 y7 y8 y9 y10 y11 y12 y13 y14 y15 y16 y17 y18 y19 := by kernel_rfl
theorem spec_NodeOk_l2_of (y0 : Int) (y1 : Int) (y2 : Int) (y3 : List XItem) (y4 : List XFloor) (y5 : List Int) (y6 : Int) (y7 : Int) (y8 : Int) (y9 : List XState) (y10 : List Int) (y11 : List Int) (y12 : List (List Int)) (y13 : Int) (y14 : Int) (y15 : List XSess) (y16 : Int) (y17 : Int) (y18 : Int) (y19 : List XRise) {o : Bool ⊕ XNode} (h : spec_NodeOk_l2 w wl y0 y1 y2 y3 y4 y5 y6 y7 y8 y9 y10 y11 y12 y13 y14 y15 y16 y17 y18 y19 = some o) : spec_NodeOk_k2 wl (y0, y1, y2, y3, y4, y5, y6, y7, y8, y9, y10, y11, y12, y13, y14, y15, y16, y17, y18, y19) = some o := apL_close _ _ (spec_NodeOk_l2_eq w wl y0 y1 y2 y3 y4 y5 y6 y7 y8 y9 y10 y11 y12 y13 y14 y15 y16 y17 y18 y19) h
noncomputable def spec_NodeOk_raw (D : DFun E) (L : LFun E) (a0 : Int) (a1 : Int) (a2 : List XItem) (a3 : List XFloor) (a4 : List Int) (a5 : Int) (a6 : Int) (a7 : Int) (a8 : List XState) (a9 : List Int) (a10 : List Int) (a11 : List (List Int)) (a12 : Int) (a13 : Int) (a14 : List XSess) (a15 : Int) (a16 : Int) (a17 : Int) (a18 : List XRise) : Option (Bool) :=
 Option.bind (spec_l1In D (a1, 1, 5)) fun r1 =>
 bif (!r1) then (some false)
 else (Option.bind (spec_l1In D (a0, 0, (IntKind.wrap .i64 (a1 - 1)))) fun r2 =>
 bif (!r2) then (some false)
 else (Option.bind (spec_StateOk D (a2, a3)) fun r3 =>
 bif (!r3) then (some false)
 else (Option.bind (spec_TreeOf D (a2, a3)) fun r4 =>
 Option.bind (spec_l11Tree D (a4, a5, r4.1, r4.2)) fun r5 =>
 bif (!r5) then (some false)
 else (Option.bind (spec_LogOk D (a6, a7, a8)) fun r6 =>
 bif (!r6) then (some false)
 else (Option.bind (spec_VecOk D (a9, a1)) fun r7 =>
 bif (!r7) then (some false)
 else (Option.bind (spec_VecOk D (a10, a1)) fun r8 =>
 bif (!r8) then (some false)
 else (bif inb a0 (List.length a9) then
 Option.bind (spec_LogSeq D (a6, a7, a8)) fun r9 =>
 bif (!decide ((rd1 (0 : Int) a9 a0) = r9)) then (some false)
 else (Option.bind (spec_TableOk D (a11, a1)) fun r10 =>
 bif (!r10) then (some false)
 else (Option.bind (spec_NodeOk_k0 L (0, a0, a1, a2, a3, a4, a5, a6, a7, a8, a9, a10, a11, a12, a13, a14, a15, a16, a17, a18)) fun z12 =>
 elimS z12 (fun u13 =>
 some u13)
 (fun z14 =>
 Option.bind (spec_l1In D (z14.2.2.2.2.2.2.2.2.2.2.2.2.1, 0, 100000)) fun r15 =>
 bif (!r15) then (some false)
 else (Option.bind (spec_l1In D (z14.2.2.2.2.2.2.2.2.2.2.2.2.2.2.2.2.2.1, 0, 100000)) fun r16 =>
 bif (!r16) then (some false)
 else (Option.bind (spec_l1In D (z14.2.2.2.2.2.2.2.2.2.2.2.2.2.1, 1, 4)) fun r17 =>
 bif (!r17) then (some false)
 else (Option.bind (spec_l1In D (z14.2.2.2.2.2.2.2.2.2.2.2.2.2.2.2.1, 1, 20)) fun r18 =>
 bif (!r18) then (some false)
 else (Option.bind (spec_l1In D (z14.2.2.2.2.2.2.2.2.2.2.2.2.2.2.2.2.1, 1, 50)) fun r19 =>
 bif (!r19) then (some false)
 else (bif (!decide ((((List.length z14.2.2.2.2.2.2.2.2.2.2.2.2.2.2.2.2.2.2) : Nat) : Int) = 5)) then (some false)
 else (Option.bind (spec_NodeOk_k2 L (0, z14.1, z14.2.1, z14.2.2.1, z14.2.2.2.1, z14.2.2.2.2.1, z14.2.2.2.2.2.1, z14.2.2.2.2.2.2.1, z14.2.2.2.2.2.2.2.1, z14.2.2.2.2.2.2.2.2.1, z14.2.2.2.2.2.2.2.2.2.1, z14.2.2.2.2.2.2.2.2.2.2.1, z14.2.2.2.2.2.2.2.2.2.2.2.1, z14.2.2.2.2.2.2.2.2.2.2.2.2.1, z14.2.2.2.2.2.2.2.2.2.2.2.2.2.1, z14.2.2.2.2.2.2.2.2.2.2.2.2.2.2.1, z14.2.2.2.2.2.2.2.2.2.2.2.2.2.2.2.1, z14.2.2.2.2.2.2.2.2.2.2.2.2.2.2.2.2.1, z14.2.2.2.2.2.2.2.2.2.2.2.2.2.2.2.2.2.1, z14.2.2.2.2.2.2.2.2.2.2.2.2.2.2.2.2.2.2)) fun z24 =>
 elimS z24 (fun u25 =>
 some u25)
 (fun z26 =>
 Option.bind (spec_l11Sess D (z26.1, z26.2.1, z26.2.2.1, z26.2.2.2.1, z26.2.2.2.2.1, z26.2.2.2.2.2.1, z26.2.2.2.2.2.2.1, z26.2.2.2.2.2.2.2.1, z26.2.2.2.2.2.2.2.2.1, z26.2.2.2.2.2.2.2.2.2.1, z26.2.2.2.2.2.2.2.2.2.2.1, z26.2.2.2.2.2.2.2.2.2.2.2.1, z26.2.2.2.2.2.2.2.2.2.2.2.2.1, z26.2.2.2.2.2.2.2.2.2.2.2.2.2.1, z26.2.2.2.2.2.2.2.2.2.2.2.2.2.2.1, z26.2.2.2.2.2.2.2.2.2.2.2.2.2.2.2.1, z26.2.2.2.2.2.2.2.2.2.2.2.2.2.2.2.2.1, z26.2.2.2.2.2.2.2.2.2.2.2.2.2.2.2.2.2.1, z26.2.2.2.2.2.2.2.2.2.2.2.2.2.2.2.2.2.2)) fun r27 =>
 some r27)))))))))) else none)))))))
theorem spec_NodeOk_raw_eq (D : DFun E) (L : LFun E) (a0 : Int) (a1 : Int) (a2 : List XItem) (a3 : List XFloor) (a4 : List Int) (a5 : Int) (a6 : Int) (a7 : Int) (a8 : List XState) (a9 : List Int) (a10 : List Int) (a11 : List (List Int)) (a12 : Int) (a13 : Int) (a14 : List XSess) (a15 : Int) (a16 : Int) (a17 : Int) (a18 : List XRise) : spec_NodeOk (stepD E D L) (a0, a1, a2, a3, a4, a5, a6, a7, a8, a9, a10, a11, a12, a13, a14, a15, a16, a17, a18) = spec_NodeOk_raw D L a0 a1 a2 a3 a4 a5 a6 a7 a8 a9 a10 a11 a12 a13 a14 a15 a16 a17 a18 := by kernel_rfl
theorem spec_NodeOk_of (a0 : Int) (a1 : Int) (a2 : List XItem) (a3 : List XFloor) (a4 : List Int) (a5 : Int) (a6 : Int) (a7 : Int) (a8 : List XState) (a9 : List Int) (a10 : List Int) (a11 : List (List Int)) (a12 : Int) (a13 : Int) (a14 : List XSess) (a15 : Int) (a16 : Int) (a17 : Int) (a18 : List XRise) {o : Bool} (h : spec_NodeOk_raw w wl a0 a1 a2 a3 a4 a5 a6 a7 a8 a9 a10 a11 a12 a13 a14 a15 a16 a17 a18 = some o) : spec_NodeOk w (a0, a1, a2, a3, a4, a5, a6, a7, a8, a9, a10, a11, a12, a13, a14, a15, a16, a17, a18) = some o := ap_close _ _ (spec_NodeOk_raw_eq w wl a0 a1 a2 a3 a4 a5 a6 a7 a8 a9 a10 a11 a12 a13 a14 a15 a16 a17 a18) h
noncomputable def laws_toLog_raw (D : DFun E) (L : LFun E) (a0 : Int) (a1 : Int) (a2 : List XState) : Option (XLog) :=
 Option.bind (laws_toStateS D a2) fun r1 =>
 some (a0, a1, r1)
theorem laws_toLog_raw_eq (D : DFun E) (L : LFun E) (a0 : Int) (a1 : Int) (a2 : List XState) : laws_toLog (stepD E D L) (a0, a1, a2) = laws_toLog_raw D L a0 a1 a2 := by kernel_rfl
theorem laws_toLog_of (a0 : Int) (a1 : Int) (a2 : List XState) {o : XLog} (h : laws_toLog_raw w wl a0 a1 a2 = some o) : laws_toLog w (a0, a1, a2) = some o := ap_close _ _ (laws_toLog_raw_eq w wl a0 a1 a2) h
noncomputable def laws_toIntSS_l0 (D : DFun E) (L : LFun E) (y0 : List (List Int)) (y1 : Int) (y2 : List (List Int)) : Option ((List (List Int))) :=
 bif (decide (y1 < (((List.length y0) : Nat) : Int))) then (bif inb y1 (List.length y0) then
 Option.bind (laws_toIntS D (rd1 ([] : List Int) y0 y1)) fun r1 =>
 bif inb y1 (List.length y2) then
 let l2 := List.set y2 (Int.toNat y1) r1
 laws_toIntSS_k0 L (y0, (IntKind.wrap .i64 (y1 + 1)), l2) else none else none)
 else (some y2)
theorem laws_toIntSS_l0_eq (D : DFun E) (L : LFun E) (y0 : List (List Int)) (y1 : Int) (y2 : List (List Int)) : laws_toIntSS_k0 (stepL E D L) (y0, y1, y2) = laws_toIntSS_l0 D L y0 y1 y2 := by kernel_rfl
theorem laws_toIntSS_l0_of (y0 : List (List Int)) (y1 : Int) (y2 : List (List Int)) {o : (List (List Int))} (h : laws_toIntSS_l0 w wl y0 y1 y2 = some o) : laws_toIntSS_k0 wl (y0, y1, y2) = some o := apL_close _ _ (laws_toIntSS_l0_eq w wl y0 y1 y2) h
noncomputable def laws_toIntSS_raw (D : DFun E) (L : LFun E) (a0 : List (List Int)) : Option (List (List Int)) :=
 bif (decide ((0 : Int) ≤ (((List.length a0) : Nat) : Int) ∧ ((((List.length a0) : Nat) : Int) : Int) = (((List.length a0) : Nat) : Int)) && fits (Int.toNat (((List.length a0) : Nat) : Int)) 24) then
 Option.bind (laws_toIntSS_k0 L (a0, 0, (List.replicate (Int.toNat (((List.length a0) : Nat) : Int)) []))) fun z3 =>
 some z3 else none
theorem laws_toIntSS_raw_eq (D : DFun E) (L : LFun E) (a0 : List (List Int)) : laws_toIntSS (stepD E D L) a0 = laws_toIntSS_raw D L a0 := by kernel_rfl
theorem laws_toIntSS_of (a0 : List (List Int)) {o : List (List Int)} (h : laws_toIntSS_raw w wl a0 = some o) : laws_toIntSS w a0 = some o := ap_close _ _ (laws_toIntSS_raw_eq w wl a0) h
end Go.Proofs.Ytgkobeililjgbaa.M
