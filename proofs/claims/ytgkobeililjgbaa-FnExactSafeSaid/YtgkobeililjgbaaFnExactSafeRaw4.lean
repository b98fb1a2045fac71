/- Plain forms of the functions that FnExactSafe reaches, part 4. No conditions. -/
import Derived.Test.YtgkobeililjgbaaFnExactSafeTab
namespace Go.Proofs.Ytgkobeililjgbaa.M
open Go Go.Eng Go.Proofs
set_option linter.unusedVariables false
noncomputable def impl_TreeOf_l0 (D : DFun E) (L : LFun E) (y0 : Int) (y1 : List XItem) (y2 : List XFloor) (y3 : List Int) (y4 : Int) : Option (XTree) :=
 bif (decide (y0 < 4)) then (Option.bind (impl_LeafSum D (y1, y2, y0)) fun r2 =>
 bif fits (List.length y3 + List.length ([r2] : List Int)) 8 then
 impl_TreeOf_k0 L ((IntKind.wrap .i64 (y0 + 1)), y1, y2, (y3 ++ ([r2] : List Int)), y4) else none)
 else (some (y3, y4))
theorem impl_TreeOf_l0_eq (D : DFun E) (L : LFun E) (y0 : Int) (y1 : List XItem) (y2 : List XFloor) (y3 : List Int) (y4 : Int) : impl_TreeOf_k0 (stepL E D L) (y0, y1, y2, y3, y4) = impl_TreeOf_l0 D L y0 y1 y2 y3 y4 := by kernel_rfl
theorem impl_TreeOf_l0_of (y0 : Int) (y1 : List XItem) (y2 : List XFloor) (y3 : List Int) (y4 : Int) {o : XTree} (h : impl_TreeOf_l0 w wl y0 y1 y2 y3 y4 = some o) : impl_TreeOf_k0 wl (y0, y1, y2, y3, y4) = some o := apL_close _ _ (impl_TreeOf_l0_eq w wl y0 y1 y2 y3 y4) h
noncomputable def impl_TreeOf_raw (D : DFun E) (L : LFun E) (a0 : List XItem) (a1 : List XFloor) : Option (XTree) :=
 Option.bind (impl_StateOk D (a0, a1)) fun r1 =>
 bif (!r1) then (some ([], 0))
 else (Option.bind (impl_TreeOf_k0 L (0, a0, a1, [], 0)) fun z3 =>
 Option.bind (impl_rootOf D z3.1) fun r4 =>
 some (z3.1, r4))
theorem impl_TreeOf_raw_eq (D : DFun E) (L : LFun E) (a0 : List XItem) (a1 : List XFloor) : impl_TreeOf (stepD E D L) (a0, a1) = impl_TreeOf_raw D L a0 a1 := by kernel_rfl
theorem impl_TreeOf_of (a0 : List XItem) (a1 : List XFloor) {o : XTree} (h : impl_TreeOf_raw w wl a0 a1 = some o) : impl_TreeOf w (a0, a1) = some o := ap_close _ _ (impl_TreeOf_raw_eq w wl a0 a1) h
noncomputable def impl_LogOk_l0 (D : DFun E) (L : LFun E) (y0 : List XState) (y1 : Int) (y2 : Int) (y3 : Int) (y4 : Int) (y5 : List XState) : Option (Bool ⊕ XLog) :=
 bif (decide (y2 < y1)) then (bif inb y2 (List.length y0) then
 let e1 := (rd1 zState y0 y2)
 Option.bind (impl_StateOk D (e1.1, e1.2)) fun r2 =>
 bif (!r2) then (some (Sum.inl false))
 else (impl_LogOk_k0 L (y0, y1, (IntKind.wrap .i64 (y2 + 1)), y3, y4, y5)) else none)
 else (some (Sum.inr (y3, y4, y5)))
theorem impl_LogOk_l0_eq (D : DFun E) (L : LFun E) (y0 : List XState) (y1 : Int) (y2 : Int) (y3 : Int) (y4 : Int) (y5 : List XState) : impl_LogOk_k0 (stepL E D L) (y0, y1, y2, y3, y4, y5) = impl_LogOk_l0 D L y0 y1 y2 y3 y4 y5 := by kernel_rfl
theorem impl_LogOk_l0_of (y0 : List XState) (y1 : Int) (y2 : Int) (y3 : Int) (y4 : Int) (y5 : List XState) {o : Bool ⊕ XLog} (h : impl_LogOk_l0 w wl y0 y1 y2 y3 y4 y5 = some o) : impl_LogOk_k0 wl (y0, y1, y2, y3, y4, y5) = some o := apL_close _ _ (impl_LogOk_l0_eq w wl y0 y1 y2 y3 y4 y5) h
noncomputable def impl_LogOk_raw (D : DFun E) (L : LFun E) (a0 : Int) (a1 : Int) (a2 : List XState) : Option (Bool) :=
 Option.bind (impl_LogOk_k0 L (a2, (((List.length a2) : Nat) : Int), 0, a0, a1, a2)) fun z3 =>
 elimS z3 (fun u4 =>
 some u4)
 (fun z5 =>
 Option.bind (impl_within D (z5.1, 1, 8)) fun r6 =>
 bif r6 then (bif (decide ((((List.length z5.2.2) : Nat) : Int) ≤ z5.1)) then (Option.bind (impl_within D (z5.2.1, 0, 100000)) fun r7 =>
 bif r7 then (some (decide ((IntKind.wrap .i64 (z5.2.1 + (((List.length z5.2.2) : Nat) : Int))) ≤ 100000)))
 else (some false))
 else (some false))
 else (some false))
theorem impl_LogOk_raw_eq (D : DFun E) (L : LFun E) (a0 : Int) (a1 : Int) (a2 : List XState) : impl_LogOk (stepD E D L) (a0, a1, a2) = impl_LogOk_raw D L a0 a1 a2 := by kernel_rfl
theorem impl_LogOk_of (a0 : Int) (a1 : Int) (a2 : List XState) {o : Bool} (h : impl_LogOk_raw w wl a0 a1 a2 = some o) : impl_LogOk w (a0, a1, a2) = some o := ap_close _ _ (impl_LogOk_raw_eq w wl a0 a1 a2) h
noncomputable def impl_VecOk_l0 (D : DFun E) (L : LFun E) (y0 : List Int) (y1 : Int) (y2 : List Int) (y3 : Int) (y4 : Int) : Option (Bool ⊕ XTree) :=
 bif (decide (y4 < y3)) then (bif inb y4 (List.length y2) then
 Option.bind (impl_within D ((rd1 (0 : Int) y2 y4), 0, 100000)) fun r1 =>
 bif (!r1) then (some (Sum.inl false))
 else (impl_VecOk_k0 L (y0, y1, y2, y3, (IntKind.wrap .i64 (y4 + 1)))) else none)
 else (some (Sum.inr (y0, y1)))
theorem impl_VecOk_l0_eq (D : DFun E) (L : LFun E) (y0 : List Int) (y1 : Int) (y2 : List Int) (y3 : Int) (y4 : Int) : impl_VecOk_k0 (stepL E D L) (y0, y1, y2, y3, y4) = impl_VecOk_l0 D L y0 y1 y2 y3 y4 := by kernel_rfl
theorem impl_VecOk_l0_of (y0 : List Int) (y1 : Int) (y2 : List Int) (y3 : Int) (y4 : Int) {o : Bool ⊕ XTree} (h : impl_VecOk_l0 w wl y0 y1 y2 y3 y4 = some o) : impl_VecOk_k0 wl (y0, y1, y2, y3, y4) = some o := apL_close _ _ (impl_VecOk_l0_eq w wl y0 y1 y2 y3 y4) h
noncomputable def impl_VecOk_raw (D : DFun E) (L : LFun E) (a0 : List Int) (a1 : Int) : Option (Bool) :=
 Option.bind (impl_VecOk_k0 L (a0, a1, a0, (((List.length a0) : Nat) : Int), 0)) fun z2 =>
 elimS z2 (fun u3 =>
 some u3)
 (fun z4 =>
 Option.bind (impl_within D (z4.2, 1, 5)) fun r5 =>
 bif r5 then (some (decide ((((List.length z4.1) : Nat) : Int) = z4.2)))
 else (some false))
theorem impl_VecOk_raw_eq (D : DFun E) (L : LFun E) (a0 : List Int) (a1 : Int) : impl_VecOk (stepD E D L) (a0, a1) = impl_VecOk_raw D L a0 a1 := by kernel_rfl
theorem impl_VecOk_of (a0 : List Int) (a1 : Int) {o : Bool} (h : impl_VecOk_raw w wl a0 a1 = some o) : impl_VecOk w (a0, a1) = some o := ap_close _ _ (impl_VecOk_raw_eq w wl a0 a1) h
noncomputable def slices_Maxint_int_l0 (D : DFun E) (L : LFun E) (y0 : List Int) (y1 : Int) (y2 : Int) : Option (Int) :=
 bif (decide (y2 < (((List.length y0) : Nat) : Int))) then (bif inb y2 (List.length y0) then
 slices_Maxint_int_k0 L (y0, (mxI y1 (rd1 (0 : Int) y0 y2)), (IntKind.wrap .i64 (y2 + 1))) else none)
 else (some y1)
theorem slices_Maxint_int_l0_eq (D : DFun E) (L : LFun E) (y0 : List Int) (y1 : Int) (y2 : Int) : slices_Maxint_int_k0 (stepL E D L) (y0, y1, y2) = slices_Maxint_int_l0 D L y0 y1 y2 := by kernel_rfl
theorem slices_Maxint_int_l0_of (y0 : List Int) (y1 : Int) (y2 : Int) {o : Int} (h : slices_Maxint_int_l0 w wl y0 y1 y2 = some o) : slices_Maxint_int_k0 wl (y0, y1, y2) = some o := apL_close _ _ (slices_Maxint_int_l0_eq w wl y0 y1 y2) h
noncomputable def slices_Maxint_int_raw (D : DFun E) (L : LFun E) (a0 : List Int) : Option (Int) :=
 bif (decide ((((List.length a0) : Nat) : Int) < 1)) then (none)
 else (bif inb 0 (List.length a0) then
 Option.bind (slices_Maxint_int_k0 L (a0, (rd1 (0 : Int) a0 0), 1)) fun z1 =>
 some z1 else none)
theorem slices_Maxint_int_raw_eq (D : DFun E) (L : LFun E) (a0 : List Int) : slices_Maxint_int (stepD E D L) a0 = slices_Maxint_int_raw D L a0 := by kernel_rfl
theorem slices_Maxint_int_of (a0 : List Int) {o : Int} (h : slices_Maxint_int_raw w wl a0 = some o) : slices_Maxint_int w a0 = some o := ap_close _ _ (slices_Maxint_int_raw_eq w wl a0) h
noncomputable def impl_TableOk_l0 (D : DFun E) (L : LFun E) (y0 : List (List Int)) (y1 : Int) (y2 : List (List Int)) (y3 : Int) (y4 : Int) : Option (Bool ⊕ (((List (List Int)) × Int))) :=
 bif (decide (y4 < y3)) then (bif inb y4 (List.length y2) then
 Option.bind (impl_TableOk_k2 L (y0, y1, (rd1 ([] : List Int) y2 y4), y2, y3, y4, (rd1 ([] : List Int) y2 y4), (((List.length (rd1 ([] : List Int) y2 y4)) : Nat) : Int), 0)) fun z2 =>
 elimS z2 (fun u3 =>
 some (Sum.inl u3))
 (fun z4 =>
 bif (!decide ((((List.length z4.2.2.1) : Nat) : Int) = 5)) then (some (Sum.inl false))
 else (impl_TableOk_k0 L (z4.1, z4.2.1, z4.2.2.2.1, z4.2.2.2.2.1, (IntKind.wrap .i64 (z4.2.2.2.2.2 + 1))))) else none)
 else (some (Sum.inr (y0, y1)))
theorem impl_TableOk_l0_eq (D : DFun E) (L : LFun E) (y0 : List (List Int)) (y1 : Int) (y2 : List (List Int)) (y3 : Int) (y4 : Int) : impl_TableOk_k0 (stepL E D L) (y0, y1, y2, y3, y4) = impl_TableOk_l0 D L y0 y1 y2 y3 y4 := by kernel_rfl
theorem impl_TableOk_l0_of (y0 : List (List Int)) (y1 : Int) (y2 : List (List Int)) (y3 : Int) (y4 : Int) {o : Bool ⊕ (((List (List Int)) × Int))} (h : impl_TableOk_l0 w wl y0 y1 y2 y3 y4 = some o) : impl_TableOk_k0 wl (y0, y1, y2, y3, y4) = some o := apL_close _ _ (impl_TableOk_l0_eq w wl y0 y1 y2 y3 y4) h
noncomputable def impl_TableOk_l2 (D : DFun E) (L : LFun E) (y0 : List (List Int)) (y1 : Int) (y2 : List Int) (y3 : List (List Int)) (y4 : Int) (y5 : Int) (y6 : List Int) (y7 : Int) (y8 : Int) : Option (Bool ⊕ (((List (List Int)) × Int × (List Int) × (List (List Int)) × Int × Int))) :=
 bif (decide (y8 < y7)) then (bif inb y8 (List.length y6) then
 Option.bind (impl_within D ((rd1 (0 : Int) y6 y8), 0, 1000)) fun r1 =>
 bif (!r1) then (some (Sum.inl false))
 else (impl_TableOk_k2 L (y0, y1, y2, y3, y4, y5, y6, y7, (IntKind.wrap .i64 (y8 + 1)))) else none)
 else (some (Sum.inr (y0, y1, y2, y3, y4, y5)))
theorem impl_TableOk_l2_eq (D : DFun E) (L : LFun E) (y0 : List (List Int)) (y1 : Int) (y2 : List Int) (y3 : List (List Int)) (y4 : Int) (y5 : Int) (y6 : List Int) (y7 : Int) (y8 : Int) : impl_TableOk_k2 (stepL E D L) (y0, y1, y2, y3, y4, y5, y6, y7, y8) = impl_TableOk_l2 D L y0 y1 y2 y3 y4 y5 y6 y7 y8 := by kernel_rfl
theorem impl_TableOk_l2_of (y0 : List (List Int)) (y1 : Int) (y2 : List Int) (y3 : List (List Int)) (y4 : Int) (y5 : Int) (y6 : List Int) (y7 : Int) (y8 : Int) {o : Bool ⊕ (((List (List Int)) × Int × (List Int) × (List (List Int)) × Int × Int))} (h : impl_TableOk_l2 w wl y0 y1 y2 y3 y4 y5 y6 y7 y8 = some o) : impl_TableOk_k2 wl (y0, y1, y2, y3, y4, y5, y6, y7, y8) = some o := apL_close _ _ (impl_TableOk_l2_eq w wl y0 y1 y2 y3 y4 y5 y6 y7 y8) h
noncomputable def impl_TableOk_raw (D : DFun E) (L : LFun E) (a0 : List (List Int)) (a1 : Int) : Option (Bool) :=
 Option.bind (impl_TableOk_k0 L (a0, a1, a0, (((List.length a0) : Nat) : Int), 0)) fun z5 =>
 elimS z5 (fun u6 =>
 some u6)
 (fun z7 =>
 Option.bind (impl_within D (z7.2, 1, 5)) fun r8 =>
 bif r8 then (some (decide ((((List.length z7.1) : Nat) : Int) = z7.2)))
 else (some false))
theorem impl_TableOk_raw_eq (D : DFun E) (L : LFun E) (a0 : List (List Int)) (a1 : Int) : impl_TableOk (stepD E D L) (a0, a1) = impl_TableOk_raw D L a0 a1 := by kernel_rfl
theorem impl_TableOk_of (a0 : List (List Int)) (a1 : Int) {o : Bool} (h : impl_TableOk_raw w wl a0 a1 = some o) : impl_TableOk w (a0, a1) = some o := ap_close _ _ (impl_TableOk_raw_eq w wl a0 a1) h
noncomputable def impl_sessOk_l0 (D : DFun E) (L : LFun E) (y0 : List XSess) (y1 : Int) (y2 : Int) (y3 : Int) (y4 : Int) (y5 : List XItem) (y6 : List XFloor) (y7 : List Int) (y8 : Int) (y9 : Int) (y10 : Int) (y11 : List XState) (y12 : List Int) (y13 : List Int) (y14 : List (List Int)) (y15 : Int) (y16 : Int) (y17 : List XSess) (y18 : Int) (y19 : Int) (y20 : Int) (y21 : List XRise) : Option (Bool ⊕ XNode) :=
 bif (decide (y2 < y1)) then (bif inb y2 (List.length y0) then
 let e1 := (rd1 zSess y0 y2)
 Option.bind (impl_isPeer D (y3, y4, y5, y6, y7, y8, y9, y10, y11, y12, y13, y14, y15, y16, y17, y18, y19, y20, y21, e1.1)) fun r2 =>
 bif (!r2) then (some (Sum.inl false))
 else (Option.bind (impl_within D (e1.2.1, 0, 100000)) fun r3 =>
 bif (!r3) then (some (Sum.inl false))
 else (Option.bind (impl_within D (e1.2.2.2, 0, y18)) fun r4 =>
 bif (!r4) then (some (Sum.inl false))
 else (Option.bind (impl_Slot D (y3, y4, y5, y6, y7, y8, y9, y10, y11, y12, y13, y14, y15, y16, y17, y18, y19, y20, y21, e1.1, e1.2.2.1)) fun r5 =>
 bif (!decide (r5 = y2)) then (some (Sum.inl false))
 else (impl_sessOk_k0 L (y0, y1, (IntKind.wrap .i64 (y2 + 1)), y3, y4, y5, y6, y7, y8, y9, y10, y11, y12, y13, y14, y15, y16, y17, y18, y19, y20, y21))))) else none)
 else (some (Sum.inr (y3, y4, y5, y6, y7, y8, y9, y10, y11, y12, y13, y14, y15, y16, y17, y18, y19, y20, y21)))
theorem impl_sessOk_l0_eq (D : DFun E) (L : LFun E) (y0 : List XSess) (y1 : Int) (y2 : Int) (y3 : Int) (y4 : Int) (y5 : List XItem) (y6 : List XFloor) (y7 : List Int) (y8 : Int) (y9 : Int) (y10 : Int) (y11 : List XState) (y12 : List Int) (y13 : List Int) (y14 : List (List Int)) (y15 : Int) (y16 : Int) (y17 : List XSess) (y18 : Int) (y19 : Int) (y20 : Int) (y21 : List XRise) : impl_sessOk_k0 (stepL E D L) (y0, y1, y2, y3, y4, y5, y6, y7, y8, y9, y10, y11, y12, y13, y14, y15, y16, y17, y18, y19, y20, y21) = impl_sessOk_l0 D L y0 y1 y2 y3 y4 y5 y6 y7 y8 y9 y10 y11 y12 y13 y14 y15 y16 y17 y18 y19 y20 y21 := by kernel_rfl
theorem impl_sessOk_l0_of (y0 : List XSess) (y1 : Int) (y2 : Int) (y3 : Int) (y4 : Int) (y5 : List XItem) (y6 : List XFloor) (y7 : List Int) (y8 : Int) (y9 : Int) (y10 : Int) (y11 : List XState) (y12 : List Int) (y13 : List Int) (y14 : List (List Int)) (y15 : Int) (y16 : Int) (y17 : List XSess) (y18 : Int) (y19 : Int) (y20 : Int) (y21 : List XRise) {o : Bool ⊕ XNode} (h : impl_sessOk_l0 w wl y0 y1 y2 y3 y4 y5 y6 y7 y8 y9 y10 y11 y12 y13 y14 y15 y16 y17 y18 y19 y20 y21 = some o) : impl_sessOk_k0 wl (y0, y1, y2, y3, y4, y5, y6, y7, y8, y9, y10, y11, y12, y13, y14, y15, y16, y17, y18, y19, y20, y21) = some o := apL_close _ _ (impl_sessOk_l0_eq w wl y0 y1 y2 y3 y4 y5 y6 y7 y8 y9 y10 y11 y12 y13 y14 y15 y16 y17 y18 y19 y20 y21) h
noncomputable def impl_sessOk_raw (D : DFun E) (L : LFun E) (a0 : Int) (a1 : Int) (a2 : List XItem) (a3 : List XFloor) (a4 : List Int) (a5 : Int) (a6 : Int) (a7 : Int) (a8 : List XState) (a9 : List Int) (a10 : List Int) (a11 : List (List Int)) (a12 : Int) (a13 : Int) (a14 : List XSess) (a15 : Int) (a16 : Int) (a17 : Int) (a18 : List XRise) : Option (Bool) :=
 Option.bind (impl_sessOk_k0 L (a14, (((List.length a14) : Nat) : Int), 0, a0, a1, a2, a3, a4, a5, a6, a7, a8, a9, a10, a11, a12, a13, a14, a15, a16, a17, a18)) fun z6 =>
 elimS z6 (fun u7 =>
 some u7)
 (fun z8 =>
 Option.bind (impl_within D (z8.2.2.2.2.2.2.2.2.2.2.2.2.2.1, 1, 4)) fun r9 =>
 bif r9 then (some (decide ((((List.length z8.2.2.2.2.2.2.2.2.2.2.2.2.2.2.1) : Nat) : Int) ≤ z8.2.2.2.2.2.2.2.2.2.2.2.2.2.1)))
 else (some false))
theorem impl_sessOk_raw_eq (D : DFun E) (L : LFun E) (a0 : Int) (a1 : Int) (a2 : List XItem) (a3 : List XFloor) (a4 : List Int) (a5 : Int) (a6 : Int) (a7 : Int) (a8 : List XState) (a9 : List Int) (a10 : List Int) (a11 : List (List Int)) (a12 : Int) (a13 : Int) (a14 : List XSess) (a15 : Int) (a16 : Int) (a17 : Int) (a18 : List XRise) : impl_sessOk (stepD E D L) (a0, a1, a2, a3, a4, a5, a6, a7, a8, a9, a10, a11, a12, a13, a14, a15, a16, a17, a18) = impl_sessOk_raw D L a0 a1 a2 a3 a4 a5 a6 a7 a8 a9 a10 a11 a12 a13 a14 a15 a16 a17 a18 := by kernel_rfl
theorem impl_sessOk_of (a0 : Int) (a1 : Int) (a2 : List XItem) (a3 : List XFloor) (a4 : List Int) (a5 : Int) (a6 : Int) (a7 : Int) (a8 : List XState) (a9 : List Int) (a10 : List Int) (a11 : List (List Int)) (a12 : Int) (a13 : Int) (a14 : List XSess) (a15 : Int) (a16 : Int) (a17 : Int) (a18 : List XRise) {o : Bool} (h : impl_sessOk_raw w wl a0 a1 a2 a3 a4 a5 a6 a7 a8 a9 a10 a11 a12 a13 a14 a15 a16 a17 a18 = some o) : impl_sessOk w (a0, a1, a2, a3, a4, a5, a6, a7, a8, a9, a10, a11, a12, a13, a14, a15, a16, a17, a18) = some o := ap_close _ _ (impl_sessOk_raw_eq w wl a0 a1 a2 a3 a4 a5 a6 a7 a8 a9 a10 a11 a12 a13 a14 a15 a16 a17 a18) h
noncomputable def impl_risesOk_l0 (D : DFun E) (L : LFun E) (y0 : List XRise) (y1 : Int) (y2 : Int) (y3 : Int) (y4 : Int) (y5 : List XItem) (y6 : List XFloor) (y7 : List Int) (y8 : Int) (y9 : Int) (y10 : Int) (y11 : List XState) (y12 : List Int) (y13 : List Int) (y14 : List (List Int)) (y15 : Int) (y16 : Int) (y17 : List XSess) (y18 : Int) (y19 : Int) (y20 : Int) (y21 : List XRise) : Option (Bool ⊕ XNode) :=
 bif (decide (y2 < y1)) then (bif inb y2 (List.length y0) then
 let e1 := (rd1 zRise y0 y2)
 Option.bind (impl_within D (e1.1, 0, 1000)) fun r2 =>
 bif (!r2) then (some (Sum.inl false))
 else (Option.bind (impl_within D (e1.2.1, 0, 100000)) fun r3 =>
 bif (!r3) then (some (Sum.inl false))
 else (Option.bind (impl_within D (e1.2.2, 0, y20)) fun r4 =>
 bif (!r4) then (some (Sum.inl false))
 else (impl_risesOk_k0 L (y0, y1, (IntKind.wrap .i64 (y2 + 1)), y3, y4, y5, y6, y7, y8, y9, y10, y11, y12, y13, y14, y15, y16, y17, y18, y19, y20, y21)))) else none)
 else (some (Sum.inr (y3, y4, y5, y6, y7, y8, y9, y10, y11, y12, y13, y14, y15, y16, y17, y18, y19, y20, y21)))
theorem impl_risesOk_l0_eq (D : DFun E) (L : LFun E) (y0 : List XRise) (y1 : Int) (y2 : Int) (y3 : Int) (y4 : Int) (y5 : List XItem) (y6 : List XFloor) (y7 : List Int) (y8 : Int) (y9 : Int) (y10 : Int) (y11 : List XState) (y12 : List Int) (y13 : List Int) (y14 : List (List Int)) (y15 : Int) (y16 : Int) (y17 : List XSess) (y18 : Int) (y19 : Int) (y20 : Int) (y21 : List XRise) : impl_risesOk_k0 (stepL E D L) (y0, y1, y2, y3, y4, y5, y6, y7, y8, y9, y10, y11, y12, y13, y14, y15, y16, y17, y18, y19, y20, y21) = impl_risesOk_l0 D L y0 y1 y2 y3 y4 y5 y6 y7 y8 y9 y10 y11 y12 y13 y14 y15 y16 y17 y18 y19 y20 y21 := by kernel_rfl
theorem impl_risesOk_l0_of (y0 : List XRise) (y1 : Int) (y2 : Int) (y3 : Int) (y4 : Int) (y5 : List XItem) (y6 : List XFloor) (y7 : List Int) (y8 : Int) (y9 : Int) (y10 : Int) (y11 : List XState) (y12 : List Int) (y13 : List Int) (y14 : List (List Int)) (y15 : Int) (y16 : Int) (y17 : List XSess) (y18 : Int) (y19 : Int) (y20 : Int) (y21 : List XRise) {o : Bool ⊕ XNode} (h : impl_risesOk_l0 w wl y0 y1 y2 y3 y4 y5 y6 y7 y8 y9 y10 y11 y12 y13 y14 y15 y16 y17 y18 y19 y20 y21 = some o) : impl_risesOk_k0 wl (y0, y1, y2, y3, y4, y5, y6, y7, y8, y9, y10, y11, y12, y13, y14, y15, y16, y17, y18, y19, y20, y21) = some o := apL_close _ _ (impl_risesOk_l0_eq w wl y0 y1 y2 y3 y4 y5 y6 y7 y8 y9 y10 y11 y12 y13 y14 y15 y16 y17 y18 y19 y20 y21) h
noncomputable def impl_risesOk_raw (D : DFun E) (L : LFun E) (a0 : Int) (a1 : Int) (a2 : List XItem) (a3 : List XFloor) (a4 : List Int) (a5 : Int) (a6 : Int) (a7 : Int) (a8 : List XState) (a9 : List Int) (a10 : List Int) (a11 : List (List Int)) (a12 : Int) (a13 : Int) (a14 : List XSess) (a15 : Int) (a16 : Int) (a17 : Int) (a18 : List XRise) : Option (Bool) :=
 Option.bind (impl_risesOk_k0 L (a18, (((List.length a18) : Nat) : Int), 0, a0, a1, a2, a3, a4, a5, a6, a7, a8, a9, a10, a11, a12, a13, a14, a15, a16, a17, a18)) fun z5 =>
 elimS z5 (fun u6 =>
 some u6)
 (fun z7 =>
 some (decide ((((List.length z7.2.2.2.2.2.2.2.2.2.2.2.2.2.2.2.2.2.2) : Nat) : Int) = 5)))
theorem impl_risesOk_raw_eq (D : DFun E) (L : LFun E) (a0 : Int) (a1 : Int) (a2 : List XItem) (a3 : List XFloor) (a4 : List Int) (a5 : Int) (a6 : Int) (a7 : Int) (a8 : List XState) (a9 : List Int) (a10 : List Int) (a11 : List (List Int)) (a12 : Int) (a13 : Int) (a14 : List XSess) (a15 : Int) (a16 : Int) (a17 : Int) (a18 : List XRise) : impl_risesOk (stepD E D L) (a0, a1, a2, a3, a4, a5, a6, a7, a8, a9, a10, a11, a12, a13, a14, a15, a16, a17, a18) = impl_risesOk_raw D L a0 a1 a2 a3 a4 a5 a6 a7 a8 a9 a10 a11 a12 a13 a14 a15 a16 a17 a18 := by kernel_rfl
theorem impl_risesOk_of (a0 : Int) (a1 : Int) (a2 : List XItem) (a3 : List XFloor) (a4 : List Int) (a5 : Int) (a6 : Int) (a7 : Int) (a8 : List XState) (a9 : List Int) (a10 : List Int) (a11 : List (List Int)) (a12 : Int) (a13 : Int) (a14 : List XSess) (a15 : Int) (a16 : Int) (a17 : Int) (a18 : List XRise) {o : Bool} (h : impl_risesOk_raw w wl a0 a1 a2 a3 a4 a5 a6 a7 a8 a9 a10 a11 a12 a13 a14 a15 a16 a17 a18 = some o) : impl_risesOk w (a0, a1, a2, a3, a4, a5, a6, a7, a8, a9, a10, a11, a12, a13, a14, a15, a16, a17, a18) = some o := ap_close _ _ (impl_risesOk_raw_eq w wl a0 a1 a2 a3 a4 a5 a6 a7 a8 a9 a10 a11 a12 a13 a14 a15 a16 a17 a18) h
noncomputable def impl_PutText_raw (D : DFun E) (L : LFun E) (a0 : ByteArray) : Option (List Int) :=
 Option.bind (impl_PutNum D (((ByteArray.size a0) : Nat) : Int)) fun r1 =>
 Option.bind (impl_joined D [r1, (ofBytes a0)]) fun r2 =>
 some r2
theorem impl_PutText_raw_eq (D : DFun E) (L : LFun E) (a0 : ByteArray) : impl_PutText (stepD E D L) a0 = impl_PutText_raw D L a0 := by kernel_rfl
theorem impl_PutText_of (a0 : ByteArray) {o : List Int} (h : impl_PutText_raw w wl a0 = some o) : impl_PutText w a0 = some o := ap_close _ _ (impl_PutText_raw_eq w wl a0) h
noncomputable def laws_eqSess_raw (D : DFun E) (L : LFun E) (a0 : Int) (a1 : Int) (a2 : Bool) (a3 : Int) (a4 : Int) (a5 : Int) (a6 : Bool) (a7 : Int) : Option (Bool) :=
 bif (!decide (a0 = a4)) then (some false)
 else (bif (!decide (a1 = a5)) then (some false)
 else (bif (!(a2 == a6)) then (some false)
 else (bif (!decide (a3 = a7)) then (some false)
 else (some true))))
theorem laws_eqSess_raw_eq (D : DFun E) (L : LFun E) (a0 : Int) (a1 : Int) (a2 : Bool) (a3 : Int) (a4 : Int) (a5 : Int) (a6 : Bool) (a7 : Int) : laws_eqSess (stepD E D L) (a0, a1, a2, a3, a4, a5, a6, a7) = laws_eqSess_raw D L a0 a1 a2 a3 a4 a5 a6 a7 := by kernel_rfl
theorem laws_eqSess_of (a0 : Int) (a1 : Int) (a2 : Bool) (a3 : Int) (a4 : Int) (a5 : Int) (a6 : Bool) (a7 : Int) {o : Bool} (h : laws_eqSess_raw w wl a0 a1 a2 a3 a4 a5 a6 a7 = some o) : laws_eqSess w (a0, a1, a2, a3, a4, a5, a6, a7) = some o := ap_close _ _ (laws_eqSess_raw_eq w wl a0 a1 a2 a3 a4 a5 a6 a7) h
noncomputable def laws_eqRise_raw (D : DFun E) (L : LFun E) (a0 : Int) (a1 : Int) (a2 : Int) (a3 : Int) (a4 : Int) (a5 : Int) : Option (Bool) :=
 bif (!decide (a0 = a3)) then (some false)
 else (bif (!decide (a1 = a4)) then (some false)
 else (bif (!decide (a2 = a5)) then (some false)
 else (some true)))
theorem laws_eqRise_raw_eq (D : DFun E) (L : LFun E) (a0 : Int) (a1 : Int) (a2 : Int) (a3 : Int) (a4 : Int) (a5 : Int) : laws_eqRise (stepD E D L) (a0, a1, a2, a3, a4, a5) = laws_eqRise_raw D L a0 a1 a2 a3 a4 a5 := by kernel_rfl
theorem laws_eqRise_of (a0 : Int) (a1 : Int) (a2 : Int) (a3 : Int) (a4 : Int) (a5 : Int) {o : Bool} (h : laws_eqRise_raw w wl a0 a1 a2 a3 a4 a5 = some o) : laws_eqRise w (a0, a1, a2, a3, a4, a5) = some o := ap_close _ _ (laws_eqRise_raw_eq w wl a0 a1 a2 a3 a4 a5) h
noncomputable def laws_szItem_raw (D : DFun E) (L : LFun E) (a0 : Int) (a1 : Int) (a2 : Int) (a3 : Int) (a4 : Int) (a5 : ByteArray) (a6 : Int) : Option (Int) :=
 Option.bind (laws_szEntry D (a1, a2, a3, a4, a5, a6)) fun r1 =>
 bif (decide (r1 < 0)) then (some (-1))
 else (some r1)
theorem laws_szItem_raw_eq (D : DFun E) (L : LFun E) (a0 : Int) (a1 : Int) (a2 : Int) (a3 : Int) (a4 : Int) (a5 : ByteArray) (a6 : Int) : laws_szItem (stepD E D L) (a0, a1, a2, a3, a4, a5, a6) = laws_szItem_raw D L a0 a1 a2 a3 a4 a5 a6 := by kernel_rfl
theorem laws_szItem_of (a0 : Int) (a1 : Int) (a2 : Int) (a3 : Int) (a4 : Int) (a5 : ByteArray) (a6 : Int) {o : Int} (h : laws_szItem_raw w wl a0 a1 a2 a3 a4 a5 a6 = some o) : laws_szItem w (a0, a1, a2, a3, a4, a5, a6) = some o := ap_close _ _ (laws_szItem_raw_eq w wl a0 a1 a2 a3 a4 a5 a6) h
noncomputable def laws_toItem_raw (D : DFun E) (L : LFun E) (a0 : Int) (a1 : Int) (a2 : Int) (a3 : Int) (a4 : Int) (a5 : ByteArray) : Option (XItem) :=
 Option.bind (laws_toEntry D (a1, a2, a3, a4, a5)) fun r1 =>
 some (a0, r1.1, r1.2.1, r1.2.2.1, r1.2.2.2.1, r1.2.2.2.2)
theorem laws_toItem_raw_eq (D : DFun E) (L : LFun E) (a0 : Int) (a1 : Int) (a2 : Int) (a3 : Int) (a4 : Int) (a5 : ByteArray) : laws_toItem (stepD E D L) (a0, a1, a2, a3, a4, a5) = laws_toItem_raw D L a0 a1 a2 a3 a4 a5 := by kernel_rfl
theorem laws_toItem_of (a0 : Int) (a1 : Int) (a2 : Int) (a3 : Int) (a4 : Int) (a5 : ByteArray) {o : XItem} (h : laws_toItem_raw w wl a0 a1 a2 a3 a4 a5 = some o) : laws_toItem w (a0, a1, a2, a3, a4, a5) = some o := ap_close _ _ (laws_toItem_raw_eq w wl a0 a1 a2 a3 a4 a5) h
noncomputable def laws_toFloor_raw (D : DFun E) (L : LFun E) (a0 : Int) (a1 : Int) : Option (XFloor) :=
 some (a0, a1)
theorem laws_toFloor_raw_eq (D : DFun E) (L : LFun E) (a0 : Int) (a1 : Int) : laws_toFloor (stepD E D L) (a0, a1) = laws_toFloor_raw D L a0 a1 := by kernel_rfl
theorem laws_toFloor_of (a0 : Int) (a1 : Int) {o : XFloor} (h : laws_toFloor_raw w wl a0 a1 = some o) : laws_toFloor w (a0, a1) = some o := ap_close _ _ (laws_toFloor_raw_eq w wl a0 a1) h
noncomputable def laws_eqFloor_raw (D : DFun E) (L : LFun E) (a0 : Int) (a1 : Int) (a2 : Int) (a3 : Int) : Option (Bool) :=
 bif (!decide (a0 = a2)) then (some false)
 else (bif (!decide (a1 = a3)) then (some false)
 else (some true))
theorem laws_eqFloor_raw_eq (D : DFun E) (L : LFun E) (a0 : Int) (a1 : Int) (a2 : Int) (a3 : Int) : laws_eqFloor (stepD E D L) (a0, a1, a2, a3) = laws_eqFloor_raw D L a0 a1 a2 a3 := by kernel_rfl
theorem laws_eqFloor_of (a0 : Int) (a1 : Int) (a2 : Int) (a3 : Int) {o : Bool} (h : laws_eqFloor_raw w wl a0 a1 a2 a3 = some o) : laws_eqFloor w (a0, a1, a2, a3) = some o := ap_close _ _ (laws_eqFloor_raw_eq w wl a0 a1 a2 a3) h
noncomputable def spec_PutNum_l0 (D : DFun E) (L : LFun E) (y0 : Int) (y1 : List Int) : Option (((Int × (List Int)))) :=
 bif (decide (127 < y0)) then (bif decide ((128 : Int) ≠ 0) then
 bif fits (List.length y1 + List.length ([(IntKind.wrap .u8 (IntKind.wrap .i64 ((Int.tmod y0 128) + 128)))] : List Int)) 1 then
 bif decide ((128 : Int) ≠ 0) then
 spec_PutNum_k0 L ((IntKind.wrap .i64 (Int.tdiv y0 128)), (y1 ++ ([(IntKind.wrap .u8 (IntKind.wrap .i64 ((Int.tmod y0 128) + 128)))] : List Int))) else none else none else none)
 else (some (y0, y1))
theorem spec_PutNum_l0_eq (D : DFun E) (L : LFun E) (y0 : Int) (y1 : List Int) : spec_PutNum_k0 (stepL E D L) (y0, y1) = spec_PutNum_l0 D L y0 y1 := by kernel_rfl
theorem spec_PutNum_l0_of (y0 : Int) (y1 : List Int) {o : ((Int × (List Int)))} (h : spec_PutNum_l0 w wl y0 y1 = some o) : spec_PutNum_k0 wl (y0, y1) = some o := apL_close _ _ (spec_PutNum_l0_eq w wl y0 y1) h
noncomputable def spec_PutNum_raw (D : DFun E) (L : LFun E) (a0 : Int) : Option (List Int) :=
 Option.bind (spec_l1In D (a0, 0, 2147483647)) fun r1 =>
 bif (!r1) then (some [])
 else (Option.bind (spec_PutNum_k0 L (a0, [])) fun z2 =>
 bif fits (List.length z2.2 + List.length ([(IntKind.wrap .u8 z2.1)] : List Int)) 1 then
 some (z2.2 ++ ([(IntKind.wrap .u8 z2.1)] : List Int)) else none)
theorem spec_PutNum_raw_eq (D : DFun E) (L : LFun E) (a0 : Int) : spec_PutNum (stepD E D L) a0 = spec_PutNum_raw D L a0 := by kernel_rfl
theorem spec_PutNum_of (a0 : Int) {o : List Int} (h : spec_PutNum_raw w wl a0 = some o) : spec_PutNum w a0 = some o := ap_close _ _ (spec_PutNum_raw_eq w wl a0) h
noncomputable def spec_Crc_l0 (D : DFun E) (L : LFun E) (y0 : List Int) (y1 : Int) (y2 : Int) : Option (Int) :=
 bif (decide (y2 < (((List.length y0) : Nat) : Int))) then (bif inb y2 (List.length y0) then
 Option.bind (spec_Crc_k2 L (y0, (bits .xor .i64 y1 (IntKind.wrap .i64 (rd1 (0 : Int) y0 y2))), y2, 0)) fun z1 =>
 spec_Crc_k0 L (z1.1, z1.2.1, (IntKind.wrap .i64 (z1.2.2 + 1))) else none)
 else (some y1)
theorem spec_Crc_l0_eq (D : DFun E) (L : LFun E) (y0 : List Int) (y1 : Int) (y2 : Int) : spec_Crc_k0 (stepL E D L) (y0, y1, y2) = spec_Crc_l0 D L y0 y1 y2 := by kernel_rfl
theorem spec_Crc_l0_of (y0 : List Int) (y1 : Int) (y2 : Int) {o : Int} (h : spec_Crc_l0 w wl y0 y1 y2 = some o) : spec_Crc_k0 wl (y0, y1, y2) = some o := apL_close _ _ (spec_Crc_l0_eq w wl y0 y1 y2) h
noncomputable def spec_Crc_l2 (D : DFun E) (L : LFun E) (y0 : List Int) (y1 : Int) (y2 : Int) (y3 : Int) : Option (Xl1Cur) :=
 bif (decide (y3 < 8)) then (bif decide ((2 : Int) ≠ 0) then
 bif decide ((2 : Int) ≠ 0) then
 bif (decide ((Int.tmod y1 2) = 1)) then (spec_Crc_k2 L (y0, (bits .xor .i64 (IntKind.wrap .i64 (Int.tdiv y1 2)) 3988292384), y2, (IntKind.wrap .i64 (y3 + 1))))
 else (spec_Crc_k2 L (y0, (IntKind.wrap .i64 (Int.tdiv y1 2)), y2, (IntKind.wrap .i64 (y3 + 1)))) else none else none)
 else (some (y0, y1, y2))
theorem spec_Crc_l2_eq (D : DFun E) (L : LFun E) (y0 : List Int) (y1 : Int) (y2 : Int) (y3 : Int) : spec_Crc_k2 (stepL E D L) (y0, y1, y2, y3) = spec_Crc_l2 D L y0 y1 y2 y3 := by kernel_rfl
theorem spec_Crc_l2_of (y0 : List Int) (y1 : Int) (y2 : Int) (y3 : Int) {o : Xl1Cur} (h : spec_Crc_l2 w wl y0 y1 y2 y3 = some o) : spec_Crc_k2 wl (y0, y1, y2, y3) = some o := apL_close _ _ (spec_Crc_l2_eq w wl y0 y1 y2 y3) h
noncomputable def spec_Crc_raw (D : DFun E) (L : LFun E) (a0 : List Int) : Option (Int) :=
 Option.bind (spec_Crc_k0 L (a0, 4294967295, 0)) fun z2 =>
 some (bits .xor .i64 z2 4294967295)
theorem spec_Crc_raw_eq (D : DFun E) (L : LFun E) (a0 : List Int) : spec_Crc (stepD E D L) a0 = spec_Crc_raw D L a0 := by kernel_rfl
theorem spec_Crc_of (a0 : List Int) {o : Int} (h : spec_Crc_raw w wl a0 = some o) : spec_Crc w a0 = some o := ap_close _ _ (spec_Crc_raw_eq w wl a0) h
noncomputable def impl_Crc_l0 (D : DFun E) (L : LFun E) (y0 : Int) (y1 : List Int) (y2 : Int) (y3 : Int) : Option (Int) :=
 bif (decide (y3 < y2)) then (bif inb y3 (List.length y1) then
 Option.bind (impl_Crc_k2 L ((bits .xor .i64 y0 (IntKind.wrap .i64 (rd1 (0 : Int) y1 y3))), y1, y2, y3, 0)) fun z1 =>
 impl_Crc_k0 L (z1.1, z1.2.1, z1.2.2.1, (IntKind.wrap .i64 (z1.2.2.2 + 1))) else none)
 else (some y0)
theorem impl_Crc_l0_eq (D : DFun E) (L : LFun E) (y0 : Int) (y1 : List Int) (y2 : Int) (y3 : Int) : impl_Crc_k0 (stepL E D L) (y0, y1, y2, y3) = impl_Crc_l0 D L y0 y1 y2 y3 := by kernel_rfl
theorem impl_Crc_l0_of (y0 : Int) (y1 : List Int) (y2 : Int) (y3 : Int) {o : Int} (h : impl_Crc_l0 w wl y0 y1 y2 y3 = some o) : impl_Crc_k0 wl (y0, y1, y2, y3) = some o := apL_close _ _ (impl_Crc_l0_eq w wl y0 y1 y2 y3) h
noncomputable def impl_Crc_l2 (D : DFun E) (L : LFun E) (y0 : Int) (y1 : List Int) (y2 : Int) (y3 : Int) (y4 : Int) : Option (((Int × (List Int) × Int × Int))) :=
 bif (decide (y4 < 8)) then (bif decide ((2 : Int) ≠ 0) then
 bif decide ((2 : Int) ≠ 0) then
 bif (decide ((Int.tmod y0 2) = 1)) then (impl_Crc_k2 L ((bits .xor .i64 (IntKind.wrap .i64 (Int.tdiv y0 2)) 3988292384), y1, y2, y3, (IntKind.wrap .i64 (y4 + 1))))
 else (impl_Crc_k2 L ((IntKind.wrap .i64 (Int.tdiv y0 2)), y1, y2, y3, (IntKind.wrap .i64 (y4 + 1)))) else none else none)
 else (some (y0, y1, y2, y3))
theorem impl_Crc_l2_eq (D : DFun E) (L : LFun E) (y0 : Int) (y1 : List Int) (y2 : Int) (y3 : Int) (y4 : Int) : impl_Crc_k2 (stepL E D L) (y0, y1, y2, y3, y4) = impl_Crc_l2 D L y0 y1 y2 y3 y4 := by kernel_rfl
theorem impl_Crc_l2_of (y0 : Int) (y1 : List Int) (y2 : Int) (y3 : Int) (y4 : Int) {o : ((Int × (List Int) × Int × Int))} (h : impl_Crc_l2 w wl y0 y1 y2 y3 y4 = some o) : impl_Crc_k2 wl (y0, y1, y2, y3, y4) = some o := apL_close _ _ (impl_Crc_l2_eq w wl y0 y1 y2 y3 y4) h
noncomputable def impl_Crc_raw (D : DFun E) (L : LFun E) (a0 : List Int) : Option (Int) :=
 Option.bind (impl_Crc_k0 L (4294967295, a0, (((List.length a0) : Nat) : Int), 0)) fun z2 =>
 some (bits .xor .i64 z2 4294967295)
theorem impl_Crc_raw_eq (D : DFun E) (L : LFun E) (a0 : List Int) : impl_Crc (stepD E D L) a0 = impl_Crc_raw D L a0 := by kernel_rfl
theorem impl_Crc_of (a0 : List Int) {o : Int} (h : impl_Crc_raw w wl a0 = some o) : impl_Crc w a0 = some o := ap_close _ _ (impl_Crc_raw_eq w wl a0) h
end Go.Proofs.Ytgkobeililjgbaa.M
