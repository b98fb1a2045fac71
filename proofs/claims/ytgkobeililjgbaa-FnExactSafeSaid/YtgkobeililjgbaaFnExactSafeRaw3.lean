/- Plain forms of the functions that FnExactSafe reaches, part 3. No conditions. -/
import Derived.Test.YtgkobeililjgbaaFnExactSafeTab
namespace Go.Proofs.Ytgkobeililjgbaa.M
open Go Go.Eng Go.Proofs
set_option linter.unusedVariables false
noncomputable def laws_eqFloorS_l0 (D : DFun E) (L : LFun E) (y0 : List XFloor) (y1 : List XFloor) (y2 : Int) : Option (Bool ⊕ Unit) :=
 bif (decide (y2 < (((List.length y0) : Nat) : Int))) then (bif inb y2 (List.length y0) then
 let e1 := (rd1 zFloor y0 y2)
 bif inb y2 (List.length y1) then
 let e2 := (rd1 zFloor y1 y2)
 Option.bind (laws_eqFloor D (e1.1, e1.2, e2.1, e2.2)) fun r3 =>
 bif (!r3) then (some (Sum.inl false))
 else (laws_eqFloorS_k0 L (y0, y1, (IntKind.wrap .i64 (y2 + 1)))) else none else none)
 else (some (Sum.inr ()))
theorem laws_eqFloorS_l0_eq (D : DFun E) (L : LFun E) (y0 : List XFloor) (y1 : List XFloor) (y2 : Int) : laws_eqFloorS_k0 (stepL E D L) (y0, y1, y2) = laws_eqFloorS_l0 D L y0 y1 y2 := by kernel_rfl
theorem laws_eqFloorS_l0_of (y0 : List XFloor) (y1 : List XFloor) (y2 : Int) {o : Bool ⊕ Unit} (h : laws_eqFloorS_l0 w wl y0 y1 y2 = some o) : laws_eqFloorS_k0 wl (y0, y1, y2) = some o := apL_close _ _ (laws_eqFloorS_l0_eq w wl y0 y1 y2) h
noncomputable def laws_eqFloorS_raw (D : DFun E) (L : LFun E) (a0 : List XFloor) (a1 : List XFloor) : Option (Bool) :=
 bif (!decide ((((List.length a0) : Nat) : Int) = (((List.length a1) : Nat) : Int))) then (some false)
 else (Option.bind (laws_eqFloorS_k0 L (a0, a1, 0)) fun z4 =>
 elimS z4 (fun u5 =>
 some u5)
 (fun z6 =>
 some true))
theorem laws_eqFloorS_raw_eq (D : DFun E) (L : LFun E) (a0 : List XFloor) (a1 : List XFloor) : laws_eqFloorS (stepD E D L) (a0, a1) = laws_eqFloorS_raw D L a0 a1 := by kernel_rfl
theorem laws_eqFloorS_of (a0 : List XFloor) (a1 : List XFloor) {o : Bool} (h : laws_eqFloorS_raw w wl a0 a1 = some o) : laws_eqFloorS w (a0, a1) = some o := ap_close _ _ (laws_eqFloorS_raw_eq w wl a0 a1) h
noncomputable def laws_eqEntry_raw (D : DFun E) (L : LFun E) (a0 : Int) (a1 : Int) (a2 : Int) (a3 : Int) (a4 : ByteArray) (a5 : Int) (a6 : Int) (a7 : Int) (a8 : Int) (a9 : ByteArray) : Option (Bool) :=
 bif (!decide (a0 = a5)) then (some false)
 else (bif (!decide (a1 = a6)) then (some false)
 else (bif (!decide (a2 = a7)) then (some false)
 else (bif (!decide (a3 = a8)) then (some false)
 else (bif (!beqS a4 a9) then (some false)
 else (some true)))))
theorem laws_eqEntry_raw_eq (D : DFun E) (L : LFun E) (a0 : Int) (a1 : Int) (a2 : Int) (a3 : Int) (a4 : ByteArray) (a5 : Int) (a6 : Int) (a7 : Int) (a8 : Int) (a9 : ByteArray) : laws_eqEntry (stepD E D L) (a0, a1, a2, a3, a4, a5, a6, a7, a8, a9) = laws_eqEntry_raw D L a0 a1 a2 a3 a4 a5 a6 a7 a8 a9 := by kernel_rfl
theorem laws_eqEntry_of (a0 : Int) (a1 : Int) (a2 : Int) (a3 : Int) (a4 : ByteArray) (a5 : Int) (a6 : Int) (a7 : Int) (a8 : Int) (a9 : ByteArray) {o : Bool} (h : laws_eqEntry_raw w wl a0 a1 a2 a3 a4 a5 a6 a7 a8 a9 = some o) : laws_eqEntry w (a0, a1, a2, a3, a4, a5, a6, a7, a8, a9) = some o := ap_close _ _ (laws_eqEntry_raw_eq w wl a0 a1 a2 a3 a4 a5 a6 a7 a8 a9) h
noncomputable def impl_joined_l0 (D : DFun E) (L : LFun E) (y0 : List (List Int)) (y1 : Int) (y2 : Int) (y3 : List Int) : Option ((List Int)) :=
 bif (decide (y2 < y1)) then (bif inb y2 (List.length y0) then
 bif fits (List.length y3 + List.length (rd1 ([] : List Int) y0 y2)) 1 then
 impl_joined_k0 L (y0, y1, (IntKind.wrap .i64 (y2 + 1)), (y3 ++ (rd1 ([] : List Int) y0 y2))) else none else none)
 else (some y3)
theorem impl_joined_l0_eq (D : DFun E) (L : LFun E) (y0 : List (List Int)) (y1 : Int) (y2 : Int) (y3 : List Int) : impl_joined_k0 (stepL E D L) (y0, y1, y2, y3) = impl_joined_l0 D L y0 y1 y2 y3 := by kernel_rfl
theorem impl_joined_l0_of (y0 : List (List Int)) (y1 : Int) (y2 : Int) (y3 : List Int) {o : (List Int)} (h : impl_joined_l0 w wl y0 y1 y2 y3 = some o) : impl_joined_k0 wl (y0, y1, y2, y3) = some o := apL_close _ _ (impl_joined_l0_eq w wl y0 y1 y2 y3) h
noncomputable def impl_joined_raw (D : DFun E) (L : LFun E) (a0 : List (List Int)) : Option (List Int) :=
 Option.bind (impl_joined_k0 L (a0, (((List.length a0) : Nat) : Int), 0, [])) fun z1 =>
 some z1
theorem impl_joined_raw_eq (D : DFun E) (L : LFun E) (a0 : List (List Int)) : impl_joined (stepD E D L) a0 = impl_joined_raw D L a0 := by kernel_rfl
theorem impl_joined_of (a0 : List (List Int)) {o : List Int} (h : impl_joined_raw w wl a0 = some o) : impl_joined w a0 = some o := ap_close _ _ (impl_joined_raw_eq w wl a0) h
noncomputable def impl_PutNum_l0 (D : DFun E) (L : LFun E) (y0 : Int) (y1 : List Int) : Option (((Int × (List Int)))) :=
 bif (decide (128 ≤ y0)) then (bif decide ((128 : Int) ≠ 0) then
 bif fits (List.length y1 + List.length ([(IntKind.wrap .u8 (IntKind.wrap .i64 ((Int.tmod y0 128) + 128)))] : List Int)) 1 then
 bif decide ((128 : Int) ≠ 0) then
 impl_PutNum_k0 L ((IntKind.wrap .i64 (Int.tdiv y0 128)), (y1 ++ ([(IntKind.wrap .u8 (IntKind.wrap .i64 ((Int.tmod y0 128) + 128)))] : List Int))) else none else none else none)
 else (some (y0, y1))
theorem impl_PutNum_l0_eq (D : DFun E) (L : LFun E) (y0 : Int) (y1 : List Int) : impl_PutNum_k0 (stepL E D L) (y0, y1) = impl_PutNum_l0 D L y0 y1 := by kernel_rfl
theorem impl_PutNum_l0_of (y0 : Int) (y1 : List Int) {o : ((Int × (List Int)))} (h : impl_PutNum_l0 w wl y0 y1 = some o) : impl_PutNum_k0 wl (y0, y1) = some o := apL_close _ _ (impl_PutNum_l0_eq w wl y0 y1) h
noncomputable def impl_PutNum_raw (D : DFun E) (L : LFun E) (a0 : Int) : Option (List Int) :=
 Option.bind (impl_within D (a0, 0, 2147483647)) fun r1 =>
 bif (!r1) then (some [])
 else (Option.bind (impl_PutNum_k0 L (a0, [])) fun z2 =>
 bif fits (List.length z2.2 + List.length ([(IntKind.wrap .u8 z2.1)] : List Int)) 1 then
 some (z2.2 ++ ([(IntKind.wrap .u8 z2.1)] : List Int)) else none)
theorem impl_PutNum_raw_eq (D : DFun E) (L : LFun E) (a0 : Int) : impl_PutNum (stepD E D L) a0 = impl_PutNum_raw D L a0 := by kernel_rfl
theorem impl_PutNum_of (a0 : Int) {o : List Int} (h : impl_PutNum_raw w wl a0 = some o) : impl_PutNum w a0 = some o := ap_close _ _ (impl_PutNum_raw_eq w wl a0) h
noncomputable def spec_l11Tree_raw (D : DFun E) (L : LFun E) (a0 : List Int) (a1 : Int) (a2 : List Int) (a3 : Int) : Option (Bool) :=
 Option.bind (spec_l1Same D (a0, a2)) fun r1 =>
 bif r1 then (some (decide (a1 = a3)))
 else (some false)
theorem spec_l11Tree_raw_eq (D : DFun E) (L : LFun E) (a0 : List Int) (a1 : Int) (a2 : List Int) (a3 : Int) : spec_l11Tree (stepD E D L) (a0, a1, a2, a3) = spec_l11Tree_raw D L a0 a1 a2 a3 := by kernel_rfl
theorem spec_l11Tree_of (a0 : List Int) (a1 : Int) (a2 : List Int) (a3 : Int) {o : Bool} (h : spec_l11Tree_raw w wl a0 a1 a2 a3 = some o) : spec_l11Tree w (a0, a1, a2, a3) = some o := ap_close _ _ (spec_l11Tree_raw_eq w wl a0 a1 a2 a3) h
noncomputable def spec_TreeOf_l0 (D : DFun E) (L : LFun E) (y0 : Int) (y1 : List XItem) (y2 : List XFloor) (y3 : List Int) (y4 : Int) : Option (XTree) :=
 bif (decide (y0 < 4)) then (Option.bind (spec_LeafSum D (y1, y2, y0)) fun r2 =>
 bif fits (List.length y3 + List.length ([r2] : List Int)) 8 then
 spec_TreeOf_k0 L ((IntKind.wrap .i64 (y0 + 1)), y1, y2, (y3 ++ ([r2] : List Int)), y4) else none)
 else (some (y3, y4))
theorem spec_TreeOf_l0_eq (D : DFun E) (L : LFun E) (y0 : Int) (y1 : List XItem) (y2 : List XFloor) (y3 : List Int) (y4 : Int) : spec_TreeOf_k0 (stepL E D L) (y0, y1, y2, y3, y4) = spec_TreeOf_l0 D L y0 y1 y2 y3 y4 := by kernel_rfl
theorem spec_TreeOf_l0_of (y0 : Int) (y1 : List XItem) (y2 : List XFloor) (y3 : List Int) (y4 : Int) {o : XTree} (h : spec_TreeOf_l0 w wl y0 y1 y2 y3 y4 = some o) : spec_TreeOf_k0 wl (y0, y1, y2, y3, y4) = some o := apL_close _ _ (spec_TreeOf_l0_eq w wl y0 y1 y2 y3 y4) h
noncomputable def spec_TreeOf_raw (D : DFun E) (L : LFun E) (a0 : List XItem) (a1 : List XFloor) : Option (XTree) :=
 Option.bind (spec_StateOk D (a0, a1)) fun r1 =>
 bif (!r1) then (some ([], 0))
 else (Option.bind (spec_TreeOf_k0 L (0, a0, a1, [], 0)) fun z3 =>
 Option.bind (spec_l6Root D z3.1) fun r4 =>
 some (z3.1, r4))
theorem spec_TreeOf_raw_eq (D : DFun E) (L : LFun E) (a0 : List XItem) (a1 : List XFloor) : spec_TreeOf (stepD E D L) (a0, a1) = spec_TreeOf_raw D L a0 a1 := by kernel_rfl
theorem spec_TreeOf_of (a0 : List XItem) (a1 : List XFloor) {o : XTree} (h : spec_TreeOf_raw w wl a0 a1 = some o) : spec_TreeOf w (a0, a1) = some o := ap_close _ _ (spec_TreeOf_raw_eq w wl a0 a1) h
noncomputable def spec_LogOk_l0 (D : DFun E) (L : LFun E) (y0 : Int) (y1 : Int) (y2 : Int) (y3 : List XState) : Option (Bool ⊕ Unit) :=
 bif (decide (y0 < (((List.length y3) : Nat) : Int))) then (bif inb y0 (List.length y3) then
 let e3 := (rd1 zState y3 y0)
 Option.bind (spec_StateOk D (e3.1, e3.2)) fun r4 =>
 bif (!r4) then (some (Sum.inl false))
 else (spec_LogOk_k0 L ((IntKind.wrap .i64 (y0 + 1)), y1, y2, y3)) else none)
 else (some (Sum.inr ()))
theorem spec_LogOk_l0_eq (D : DFun E) (L : LFun E) (y0 : Int) (y1 : Int) (y2 : Int) (y3 : List XState) : spec_LogOk_k0 (stepL E D L) (y0, y1, y2, y3) = spec_LogOk_l0 D L y0 y1 y2 y3 := by kernel_rfl
theorem spec_LogOk_l0_of (y0 : Int) (y1 : Int) (y2 : Int) (y3 : List XState) {o : Bool ⊕ Unit} (h : spec_LogOk_l0 w wl y0 y1 y2 y3 = some o) : spec_LogOk_k0 wl (y0, y1, y2, y3) = some o := apL_close _ _ (spec_LogOk_l0_eq w wl y0 y1 y2 y3) h
noncomputable def spec_LogOk_raw (D : DFun E) (L : LFun E) (a0 : Int) (a1 : Int) (a2 : List XState) : Option (Bool) :=
 Option.bind (spec_l1In D (a0, 1, 8)) fun r1 =>
 bif (!r1) then (some false)
 else (bif (decide (a0 < (((List.length a2) : Nat) : Int))) then (some false)
 else (Option.bind (spec_l1In D (a1, 0, 100000)) fun r2 =>
 bif (!r2) then (some false)
 else (bif (decide (100000 < (IntKind.wrap .i64 (a1 + (((List.length a2) : Nat) : Int))))) then (some false)
 else (Option.bind (spec_LogOk_k0 L (0, a0, a1, a2)) fun z5 =>
 elimS z5 (fun u6 =>
 some u6)
 (fun z7 =>
 some true)))))
theorem spec_LogOk_raw_eq (D : DFun E) (L : LFun E) (a0 : Int) (a1 : Int) (a2 : List XState) : spec_LogOk (stepD E D L) (a0, a1, a2) = spec_LogOk_raw D L a0 a1 a2 := by kernel_rfl
theorem spec_LogOk_of (a0 : Int) (a1 : Int) (a2 : List XState) {o : Bool} (h : spec_LogOk_raw w wl a0 a1 a2 = some o) : spec_LogOk w (a0, a1, a2) = some o := ap_close _ _ (spec_LogOk_raw_eq w wl a0 a1 a2) h
noncomputable def spec_VecOk_l0 (D : DFun E) (L : LFun E) (y0 : List Int) (y1 : Int) (y2 : Int) : Option (Bool ⊕ Unit) :=
 bif (decide (y2 < y1)) then (bif inb y2 (List.length y0) then
 Option.bind (spec_l1In D ((rd1 (0 : Int) y0 y2), 0, 100000)) fun r2 =>
 bif (!r2) then (some (Sum.inl false))
 else (spec_VecOk_k0 L (y0, y1, (IntKind.wrap .i64 (y2 + 1)))) else none)
 else (some (Sum.inr ()))
theorem spec_VecOk_l0_eq (D : DFun E) (L : LFun E) (y0 : List Int) (y1 : Int) (y2 : Int) : spec_VecOk_k0 (stepL E D L) (y0, y1, y2) = spec_VecOk_l0 D L y0 y1 y2 := by kernel_rfl
theorem spec_VecOk_l0_of (y0 : List Int) (y1 : Int) (y2 : Int) {o : Bool ⊕ Unit} (h : spec_VecOk_l0 w wl y0 y1 y2 = some o) : spec_VecOk_k0 wl (y0, y1, y2) = some o := apL_close _ _ (spec_VecOk_l0_eq w wl y0 y1 y2) h
noncomputable def spec_VecOk_raw (D : DFun E) (L : LFun E) (a0 : List Int) (a1 : Int) : Option (Bool) :=
 Option.bind (spec_l1In D (a1, 1, 5)) fun r1 =>
 bif (!r1) then (some false)
 else (bif (!decide ((((List.length a0) : Nat) : Int) = a1)) then (some false)
 else (Option.bind (spec_VecOk_k0 L (a0, a1, 0)) fun z3 =>
 elimS z3 (fun u4 =>
 some u4)
 (fun z5 =>
 some true)))
theorem spec_VecOk_raw_eq (D : DFun E) (L : LFun E) (a0 : List Int) (a1 : Int) : spec_VecOk (stepD E D L) (a0, a1) = spec_VecOk_raw D L a0 a1 := by kernel_rfl
theorem spec_VecOk_of (a0 : List Int) (a1 : Int) {o : Bool} (h : spec_VecOk_raw w wl a0 a1 = some o) : spec_VecOk w (a0, a1) = some o := ap_close _ _ (spec_VecOk_raw_eq w wl a0 a1) h
noncomputable def spec_TableOk_l0 (D : DFun E) (L : LFun E) (y0 : List (List Int)) (y1 : Int) (y2 : Int) : Option (Bool ⊕ Unit) :=
 bif (decide (y2 < y1)) then (bif inb y2 (List.length y0) then
 bif (!decide ((((List.length (rd1 ([] : List Int) y0 y2)) : Nat) : Int) = 5)) then (some (Sum.inl false))
 else (Option.bind (spec_TableOk_k2 L (y0, y1, y2, 0)) fun z3 =>
 elimS z3 (fun u4 =>
 some (Sum.inl u4))
 (fun z5 =>
 spec_TableOk_k0 L (z5.1, z5.2.1, (IntKind.wrap .i64 (z5.2.2 + 1))))) else none)
 else (some (Sum.inr ()))
theorem spec_TableOk_l0_eq (D : DFun E) (L : LFun E) (y0 : List (List Int)) (y1 : Int) (y2 : Int) : spec_TableOk_k0 (stepL E D L) (y0, y1, y2) = spec_TableOk_l0 D L y0 y1 y2 := by kernel_rfl
theorem spec_TableOk_l0_of (y0 : List (List Int)) (y1 : Int) (y2 : Int) {o : Bool ⊕ Unit} (h : spec_TableOk_l0 w wl y0 y1 y2 = some o) : spec_TableOk_k0 wl (y0, y1, y2) = some o := apL_close _ _ (spec_TableOk_l0_eq w wl y0 y1 y2) h
noncomputable def spec_TableOk_l2 (D : DFun E) (L : LFun E) (y0 : List (List Int)) (y1 : Int) (y2 : Int) (y3 : Int) : Option (Bool ⊕ (((List (List Int)) × Int × Int))) :=
 bif inb y2 (List.length y0) then
 bif (decide (y3 < (((List.length (rd1 ([] : List Int) y0 y2)) : Nat) : Int))) then (bif inb y2 (List.length y0) then
 bif inb y3 (List.length (rd1 ([] : List Int) y0 y2)) then
 Option.bind (spec_l1In D ((rd1 (0 : Int) (rd1 ([] : List Int) y0 y2) y3), 0, 1000)) fun r2 =>
 bif (!r2) then (some (Sum.inl false))
 else (spec_TableOk_k2 L (y0, y1, y2, (IntKind.wrap .i64 (y3 + 1)))) else none else none)
 else (some (Sum.inr (y0, y1, y2))) else none
theorem spec_TableOk_l2_eq (D : DFun E) (L : LFun E) (y0 : List (List Int)) (y1 : Int) (y2 : Int) (y3 : Int) : spec_TableOk_k2 (stepL E D L) (y0, y1, y2, y3) = spec_TableOk_l2 D L y0 y1 y2 y3 := by kernel_rfl
theorem spec_TableOk_l2_of (y0 : List (List Int)) (y1 : Int) (y2 : Int) (y3 : Int) {o : Bool ⊕ (((List (List Int)) × Int × Int))} (h : spec_TableOk_l2 w wl y0 y1 y2 y3 = some o) : spec_TableOk_k2 wl (y0, y1, y2, y3) = some o := apL_close _ _ (spec_TableOk_l2_eq w wl y0 y1 y2 y3) h
noncomputable def spec_TableOk_raw (D : DFun E) (L : LFun E) (a0 : List (List Int)) (a1 : Int) : Option (Bool) :=
 Option.bind (spec_l1In D (a1, 1, 5)) fun r1 =>
 bif (!r1) then (some false)
 else (bif (!decide ((((List.length a0) : Nat) : Int) = a1)) then (some false)
 else (Option.bind (spec_TableOk_k0 L (a0, a1, 0)) fun z6 =>
 elimS z6 (fun u7 =>
 some u7)
 (fun z8 =>
 some true)))
theorem spec_TableOk_raw_eq (D : DFun E) (L : LFun E) (a0 : List (List Int)) (a1 : Int) : spec_TableOk (stepD E D L) (a0, a1) = spec_TableOk_raw D L a0 a1 := by kernel_rfl
theorem spec_TableOk_of (a0 : List (List Int)) (a1 : Int) {o : Bool} (h : spec_TableOk_raw w wl a0 a1 = some o) : spec_TableOk w (a0, a1) = some o := ap_close _ _ (spec_TableOk_raw_eq w wl a0 a1) h
noncomputable def spec_l11Sess_l0 (D : DFun E) (L : LFun E) (y0 : Int) (y1 : Int) (y2 : Int) (y3 : List XItem) (y4 : List XFloor) (y5 : List Int) (y6 : Int) (y7 : Int) (y8 : Int) (y9 : List XState) (y10 : List Int) (y11 : List Int) (y12 : List (List Int)) (y13 : Int) (y14 : Int) (y15 : List XSess) (y16 : Int) (y17 : Int) (y18 : Int) (y19 : List XRise) : Option (Bool ⊕ Unit) :=
 bif (decide (y0 < (((List.length y15) : Nat) : Int))) then (bif inb y0 (List.length y15) then
 let e1 := (rd1 zSess y15 y0)
 Option.bind (spec_l1In D (e1.1, 0, (IntKind.wrap .i64 (y2 - 1)))) fun r2 =>
 bif (!r2) then (some (Sum.inl false))
 else (bif (decide (e1.1 = y1)) then (some (Sum.inl false))
 else (Option.bind (spec_l1In D (e1.2.1, 0, 100000)) fun r3 =>
 bif (!r3) then (some (Sum.inl false))
 else (Option.bind (spec_l1In D (e1.2.2.2, 0, y16)) fun r4 =>
 bif (!r4) then (some (Sum.inl false))
 else (Option.bind (spec_l11Sess_k2 L (y0, 0, e1.1, y1, (decide (e1.1 = y1)), e1.2.1, r3, (!r3), e1.2.2.2, y16, r4, (!r4), y1, y2, y3, y4, y5, y6, y7, y8, y9, y10, y11, y12, y13, y14, y15, y16, y17, y18, y19, e1.1, e1.2.1, e1.2.2.1, e1.2.2.2)) fun z7 =>
 elimS z7 (fun u8 =>
 some (Sum.inl u8))
 (fun z9 =>
 spec_l11Sess_k0 L ((IntKind.wrap .i64 (z9.1 + 1)), z9.2.2.2.2.2.2.2.2.2.2.2.1, z9.2.2.2.2.2.2.2.2.2.2.2.2.1, z9.2.2.2.2.2.2.2.2.2.2.2.2.2.1, z9.2.2.2.2.2.2.2.2.2.2.2.2.2.2.1, z9.2.2.2.2.2.2.2.2.2.2.2.2.2.2.2.1, z9.2.2.2.2.2.2.2.2.2.2.2.2.2.2.2.2.1, z9.2.2.2.2.2.2.2.2.2.2.2.2.2.2.2.2.2.1, z9.2.2.2.2.2.2.2.2.2.2.2.2.2.2.2.2.2.2.1, z9.2.2.2.2.2.2.2.2.2.2.2.2.2.2.2.2.2.2.2.1, z9.2.2.2.2.2.2.2.2.2.2.2.2.2.2.2.2.2.2.2.2.1, z9.2.2.2.2.2.2.2.2.2.2.2.2.2.2.2.2.2.2.2.2.2.1, z9.2.2.2.2.2.2.2.2.2.2.2.2.2.2.2.2.2.2.2.2.2.2.1, z9.2.2.2.2.2.2.2.2.2.2.2.2.2.2.2.2.2.2.2.2.2.2.2.1, z9.2.2.2.2.2.2.2.2.2.2.2.2.2.2.2.2.2.2.2.2.2.2.2.2.1, z9.2.2.2.2.2.2.2.2.2.2.2.2.2.2.2.2.2.2.2.2.2.2.2.2.2.1, z9.2.2.2.2.2.2.2.2.2.2.2.2.2.2.2.2.2.2.2.2.2.2.2.2.2.2.1, z9.2.2.2.2.2.2.2.2.2.2.2.2.2.2.2.2.2.2.2.2.2.2.2.2.2.2.2.1, z9.2.2.2.2.2.2.2.2.2.2.2.2.2.2.2.2.2.2.2.2.2.2.2.2.2.2.2.2.1, z9.2.2.2.2.2.2.2.2.2.2.2.2.2.2.2.2.2.2.2.2.2.2.2.2.2.2.2.2.2.1)))))) else none)
 else (some (Sum.inr ()))
theorem spec_l11Sess_l0_eq (D : DFun E) (L : LFun E) (y0 : Int) (y1 : Int) (y2 : Int) (y3 : List XItem) (y4 : List XFloor) (y5 : List Int) (y6 : Int) (y7 : Int) (y8 : Int) (y9 : List XState) (y10 : List Int) (y11 : List Int) (y12 : List (List Int)) (y13 : Int) (y14 : Int) (y15 : List XSess) (y16 : Int) (y17 : Int) (y18 : Int) (y19 : List XRise) : spec_l11Sess_k0 (stepL E D L) (y0, y1, y2, y3, y4, y5, y6, y7, y8, y9, y10, y11, y12, y13, y14, y15, y16, y17, y18, y19) = spec_l11Sess_l0 D L y0 y1 y2 y3 y4 y5 y6 y7 y8 y9 y10 y11 y12 y13 y14 y15 y16 y17 y18 y19 := by kernel_rfl
theorem spec_l11Sess_l0_of (y0 : Int) (y1 : Int) (y2 : Int) (y3 : List XItem) (y4 : List XFloor) (y5 : List Int) (y6 : Int) (y7 : Int) (y8 : Int) (y9 : List XState) (y10 : List Int) (y11 : List Int) (y12 : List (List Int)) (y13 : Int) (y14 : Int) (y15 : List XSess) (y16 : Int) (y17 : Int) (y18 : Int) (y19 : List XRise) {o : Bool ⊕ Unit} (h : spec_l11Sess_l0 w wl y0 y1 y2 y3 y4 y5 y6 y7 y8 y9 y10 y11 y12 y13 y14 y15 y16 y17 y18 y19 = some o) : spec_l11Sess_k0 wl (y0, y1, y2, y3, y4, y5, y6, y7, y8, y9, y10, y11, y12, y13, y14, y15, y16, y17, y18, y19) = some o := apL_close _ _ (spec_l11Sess_l0_eq w wl y0 y1 y2 y3 y4 y5 y6 y7 y8 y9 y10 y11 y12 y13 y14 y15 y16 y17 y18 y19) h
noncomputable def spec_l11Sess_l2 (D : DFun E) (L : LFun E) (y0 : Int) (y1 : Int) (y2 : Int) (y3 : Int) (y4 : Bool) (y5 : Int) (y6 : Bool) (y7 : Bool) (y8 : Int) (y9 : Int) (y10 : Bool) (y11 : Bool) (y12 : Int) (y13 : Int) (y14 : List XItem) (y15 : List XFloor) (y16 : List Int) (y17 : Int) (y18 : Int) (y19 : Int) (y20 : List XState) (y21 : List Int) (y22 : List Int) (y23 : List (List Int)) (y24 : Int) (y25 : Int) (y26 : List XSess) (y27 : Int) (y28 : Int) (y29 : Int) (y30 : List XRise) (y31 : Int) (y32 : Int) (y33 : Bool) (y34 : Int) : Option (Bool ⊕ ((Int × Int × Int × Bool × Int × Bool × Bool × Int × Int × Bool × Bool × Int × Int × (List XItem) × (List XFloor) × (List Int) × Int × Int × Int × (List XState) × (List Int) × (List Int) × (List (List Int)) × Int × Int × (List XSess) × Int × Int × Int × (List XRise) × Int × Int × Bool × Int))) :=
 bif (decide (y1 < y0)) then (bif inb y1 (List.length y26) then
 let e5 := (rd1 zSess y26 y1)
 bif (decide (e5.1 = y31)) then (bif inb y1 (List.length y26) then
 let e6 := (rd1 zSess y26 y1)
 bif (e6.2.2.1 == y33) then (some (Sum.inl false))
 else (spec_l11Sess_k2 L (y0, (IntKind.wrap .i64 (y1 + 1)), y2, y3, y4, y5, y6, y7, y8, y9, y10, y11, y12, y13, y14, y15, y16, y17, y18, y19, y20, y21, y22, y23, y24, y25, y26, y27, y28, y29, y30, y31, y32, y33, y34)) else none)
 else (spec_l11Sess_k2 L (y0, (IntKind.wrap .i64 (y1 + 1)), y2, y3, y4, y5, y6, y7, y8, y9, y10, y11, y12, y13, y14, y15, y16, y17, y18, y19, y20, y21, y22, y23, y24, y25, y26, y27, y28, y29, y30, y31, y32, y33, y34)) else none)
 else (some (Sum.inr (y0, y2, y3, y4, y5, y6, y7, y8, y9, y10, y11, y12, y13, y14, y15, y16, y17, y18, y19, y20, y21, y22, y23, y24, y25, y26, y27, y28, y29, y30, y31, y32, y33, y34)))
theorem spec_l11Sess_l2_eq (D : DFun E) (L : LFun E) (y0 : Int) (y1 : Int) (y2 : Int) (y3 : Int) (y4 : Bool) (y5 : Int) (y6 : Bool) (y7 : Bool) (y8 : Int) (y9 : Int) (y10 : Bool) (y11 : Bool) (y12 : Int) (y13 : Int) (y14 : List XItem) (y15 : List XFloor) (y16 : List Int) (y17 : Int) (y18 : Int) (y19 : Int) (y20 : List XState) (y21 : List Int) (y22 : List Int) (y23 : List (List Int)) (y24 : Int) (y25 : Int) (y26 : List XSess) (y27 : Int) (y28 : Int) (y29 : Int) (y30 : List XRise) (y31 : Int) (y32 : Int) (y33 : Bool) (y34 : Int) : spec_l11Sess_k2 (stepL E D L) (y0, y1, y2, y3, y4, y5, y6, y7, y8, y9, y10, y11, y12, y13, y14, y15, y16, y17, y18, y19, y20, y21, y22, y23, y24, y25, y26, y27, y28, y29, y30, y31, y32, y33, y34) = spec_l11Sess_l2 D L y0 y1 y2 y3 y4 y5 y6 y7 y8 y9 y10 y11 y12 y13 y14 y15 y16 y17 y18 y19 y20 y21 y22 y23 y24 y25 y26 y27 y28 y29 y30 y31 y32 y33 y34 := by kernel_rfl
theorem spec_l11Sess_l2_of (y0 : Int) (y1 : Int) (y2 : Int) (y3 : Int) (y4 : Bool) (y5 : Int) (y6 : Bool) (y7 : Bool) (y8 : Int) (y9 : Int) (y10 : Bool) (y11 : Bool) (y12 : Int) (y13 : Int) (y14 : List XItem) (y15 : List XFloor) (y16 : List Int) (y17 : Int) (y18 : Int) (y19 : Int) (y20 : List XState) (y21 : List Int) (y22 : List Int) (y23 : List (List Int)) (y24 : Int) (y25 : Int) (y26 : List XSess) (y27 : Int) (y28 : Int) (y29 : Int) (y30 : List XRise) (y31 : Int) (y32 : Int) (y33 : Bool) (y34 : Int) {o : Bool ⊕ ((Int × Int × Int × Bool × Int × Bool × Bool × Int × Int × Bool × Bool × Int × Int × (List XItem) × (List XFloor) × (List Int) × Int × Int × Int × (List XState) × (List Int) × (List Int) × (List (List Int)) × Int × Int × (List XSess) × Int × Int × Int × (List XRise) × Int × Int × Bool × Int))} (h : spec_l11Sess_l2 w wl y0 y1 y2 y3 y4 y5 y6 y7 y8 y9 y10 y11 y12 y13 y14 y15 y16 y17 y18 y19 y20 y21 y22 y23 y24 y25 y26 y27 y28 y29 y30 y31 y32 y33 y34 = some o) : spec_l11Sess_k2 wl (y0, y1, y2, y3, y4, y5, y6, y7, y8, y9, y10, y11, y12, y13, y14, y15, y16, y17, y18, y19, y20, y21, y22, y23, y24, y25, y26, y27, y28, y29, y30, y31, y32, y33, y34) = some o := apL_close _ _ (spec_l11Sess_l2_eq w wl y0 y1 y2 y3 y4 y5 y6 y7 y8 y9 y10 y11 y12 y13 y14 y15 y16 y17 y18 y19 y20 y21 y22 y23 y24 y25 y26 y27 y28 y29 y30 y31 y32 y33 y34) h
noncomputable def spec_l11Sess_raw (D : DFun E) (L : LFun E) (a0 : Int) (a1 : Int) (a2 : List XItem) (a3 : List XFloor) (a4 : List Int) (a5 : Int) (a6 : Int) (a7 : Int) (a8 : List XState) (a9 : List Int) (a10 : List Int) (a11 : List (List Int)) (a12 : Int) (a13 : Int) (a14 : List XSess) (a15 : Int) (a16 : Int) (a17 : Int) (a18 : List XRise) : Option (Bool) :=
 bif (decide (a13 < (((List.length a14) : Nat) : Int))) then (some false)
 else (Option.bind (spec_l11Sess_k0 L (0, a0, a1, a2, a3, a4, a5, a6, a7, a8, a9, a10, a11, a12, a13, a14, a15, a16, a17, a18)) fun z10 =>
 elimS z10 (fun u11 =>
 some u11)
 (fun z12 =>
 some true))
theorem spec_l11Sess_raw_eq (D : DFun E) (L : LFun E) (a0 : Int) (a1 : Int) (a2 : List XItem) (a3 : List XFloor) (a4 : List Int) (a5 : Int) (a6 : Int) (a7 : Int) (a8 : List XState) (a9 : List Int) (a10 : List Int) (a11 : List (List Int)) (a12 : Int) (a13 : Int) (a14 : List XSess) (a15 : Int) (a16 : Int) (a17 : Int) (a18 : List XRise) : spec_l11Sess (stepD E D L) (a0, a1, a2, a3, a4, a5, a6, a7, a8, a9, a10, a11, a12, a13, a14, a15, a16, a17, a18) = spec_l11Sess_raw D L a0 a1 a2 a3 a4 a5 a6 a7 a8 a9 a10 a11 a12 a13 a14 a15 a16 a17 a18 := by kernel_rfl
theorem spec_l11Sess_of (a0 : Int) (a1 : Int) (a2 : List XItem) (a3 : List XFloor) (a4 : List Int) (a5 : Int) (a6 : Int) (a7 : Int) (a8 : List XState) (a9 : List Int) (a10 : List Int) (a11 : List (List Int)) (a12 : Int) (a13 : Int) (a14 : List XSess) (a15 : Int) (a16 : Int) (a17 : Int) (a18 : List XRise) {o : Bool} (h : spec_l11Sess_raw w wl a0 a1 a2 a3 a4 a5 a6 a7 a8 a9 a10 a11 a12 a13 a14 a15 a16 a17 a18 = some o) : spec_l11Sess w (a0, a1, a2, a3, a4, a5, a6, a7, a8, a9, a10, a11, a12, a13, a14, a15, a16, a17, a18) = some o := ap_close _ _ (spec_l11Sess_raw_eq w wl a0 a1 a2 a3 a4 a5 a6 a7 a8 a9 a10 a11 a12 a13 a14 a15 a16 a17 a18) h
noncomputable def spec_l6Bytes_l0 (D : DFun E) (L : LFun E) (y0 : Int) (y1 : List XItem) (y2 : List XFloor) (y3 : List Int) : Option ((((List XItem) × (List XFloor) × (List Int)))) :=
 bif (decide (y0 < (((List.length y1) : Nat) : Int))) then (bif inb y0 (List.length y1) then
 let e2 := (rd1 zItem y1 y0)
 bif inb y0 (List.length y1) then
 let e3 := (rd1 zItem y1 y0)
 Option.bind (spec_l6Bytes_k2 L (y0, 0, y1, y2, y3, e2.2.1, e2.2.2.1, e2.2.2.2.1, e2.2.2.2.2.1, e2.2.2.2.2.2, [e3.1, e2.2.1, e2.2.2.1, e2.2.2.2.1, e2.2.2.2.2.1])) fun z5 =>
 Option.bind (spec_PutText D z5.2.2.2.2.2.2.2.2) fun r6 =>
 bif fits (List.length z5.2.2.2.1 + List.length r6) 1 then
 spec_l6Bytes_k0 L ((IntKind.wrap .i64 (z5.1 + 1)), z5.2.1, z5.2.2.1, (z5.2.2.2.1 ++ r6)) else none else none else none)
 else (some (y1, y2, y3))
theorem spec_l6Bytes_l0_eq (D : DFun E) (L : LFun E) (y0 : Int) (y1 : List XItem) (y2 : List XFloor) (y3 : List Int) : spec_l6Bytes_k0 (stepL E D L) (y0, y1, y2, y3) = spec_l6Bytes_l0 D L y0 y1 y2 y3 := by kernel_rfl
theorem spec_l6Bytes_l0_of (y0 : Int) (y1 : List XItem) (y2 : List XFloor) (y3 : List Int) {o : (((List XItem) × (List XFloor) × (List Int)))} (h : spec_l6Bytes_l0 w wl y0 y1 y2 y3 = some o) : spec_l6Bytes_k0 wl (y0, y1, y2, y3) = some o := apL_close _ _ (spec_l6Bytes_l0_eq w wl y0 y1 y2 y3) h
noncomputable def spec_l6Bytes_l2 (D : DFun E) (L : LFun E) (y0 : Int) (y1 : Int) (y2 : List XItem) (y3 : List XFloor) (y4 : List Int) (y5 : Int) (y6 : Int) (y7 : Int) (y8 : Int) (y9 : ByteArray) (y10 : List Int) : Option (((Int × (List XItem) × (List XFloor) × (List Int) × Int × Int × Int × Int × ByteArray))) :=
 bif (decide (y1 < (((List.length y10) : Nat) : Int))) then (bif inb y1 (List.length y10) then
 Option.bind (spec_PutNum D (rd1 (0 : Int) y10 y1)) fun r4 =>
 bif fits (List.length y4 + List.length r4) 1 then
 spec_l6Bytes_k2 L (y0, (IntKind.wrap .i64 (y1 + 1)), y2, y3, (y4 ++ r4), y5, y6, y7, y8, y9, y10) else none else none)
 else (some (y0, y2, y3, y4, y5, y6, y7, y8, y9))
theorem spec_l6Bytes_l2_eq (D : DFun E) (L : LFun E) (y0 : Int) (y1 : Int) (y2 : List XItem) (y3 : List XFloor) (y4 : List Int) (y5 : Int) (y6 : Int) (y7 : Int) (y8 : Int) (y9 : ByteArray) (y10 : List Int) : spec_l6Bytes_k2 (stepL E D L) (y0, y1, y2, y3, y4, y5, y6, y7, y8, y9, y10) = spec_l6Bytes_l2 D L y0 y1 y2 y3 y4 y5 y6 y7 y8 y9 y10 := by kernel_rfl
theorem spec_l6Bytes_l2_of (y0 : Int) (y1 : Int) (y2 : List XItem) (y3 : List XFloor) (y4 : List Int) (y5 : Int) (y6 : Int) (y7 : Int) (y8 : Int) (y9 : ByteArray) (y10 : List Int) {o : ((Int × (List XItem) × (List XFloor) × (List Int) × Int × Int × Int × Int × ByteArray))} (h : spec_l6Bytes_l2 w wl y0 y1 y2 y3 y4 y5 y6 y7 y8 y9 y10 = some o) : spec_l6Bytes_k2 wl (y0, y1, y2, y3, y4, y5, y6, y7, y8, y9, y10) = some o := apL_close _ _ (spec_l6Bytes_l2_eq w wl y0 y1 y2 y3 y4 y5 y6 y7 y8 y9 y10) h
noncomputable def spec_l6Bytes_l4 (D : DFun E) (L : LFun E) (y0 : Int) (y1 : List XItem) (y2 : List XFloor) (y3 : List Int) : Option ((List Int)) :=
 bif (decide (y0 < (((List.length y2) : Nat) : Int))) then (bif inb y0 (List.length y2) then
 let e9 := (rd1 zFloor y2 y0)
 Option.bind (spec_PutNum D e9.1) fun r10 =>
 bif fits (List.length y3 + List.length r10) 1 then
 bif inb y0 (List.length y2) then
 let e11 := (rd1 zFloor y2 y0)
 Option.bind (spec_PutNum D e11.2) fun r12 =>
 bif fits (List.length (y3 ++ r10) + List.length r12) 1 then
 spec_l6Bytes_k4 L ((IntKind.wrap .i64 (y0 + 1)), y1, y2, ((y3 ++ r10) ++ r12)) else none else none else none else none)
 else (some y3)
theorem spec_l6Bytes_l4_eq (D : DFun E) (L : LFun E) (y0 : Int) (y1 : List XItem) (y2 : List XFloor) (y3 : List Int) : spec_l6Bytes_k4 (stepL E D L) (y0, y1, y2, y3) = spec_l6Bytes_l4 D L y0 y1 y2 y3 := by kernel_rfl
theorem spec_l6Bytes_l4_of (y0 : Int) (y1 : List XItem) (y2 : List XFloor) (y3 : List Int) {o : (List Int)} (h : spec_l6Bytes_l4 w wl y0 y1 y2 y3 = some o) : spec_l6Bytes_k4 wl (y0, y1, y2, y3) = some o := apL_close _ _ (spec_l6Bytes_l4_eq w wl y0 y1 y2 y3) h
noncomputable def spec_l6Bytes_raw (D : DFun E) (L : LFun E) (a0 : List XItem) (a1 : List XFloor) : Option (List Int) :=
 Option.bind (spec_PutNum D (((List.length a0) : Nat) : Int)) fun r1 =>
 Option.bind (spec_l6Bytes_k0 L (0, a0, a1, r1)) fun z7 =>
 Option.bind (spec_PutNum D (((List.length z7.2.1) : Nat) : Int)) fun r8 =>
 bif fits (List.length z7.2.2 + List.length r8) 1 then
 Option.bind (spec_l6Bytes_k4 L (0, z7.1, z7.2.1, (z7.2.2 ++ r8))) fun z13 =>
 some z13 else none
theorem spec_l6Bytes_raw_eq (D : DFun E) (L : LFun E) (a0 : List XItem) (a1 : List XFloor) : spec_l6Bytes (stepD E D L) (a0, a1) = spec_l6Bytes_raw D L a0 a1 := by kernel_rfl
theorem spec_l6Bytes_of (a0 : List XItem) (a1 : List XFloor) {o : List Int} (h : spec_l6Bytes_raw w wl a0 a1 = some o) : spec_l6Bytes w (a0, a1) = some o := ap_close _ _ (spec_l6Bytes_raw_eq w wl a0 a1) h
noncomputable def laws_toSess_raw (D : DFun E) (L : LFun E) (a0 : Int) (a1 : Int) (a2 : Bool) (a3 : Int) : Option (XSess) :=
 some (a0, a1, a2, a3)
theorem laws_toSess_raw_eq (D : DFun E) (L : LFun E) (a0 : Int) (a1 : Int) (a2 : Bool) (a3 : Int) : laws_toSess (stepD E D L) (a0, a1, a2, a3) = laws_toSess_raw D L a0 a1 a2 a3 := by kernel_rfl
theorem laws_toSess_of (a0 : Int) (a1 : Int) (a2 : Bool) (a3 : Int) {o : XSess} (h : laws_toSess_raw w wl a0 a1 a2 a3 = some o) : laws_toSess w (a0, a1, a2, a3) = some o := ap_close _ _ (laws_toSess_raw_eq w wl a0 a1 a2 a3) h
noncomputable def laws_toRise_raw (D : DFun E) (L : LFun E) (a0 : Int) (a1 : Int) (a2 : Int) : Option (XRise) :=
 some (a0, a1, a2)
theorem laws_toRise_raw_eq (D : DFun E) (L : LFun E) (a0 : Int) (a1 : Int) (a2 : Int) : laws_toRise (stepD E D L) (a0, a1, a2) = laws_toRise_raw D L a0 a1 a2 := by kernel_rfl
theorem laws_toRise_of (a0 : Int) (a1 : Int) (a2 : Int) {o : XRise} (h : laws_toRise_raw w wl a0 a1 a2 = some o) : laws_toRise w (a0, a1, a2) = some o := ap_close _ _ (laws_toRise_raw_eq w wl a0 a1 a2) h
noncomputable def impl_treeSame_raw (D : DFun E) (L : LFun E) (a0 : List Int) (a1 : Int) (a2 : List Int) (a3 : Int) : Option (Bool) :=
 Option.bind (slices_Equalint_int D (a0, a2)) fun r1 =>
 bif r1 then (some (decide (a1 = a3)))
 else (some false)
theorem impl_treeSame_raw_eq (D : DFun E) (L : LFun E) (a0 : List Int) (a1 : Int) (a2 : List Int) (a3 : Int) : impl_treeSame (stepD E D L) (a0, a1, a2, a3) = impl_treeSame_raw D L a0 a1 a2 a3 := by kernel_rfl
theorem impl_treeSame_of (a0 : List Int) (a1 : Int) (a2 : List Int) (a3 : Int) {o : Bool} (h : impl_treeSame_raw w wl a0 a1 a2 a3 = some o) : impl_treeSame w (a0, a1, a2, a3) = some o := ap_close _ _ (impl_treeSame_raw_eq w wl a0 a1 a2 a3) h
end Go.Proofs.Ytgkobeililjgbaa.M
