/- Plain forms of the functions that FnExactMsgSize reaches, part 1. No conditions. -/
import Derived.Test.YtgkobeililjgbaaFnExactMsgSizeTab
namespace Go.Proofs.Ytgkobeililjgbaa.M
open Go Go.Eng Go.Proofs
set_option linter.unusedVariables false
noncomputable def laws_toTree_raw (D : DFun E) (L : LFun E) (a0 : List Int) (a1 : Int) : Option (XTree) :=
 Option.bind (laws_toIntS D a0) fun r1 =>
 some (r1, a1)
theorem laws_toTree_raw_eq (D : DFun E) (L : LFun E) (a0 : List Int) (a1 : Int) : laws_toTree (stepD E D L) (a0, a1) = laws_toTree_raw D L a0 a1 := by kernel_rfl
theorem laws_toTree_of (a0 : List Int) (a1 : Int) {o : XTree} (h : laws_toTree_raw w wl a0 a1 = some o) : laws_toTree w (a0, a1) = some o := ap_close _ _ (laws_toTree_raw_eq w wl a0 a1) h
noncomputable def laws_toMarkS_l0 (D : DFun E) (L : LFun E) (y0 : List XFloor) (y1 : Int) (y2 : List XFloor) : Option ((List XFloor)) :=
 bif (decide (y1 < (((List.length y0) : Nat) : Int))) then (bif inb y1 (List.length y0) then
 let e1 := (rd1 zFloor y0 y1)
 Option.bind (laws_toMark D (e1.1, e1.2)) fun r2 =>
 bif inb y1 (List.length y2) then
 let l3 := List.set y2 (Int.toNat y1) (r2.1, r2.2)
 laws_toMarkS_k0 L (y0, (IntKind.wrap .i64 (y1 + 1)), l3) else none else none)
 else (some y2)
theorem laws_toMarkS_l0_eq (D : DFun E) (L : LFun E) (y0 : List XFloor) (y1 : Int) (y2 : List XFloor) : laws_toMarkS_k0 (stepL E D L) (y0, y1, y2) = laws_toMarkS_l0 D L y0 y1 y2 := by kernel_rfl
theorem laws_toMarkS_l0_of (y0 : List XFloor) (y1 : Int) (y2 : List XFloor) {o : (List XFloor)} (h : laws_toMarkS_l0 w wl y0 y1 y2 = some o) : laws_toMarkS_k0 wl (y0, y1, y2) = some o := apL_close _ _ (laws_toMarkS_l0_eq w wl y0 y1 y2) h
noncomputable def laws_toMarkS_raw (D : DFun E) (L : LFun E) (a0 : List XFloor) : Option (List XFloor) :=
 bif (decide ((0 : Int) ≤ (((List.length a0) : Nat) : Int) ∧ ((((List.length a0) : Nat) : Int) : Int) = (((List.length a0) : Nat) : Int)) && fits (Int.toNat (((List.length a0) : Nat) : Int)) 16) then
 Option.bind (laws_toMarkS_k0 L (a0, 0, (List.replicate (Int.toNat (((List.length a0) : Nat) : Int)) (0, 0)))) fun z4 =>
 some z4 else none
theorem laws_toMarkS_raw_eq (D : DFun E) (L : LFun E) (a0 : List XFloor) : laws_toMarkS (stepD E D L) a0 = laws_toMarkS_raw D L a0 := by kernel_rfl
theorem laws_toMarkS_of (a0 : List XFloor) {o : List XFloor} (h : laws_toMarkS_raw w wl a0 = some o) : laws_toMarkS w a0 = some o := ap_close _ _ (laws_toMarkS_raw_eq w wl a0) h
noncomputable def impl_MsgBytes_l0 (D : DFun E) (L : LFun E) (y0 : List XFloor) (y1 : Int) (y2 : Int) (y3 : List Int) : Option ((List Int)) :=
 bif (decide (y2 < y1)) then (bif inb y2 (List.length y0) then
 let e15 := (rd1 zFloor y0 y2)
 Option.bind (impl_PutNum D e15.1) fun r16 =>
 Option.bind (impl_PutNum D e15.2) fun r17 =>
 Option.bind (impl_joined D [y3, r16, r17]) fun r18 =>
 impl_MsgBytes_k0 L (y0, y1, (IntKind.wrap .i64 (y2 + 1)), r18) else none)
 else (some y3)
theorem impl_MsgBytes_l0_eq (D : DFun E) (L : LFun E) (y0 : List XFloor) (y1 : Int) (y2 : Int) (y3 : List Int) : impl_MsgBytes_k0 (stepL E D L) (y0, y1, y2, y3) = impl_MsgBytes_l0 D L y0 y1 y2 y3 := by kernel_rfl
theorem impl_MsgBytes_l0_of (y0 : List XFloor) (y1 : Int) (y2 : Int) (y3 : List Int) {o : (List Int)} (h : impl_MsgBytes_l0 w wl y0 y1 y2 y3 = some o) : impl_MsgBytes_k0 wl (y0, y1, y2, y3) = some o := apL_close _ _ (impl_MsgBytes_l0_eq w wl y0 y1 y2 y3) h
noncomputable def impl_MsgBytes_raw (D : DFun E) (L : LFun E) (a0 : Int) (a1 : Int) (a2 : Int) (a3 : Int) (a4 : Int) (a5 : List Int) (a6 : Int) (a7 : List Int) (a8 : List Int) (a9 : List XItem) (a10 : List XFloor) (a11 : List XFloor) : Option (List Int) :=
 Option.bind (impl_MsgOk D (a0, a1, a2, a3, a4, a5, a6, a7, a8, a9, a10, a11)) fun r1 =>
 bif (!r1) then (some [])
 else (Option.bind (impl_StateBytes D (a9, a10)) fun r2 =>
 Option.bind (impl_PutNum D a0) fun r3 =>
 Option.bind (impl_PutNum D a1) fun r4 =>
 Option.bind (impl_PutNum D a2) fun r5 =>
 Option.bind (impl_PutNum D a3) fun r6 =>
 Option.bind (impl_PutNum D a4) fun r7 =>
 Option.bind (impl_putNums D a5) fun r8 =>
 Option.bind (impl_PutNum D a6) fun r9 =>
 Option.bind (impl_putNums D a7) fun r10 =>
 Option.bind (impl_putNums D a8) fun r11 =>
 Option.bind (impl_PutNum D (((List.length r2) : Nat) : Int)) fun r12 =>
 Option.bind (impl_PutNum D (((List.length a11) : Nat) : Int)) fun r13 =>
 Option.bind (impl_joined D [[82, 75], r3, r4, r5, r6, r7, r8, r9, r10, r11, r12, r2, r13]) fun r14 =>
 Option.bind (impl_MsgBytes_k0 L (a11, (((List.length a11) : Nat) : Int), 0, r14)) fun z19 =>
 Option.bind (impl_crcBytes D z19) fun r20 =>
 Option.bind (impl_joined D [z19, r20]) fun r21 =>
 some r21)
theorem impl_MsgBytes_raw_eq (D : DFun E) (L : LFun E) (a0 : Int) (a1 : Int) (a2 : Int) (a3 : Int) (a4 : Int) (a5 : List Int) (a6 : Int) (a7 : List Int) (a8 : List Int) (a9 : List XItem) (a10 : List XFloor) (a11 : List XFloor) : impl_MsgBytes (stepD E D L) (a0, a1, a2, a3, a4, a5, a6, a7, a8, a9, a10, a11) = impl_MsgBytes_raw D L a0 a1 a2 a3 a4 a5 a6 a7 a8 a9 a10 a11 := by kernel_rfl
theorem impl_MsgBytes_of (a0 : Int) (a1 : Int) (a2 : Int) (a3 : Int) (a4 : Int) (a5 : List Int) (a6 : Int) (a7 : List Int) (a8 : List Int) (a9 : List XItem) (a10 : List XFloor) (a11 : List XFloor) {o : List Int} (h : impl_MsgBytes_raw w wl a0 a1 a2 a3 a4 a5 a6 a7 a8 a9 a10 a11 = some o) : impl_MsgBytes w (a0, a1, a2, a3, a4, a5, a6, a7, a8, a9, a10, a11) = some o := ap_close _ _ (impl_MsgBytes_raw_eq w wl a0 a1 a2 a3 a4 a5 a6 a7 a8 a9 a10 a11) h
noncomputable def laws_eqTree_raw (D : DFun E) (L : LFun E) (a0 : List Int) (a1 : Int) (a2 : List Int) (a3 : Int) : Option (Bool) :=
 Option.bind (laws_eqIntS D (a0, a2)) fun r1 =>
 bif (!r1) then (some false)
 else (bif (!decide (a1 = a3)) then (some false)
 else (some true))
theorem laws_eqTree_raw_eq (D : DFun E) (L : LFun E) (a0 : List Int) (a1 : Int) (a2 : List Int) (a3 : Int) : laws_eqTree (stepD E D L) (a0, a1, a2, a3) = laws_eqTree_raw D L a0 a1 a2 a3 := by kernel_rfl
theorem laws_eqTree_of (a0 : List Int) (a1 : Int) (a2 : List Int) (a3 : Int) {o : Bool} (h : laws_eqTree_raw w wl a0 a1 a2 a3 = some o) : laws_eqTree w (a0, a1, a2, a3) = some o := ap_close _ _ (laws_eqTree_raw_eq w wl a0 a1 a2 a3) h
noncomputable def laws_eqMarkS_l0 (D : DFun E) (L : LFun E) (y0 : List XFloor) (y1 : List XFloor) (y2 : Int) : Option (Bool ⊕ Unit) :=
 bif (decide (y2 < (((List.length y0) : Nat) : Int))) then (bif inb y2 (List.length y0) then
 let e1 := (rd1 zFloor y0 y2)
 bif inb y2 (List.length y1) then
 let e2 := (rd1 zFloor y1 y2)
 Option.bind (laws_eqMark D (e1.1, e1.2, e2.1, e2.2)) fun r3 =>
 bif (!r3) then (some (Sum.inl false))
 else (laws_eqMarkS_k0 L (y0, y1, (IntKind.wrap .i64 (y2 + 1)))) else none else none)
 else (some (Sum.inr ()))
theorem laws_eqMarkS_l0_eq (D : DFun E) (L : LFun E) (y0 : List XFloor) (y1 : List XFloor) (y2 : Int) : laws_eqMarkS_k0 (stepL E D L) (y0, y1, y2) = laws_eqMarkS_l0 D L y0 y1 y2 := by kernel_rfl
theorem laws_eqMarkS_l0_of (y0 : List XFloor) (y1 : List XFloor) (y2 : Int) {o : Bool ⊕ Unit} (h : laws_eqMarkS_l0 w wl y0 y1 y2 = some o) : laws_eqMarkS_k0 wl (y0, y1, y2) = some o := apL_close _ _ (laws_eqMarkS_l0_eq w wl y0 y1 y2) h
noncomputable def laws_eqMarkS_raw (D : DFun E) (L : LFun E) (a0 : List XFloor) (a1 : List XFloor) : Option (Bool) :=
 bif (!decide ((((List.length a0) : Nat) : Int) = (((List.length a1) : Nat) : Int))) then (some false)
 else (Option.bind (laws_eqMarkS_k0 L (a0, a1, 0)) fun z4 =>
 elimS z4 (fun u5 =>
 some u5)
 (fun z6 =>
 some true))
theorem laws_eqMarkS_raw_eq (D : DFun E) (L : LFun E) (a0 : List XFloor) (a1 : List XFloor) : laws_eqMarkS (stepD E D L) (a0, a1) = laws_eqMarkS_raw D L a0 a1 := by kernel_rfl
theorem laws_eqMarkS_of (a0 : List XFloor) (a1 : List XFloor) {o : Bool} (h : laws_eqMarkS_raw w wl a0 a1 = some o) : laws_eqMarkS w (a0, a1) = some o := ap_close _ _ (laws_eqMarkS_raw_eq w wl a0 a1) h
noncomputable def impl_StateBytes_l0 (D : DFun E) (L : LFun E) (y0 : List XItem) (y1 : Int) (y2 : Int) (y3 : List XItem) (y4 : List XFloor) (y5 : List Int) : Option ((((List XItem) × (List XFloor) × (List Int)))) :=
 bif (decide (y2 < y1)) then (bif inb y2 (List.length y0) then
 let e3 := (rd1 zItem y0 y2)
 Option.bind (impl_PutNum D e3.1) fun r4 =>
 Option.bind (impl_PutNum D e3.2.1) fun r5 =>
 Option.bind (impl_PutNum D e3.2.2.1) fun r6 =>
 Option.bind (impl_PutNum D e3.2.2.2.1) fun r7 =>
 Option.bind (impl_PutNum D e3.2.2.2.2.1) fun r8 =>
 Option.bind (impl_PutText D e3.2.2.2.2.2) fun r9 =>
 Option.bind (impl_joined D [y5, r4, r5, r6, r7, r8, r9]) fun r10 =>
 impl_StateBytes_k0 L (y0, y1, (IntKind.wrap .i64 (y2 + 1)), y3, y4, r10) else none)
 else (some (y3, y4, y5))
theorem impl_StateBytes_l0_eq (D : DFun E) (L : LFun E) (y0 : List XItem) (y1 : Int) (y2 : Int) (y3 : List XItem) (y4 : List XFloor) (y5 : List Int) : impl_StateBytes_k0 (stepL E D L) (y0, y1, y2, y3, y4, y5) = impl_StateBytes_l0 D L y0 y1 y2 y3 y4 y5 := by kernel_rfl
theorem impl_StateBytes_l0_of (y0 : List XItem) (y1 : Int) (y2 : Int) (y3 : List XItem) (y4 : List XFloor) (y5 : List Int) {o : (((List XItem) × (List XFloor) × (List Int)))} (h : impl_StateBytes_l0 w wl y0 y1 y2 y3 y4 y5 = some o) : impl_StateBytes_k0 wl (y0, y1, y2, y3, y4, y5) = some o := apL_close _ _ (impl_StateBytes_l0_eq w wl y0 y1 y2 y3 y4 y5) h
noncomputable def impl_StateBytes_l2 (D : DFun E) (L : LFun E) (y0 : List XFloor) (y1 : Int) (y2 : Int) (y3 : List Int) : Option ((List Int)) :=
 bif (decide (y2 < y1)) then (bif inb y2 (List.length y0) then
 let e14 := (rd1 zFloor y0 y2)
 Option.bind (impl_PutNum D e14.1) fun r15 =>
 Option.bind (impl_PutNum D e14.2) fun r16 =>
 Option.bind (impl_joined D [y3, r15, r16]) fun r17 =>
 impl_StateBytes_k2 L (y0, y1, (IntKind.wrap .i64 (y2 + 1)), r17) else none)
 else (some y3)
theorem impl_StateBytes_l2_eq (D : DFun E) (L : LFun E) (y0 : List XFloor) (y1 : Int) (y2 : Int) (y3 : List Int) : impl_StateBytes_k2 (stepL E D L) (y0, y1, y2, y3) = impl_StateBytes_l2 D L y0 y1 y2 y3 := by kernel_rfl
theorem impl_StateBytes_l2_of (y0 : List XFloor) (y1 : Int) (y2 : Int) (y3 : List Int) {o : (List Int)} (h : impl_StateBytes_l2 w wl y0 y1 y2 y3 = some o) : impl_StateBytes_k2 wl (y0, y1, y2, y3) = some o := apL_close _ _ (impl_StateBytes_l2_eq w wl y0 y1 y2 y3) h
noncomputable def impl_StateBytes_raw (D : DFun E) (L : LFun E) (a0 : List XItem) (a1 : List XFloor) : Option (List Int) :=
 Option.bind (impl_StateOk D (a0, a1)) fun r1 =>
 bif (!r1) then (some [])
 else (Option.bind (impl_PutNum D (((List.length a0) : Nat) : Int)) fun r2 =>
 Option.bind (impl_StateBytes_k0 L (a0, (((List.length a0) : Nat) : Int), 0, a0, a1, r2)) fun z11 =>
 Option.bind (impl_PutNum D (((List.length z11.2.1) : Nat) : Int)) fun r12 =>
 Option.bind (impl_joined D [z11.2.2, r12]) fun r13 =>
 Option.bind (impl_StateBytes_k2 L (z11.2.1, (((List.length z11.2.1) : Nat) : Int), 0, r13)) fun z18 =>
 some z18)
theorem impl_StateBytes_raw_eq (D : DFun E) (L : LFun E) (a0 : List XItem) (a1 : List XFloor) : impl_StateBytes (stepD E D L) (a0, a1) = impl_StateBytes_raw D L a0 a1 := by kernel_rfl
theorem impl_StateBytes_of (a0 : List XItem) (a1 : List XFloor) {o : List Int} (h : impl_StateBytes_raw w wl a0 a1 = some o) : impl_StateBytes w (a0, a1) = some o := ap_close _ _ (impl_StateBytes_raw_eq w wl a0 a1) h
noncomputable def laws_szItemS_l0 (D : DFun E) (L : LFun E) (y0 : List XItem) (y1 : Int) (y2 : Int) : Option (Int ⊕ Int) :=
 bif (decide (y2 < (((List.length y0) : Nat) : Int))) then (bif inb y2 (List.length y0) then
 let e1 := (rd1 zItem y0 y2)
 Option.bind (laws_szItem D (e1.1, e1.2.1, e1.2.2.1, e1.2.2.2.1, e1.2.2.2.2.1, e1.2.2.2.2.2, y1)) fun r2 =>
 bif (decide (r2 < 0)) then (some (Sum.inl (-1)))
 else (laws_szItemS_k0 L (y0, r2, (IntKind.wrap .i64 (y2 + 1)))) else none)
 else (some (Sum.inr y1))
theorem laws_szItemS_l0_eq (D : DFun E) (L : LFun E) (y0 : List XItem) (y1 : Int) (y2 : Int) : laws_szItemS_k0 (stepL E D L) (y0, y1, y2) = laws_szItemS_l0 D L y0 y1 y2 := by kernel_rfl
theorem laws_szItemS_l0_of (y0 : List XItem) (y1 : Int) (y2 : Int) {o : Int ⊕ Int} (h : laws_szItemS_l0 w wl y0 y1 y2 = some o) : laws_szItemS_k0 wl (y0, y1, y2) = some o := apL_close _ _ (laws_szItemS_l0_eq w wl y0 y1 y2) h
noncomputable def laws_szItemS_raw (D : DFun E) (L : LFun E) (a0 : List XItem) (a1 : Int) : Option (Int) :=
 bif (decide ((IntKind.wrap .i64 (a1 - (((List.length a0) : Nat) : Int))) < 0)) then (some (-1))
 else (Option.bind (laws_szItemS_k0 L (a0, (IntKind.wrap .i64 (a1 - (((List.length a0) : Nat) : Int))), 0)) fun z3 =>
 elimS z3 (fun u4 =>
 some u4)
 (fun z5 =>
 some z5))
theorem laws_szItemS_raw_eq (D : DFun E) (L : LFun E) (a0 : List XItem) (a1 : Int) : laws_szItemS (stepD E D L) (a0, a1) = laws_szItemS_raw D L a0 a1 := by kernel_rfl
theorem laws_szItemS_of (a0 : List XItem) (a1 : Int) {o : Int} (h : laws_szItemS_raw w wl a0 a1 = some o) : laws_szItemS w (a0, a1) = some o := ap_close _ _ (laws_szItemS_raw_eq w wl a0 a1) h
noncomputable def laws_szFloorS_raw (D : DFun E) (L : LFun E) (a0 : List XFloor) (a1 : Int) : Option (Int) :=
 bif (decide ((IntKind.wrap .i64 (a1 - (((List.length a0) : Nat) : Int))) < 0)) then (some (-1))
 else (some (IntKind.wrap .i64 (a1 - (((List.length a0) : Nat) : Int))))
theorem laws_szFloorS_raw_eq (D : DFun E) (L : LFun E) (a0 : List XFloor) (a1 : Int) : laws_szFloorS (stepD E D L) (a0, a1) = laws_szFloorS_raw D L a0 a1 := by kernel_rfl
theorem laws_szFloorS_of (a0 : List XFloor) (a1 : Int) {o : Int} (h : laws_szFloorS_raw w wl a0 a1 = some o) : laws_szFloorS w (a0, a1) = some o := ap_close _ _ (laws_szFloorS_raw_eq w wl a0 a1) h
noncomputable def spec_l3Node_raw (D : DFun E) (L : LFun E) (a0 : Int) : Option (Bool) :=
 Option.bind (spec_l1In D (a0, 0, 4)) fun r1 =>
 some r1
theorem spec_l3Node_raw_eq (D : DFun E) (L : LFun E) (a0 : Int) : spec_l3Node (stepD E D L) a0 = spec_l3Node_raw D L a0 := by kernel_rfl
theorem spec_l3Node_of (a0 : Int) {o : Bool} (h : spec_l3Node_raw w wl a0 = some o) : spec_l3Node w a0 = some o := ap_close _ _ (spec_l3Node_raw_eq w wl a0) h
noncomputable def spec_EntryOk_raw (D : DFun E) (L : LFun E) (a0 : Int) (a1 : Int) (a2 : Int) (a3 : Int) (a4 : ByteArray) : Option (Bool) :=
 Option.bind (spec_l1In D (a0, 1, 1000)) fun r1 =>
 bif r1 then (Option.bind (spec_l1In D (a1, 0, 1)) fun r2 =>
 bif r2 then (Option.bind (spec_l1In D (a2, 0, 100000)) fun r3 =>
 bif r3 then (Option.bind (spec_l1In D (a3, 0, 1000)) fun r4 =>
 bif r4 then (some (decide ((((ByteArray.size a4) : Nat) : Int) ≤ 8)))
 else (some false))
 else (some false))
 else (some false))
 else (some false)
theorem spec_EntryOk_raw_eq (D : DFun E) (L : LFun E) (a0 : Int) (a1 : Int) (a2 : Int) (a3 : Int) (a4 : ByteArray) : spec_EntryOk (stepD E D L) (a0, a1, a2, a3, a4) = spec_EntryOk_raw D L a0 a1 a2 a3 a4 := by kernel_rfl
theorem spec_EntryOk_of (a0 : Int) (a1 : Int) (a2 : Int) (a3 : Int) (a4 : ByteArray) {o : Bool} (h : spec_EntryOk_raw w wl a0 a1 a2 a3 a4 = some o) : spec_EntryOk w (a0, a1, a2, a3, a4) = some o := ap_close _ _ (spec_EntryOk_raw_eq w wl a0 a1 a2 a3 a4) h
noncomputable def spec_FloorOf_l0 (D : DFun E) (L : LFun E) (y0 : Int) (y1 : Int) (y2 : List XItem) (y3 : List XFloor) : Option (Int ⊕ Unit) :=
 bif (decide (y1 < (((List.length y3) : Nat) : Int))) then (bif inb y1 (List.length y3) then
 let e1 := (rd1 zFloor y3 y1)
 bif (decide (e1.1 = y0)) then (bif inb y1 (List.length y3) then
 let e2 := (rd1 zFloor y3 y1)
 some (Sum.inl e2.2) else none)
 else (spec_FloorOf_k0 L (y0, (IntKind.wrap .i64 (y1 + 1)), y2, y3)) else none)
 else (some (Sum.inr ()))
theorem spec_FloorOf_l0_eq (D : DFun E) (L : LFun E) (y0 : Int) (y1 : Int) (y2 : List XItem) (y3 : List XFloor) : spec_FloorOf_k0 (stepL E D L) (y0, y1, y2, y3) = spec_FloorOf_l0 D L y0 y1 y2 y3 := by kernel_rfl
theorem spec_FloorOf_l0_of (y0 : Int) (y1 : Int) (y2 : List XItem) (y3 : List XFloor) {o : Int ⊕ Unit} (h : spec_FloorOf_l0 w wl y0 y1 y2 y3 = some o) : spec_FloorOf_k0 wl (y0, y1, y2, y3) = some o := apL_close _ _ (spec_FloorOf_l0_eq w wl y0 y1 y2 y3) h
noncomputable def spec_FloorOf_raw (D : DFun E) (L : LFun E) (a0 : List XItem) (a1 : List XFloor) (a2 : Int) : Option (Int) :=
 Option.bind (spec_FloorOf_k0 L (a2, 0, a0, a1)) fun z3 =>
 elimS z3 (fun u4 =>
 some u4)
 (fun z5 =>
 some 0)
theorem spec_FloorOf_raw_eq (D : DFun E) (L : LFun E) (a0 : List XItem) (a1 : List XFloor) (a2 : Int) : spec_FloorOf (stepD E D L) (a0, a1, a2) = spec_FloorOf_raw D L a0 a1 a2 := by kernel_rfl
theorem spec_FloorOf_of (a0 : List XItem) (a1 : List XFloor) (a2 : Int) {o : Int} (h : spec_FloorOf_raw w wl a0 a1 a2 = some o) : spec_FloorOf w (a0, a1, a2) = some o := ap_close _ _ (spec_FloorOf_raw_eq w wl a0 a1 a2) h
noncomputable def laws_toItemS_l0 (D : DFun E) (L : LFun E) (y0 : List XItem) (y1 : Int) (y2 : List XItem) : Option ((List XItem)) :=
 bif (decide (y1 < (((List.length y0) : Nat) : Int))) then (bif inb y1 (List.length y0) then
 let e1 := (rd1 zItem y0 y1)
 Option.bind (laws_toItem D (e1.1, e1.2.1, e1.2.2.1, e1.2.2.2.1, e1.2.2.2.2.1, e1.2.2.2.2.2)) fun r2 =>
 bif inb y1 (List.length y2) then
 let l3 := List.set y2 (Int.toNat y1) (r2.1, r2.2.1, r2.2.2.1, r2.2.2.2.1, r2.2.2.2.2.1, r2.2.2.2.2.2)
 laws_toItemS_k0 L (y0, (IntKind.wrap .i64 (y1 + 1)), l3) else none else none)
 else (some y2)
theorem laws_toItemS_l0_eq (D : DFun E) (L : LFun E) (y0 : List XItem) (y1 : Int) (y2 : List XItem) : laws_toItemS_k0 (stepL E D L) (y0, y1, y2) = laws_toItemS_l0 D L y0 y1 y2 := by kernel_rfl
theorem laws_toItemS_l0_of (y0 : List XItem) (y1 : Int) (y2 : List XItem) {o : (List XItem)} (h : laws_toItemS_l0 w wl y0 y1 y2 = some o) : laws_toItemS_k0 wl (y0, y1, y2) = some o := apL_close _ _ (laws_toItemS_l0_eq w wl y0 y1 y2) h
noncomputable def laws_toItemS_raw (D : DFun E) (L : LFun E) (a0 : List XItem) : Option (List XItem) :=
 bif (decide ((0 : Int) ≤ (((List.length a0) : Nat) : Int) ∧ ((((List.length a0) : Nat) : Int) : Int) = (((List.length a0) : Nat) : Int)) && fits (Int.toNat (((List.length a0) : Nat) : Int)) 56) then
 Option.bind (laws_toItemS_k0 L (a0, 0, (List.replicate (Int.toNat (((List.length a0) : Nat) : Int)) (0, 0, 0, 0, 0, ByteArray.empty)))) fun z4 =>
 some z4 else none
theorem laws_toItemS_raw_eq (D : DFun E) (L : LFun E) (a0 : List XItem) : laws_toItemS (stepD E D L) a0 = laws_toItemS_raw D L a0 := by kernel_rfl
theorem laws_toItemS_of (a0 : List XItem) {o : List XItem} (h : laws_toItemS_raw w wl a0 = some o) : laws_toItemS w a0 = some o := ap_close _ _ (laws_toItemS_raw_eq w wl a0) h
noncomputable def laws_toFloorS_l0 (D : DFun E) (L : LFun E) (y0 : List XFloor) (y1 : Int) (y2 : List XFloor) : Option ((List XFloor)) :=
 bif (decide (y1 < (((List.length y0) : Nat) : Int))) then (bif inb y1 (List.length y0) then
 let e1 := (rd1 zFloor y0 y1)
 Option.bind (laws_toFloor D (e1.1, e1.2)) fun r2 =>
 bif inb y1 (List.length y2) then
 let l3 := List.set y2 (Int.toNat y1) (r2.1, r2.2)
 laws_toFloorS_k0 L (y0, (IntKind.wrap .i64 (y1 + 1)), l3) else none else none)
 else (some y2)
theorem laws_toFloorS_l0_eq (D : DFun E) (L : LFun E) (y0 : List XFloor) (y1 : Int) (y2 : List XFloor) : laws_toFloorS_k0 (stepL E D L) (y0, y1, y2) = laws_toFloorS_l0 D L y0 y1 y2 := by kernel_rfl
theorem laws_toFloorS_l0_of (y0 : List XFloor) (y1 : Int) (y2 : List XFloor) {o : (List XFloor)} (h : laws_toFloorS_l0 w wl y0 y1 y2 = some o) : laws_toFloorS_k0 wl (y0, y1, y2) = some o := apL_close _ _ (laws_toFloorS_l0_eq w wl y0 y1 y2) h
noncomputable def laws_toFloorS_raw (D : DFun E) (L : LFun E) (a0 : List XFloor) : Option (List XFloor) :=
 bif (decide ((0 : Int) ≤ (((List.length a0) : Nat) : Int) ∧ ((((List.length a0) : Nat) : Int) : Int) = (((List.length a0) : Nat) : Int)) && fits (Int.toNat (((List.length a0) : Nat) : Int)) 16) then
 Option.bind (laws_toFloorS_k0 L (a0, 0, (List.replicate (Int.toNat (((List.length a0) : Nat) : Int)) (0, 0)))) fun z4 =>
 some z4 else none
theorem laws_toFloorS_raw_eq (D : DFun E) (L : LFun E) (a0 : List XFloor) : laws_toFloorS (stepD E D L) a0 = laws_toFloorS_raw D L a0 := by kernel_rfl
theorem laws_toFloorS_of (a0 : List XFloor) {o : List XFloor} (h : laws_toFloorS_raw w wl a0 = some o) : laws_toFloorS w a0 = some o := ap_close _ _ (laws_toFloorS_raw_eq w wl a0) h
noncomputable def impl_isNode_raw (D : DFun E) (L : LFun E) (a0 : Int) : Option (Bool) :=
 Option.bind (impl_within D (a0, 0, 4)) fun r1 =>
 some r1
theorem impl_isNode_raw_eq (D : DFun E) (L : LFun E) (a0 : Int) : impl_isNode (stepD E D L) a0 = impl_isNode_raw D L a0 := by kernel_rfl
theorem impl_isNode_of (a0 : Int) {o : Bool} (h : impl_isNode_raw w wl a0 = some o) : impl_isNode w a0 = some o := ap_close _ _ (impl_isNode_raw_eq w wl a0) h
noncomputable def impl_EntryOk_raw (D : DFun E) (L : LFun E) (a0 : Int) (a1 : Int) (a2 : Int) (a3 : Int) (a4 : ByteArray) : Option (Bool) :=
 Option.bind (impl_within D (a0, 1, 1000)) fun r1 =>
 bif r1 then (Option.bind (impl_within D (a1, 0, 1)) fun r2 =>
 bif r2 then (Option.bind (impl_within D (a2, 0, 100000)) fun r3 =>
 bif r3 then (Option.bind (impl_within D (a3, 0, 1000)) fun r4 =>
 bif r4 then (some (decide ((((ByteArray.size a4) : Nat) : Int) ≤ 8)))
 else (some false))
 else (some false))
 else (some false))
 else (some false)
theorem impl_EntryOk_raw_eq (D : DFun E) (L : LFun E) (a0 : Int) (a1 : Int) (a2 : Int) (a3 : Int) (a4 : ByteArray) : impl_EntryOk (stepD E D L) (a0, a1, a2, a3, a4) = impl_EntryOk_raw D L a0 a1 a2 a3 a4 := by kernel_rfl
theorem impl_EntryOk_of (a0 : Int) (a1 : Int) (a2 : Int) (a3 : Int) (a4 : ByteArray) {o : Bool} (h : impl_EntryOk_raw w wl a0 a1 a2 a3 a4 = some o) : impl_EntryOk w (a0, a1, a2, a3, a4) = some o := ap_close _ _ (impl_EntryOk_raw_eq w wl a0 a1 a2 a3 a4) h
noncomputable def impl_FloorOf_l0 (D : DFun E) (L : LFun E) (y0 : Int) (y1 : List XFloor) (y2 : Int) (y3 : Int) : Option (Int ⊕ Unit) :=
 bif (decide (y3 < y2)) then (bif inb y3 (List.length y1) then
 let e1 := (rd1 zFloor y1 y3)
 bif (decide (e1.1 = y0)) then (some (Sum.inl e1.2))
 else (impl_FloorOf_k0 L (y0, y1, y2, (IntKind.wrap .i64 (y3 + 1)))) else none)
 else (some (Sum.inr ()))
theorem impl_FloorOf_l0_eq (D : DFun E) (L : LFun E) (y0 : Int) (y1 : List XFloor) (y2 : Int) (y3 : Int) : impl_FloorOf_k0 (stepL E D L) (y0, y1, y2, y3) = impl_FloorOf_l0 D L y0 y1 y2 y3 := by kernel_rfl
theorem impl_FloorOf_l0_of (y0 : Int) (y1 : List XFloor) (y2 : Int) (y3 : Int) {o : Int ⊕ Unit} (h : impl_FloorOf_l0 w wl y0 y1 y2 y3 = some o) : impl_FloorOf_k0 wl (y0, y1, y2, y3) = some o := apL_close _ _ (impl_FloorOf_l0_eq w wl y0 y1 y2 y3) h
noncomputable def impl_FloorOf_raw (D : DFun E) (L : LFun E) (a0 : List XItem) (a1 : List XFloor) (a2 : Int) : Option (Int) :=
 Option.bind (impl_FloorOf_k0 L (a2, a1, (((List.length a1) : Nat) : Int), 0)) fun z2 =>
 elimS z2 (fun u3 =>
 some u3)
 (fun z4 =>
 some 0)
theorem impl_FloorOf_raw_eq (D : DFun E) (L : LFun E) (a0 : List XItem) (a1 : List XFloor) (a2 : Int) : impl_FloorOf (stepD E D L) (a0, a1, a2) = impl_FloorOf_raw D L a0 a1 a2 := by kernel_rfl
theorem impl_FloorOf_of (a0 : List XItem) (a1 : List XFloor) (a2 : Int) {o : Int} (h : impl_FloorOf_raw w wl a0 a1 a2 = some o) : impl_FloorOf w (a0, a1, a2) = some o := ap_close _ _ (impl_FloorOf_raw_eq w wl a0 a1 a2) h
noncomputable def laws_eqFloorS_l0 (D : DFun E) (L : LFun E) (y0 : List XFloor) (y1 : List XFloor) (y2 : Int) : Option (Bool ⊕ Unit) :=
 bif (decide (y2 < (((List.length y0) : Nat) : Int))) then (bif inb y2 (List.length y0) then
 let e1 := (rd1 zFloor y0 y2)
 bif inb y2 (List.length y1) then
 let e2 := (rd1 zFloor y1 y2)
 Option.bind (laws_eqFloor D (e1.1, e1.2, e2.1, e2.2)) fun r3 =>
 bif (!r3) then (some (Sum.inl false))
 else (laws_eqFloorS_k0 L (y0, y1, (IntKind.wrap .i64 (y2 + 1)))) else none else none)
 else (some (Sum.inr ()))
theorem laws_eqFloorS_l0_eq (D : DFun E) (L : LFun E) (y0 : List XFloor) (y1 : List XFloor) (y2 : Int) : laws_eqFloorS_k0 (stepL E D L) (y0, y1, y2) = laws_eqFloorS_l0 D L y0 y1 y2 := by kernel_rfl
theorem laws_eqFloorS_l0_of (y0 : List XFloor) (y1 : List XFloor) (y2 : Int) {o : Bool ⊕ Unit} (h : laws_eqFloorS_l0 w wl y0 y1 y2 = some o) : laws_eqFloorS_k0 wl (y0, y1, y2) = some o := apL_close _ _ (laws_eqFloorS_l0_eq w wl y0 y1 y2) h
noncomputable def laws_eqFloorS_raw (D : DFun E) (L : LFun E) (a0 : List XFloor) (a1 : List XFloor) : Option (Bool) :=
 bif (!decide ((((List.length a0) : Nat) : Int) = (((List.length a1) : Nat) : Int))) then (some false)
 else (Option.bind (laws_eqFloorS_k0 L (a0, a1, 0)) fun z4 =>
 elimS z4 (fun u5 =>
 some u5)
 (fun z6 =>
 some true))
theorem laws_eqFloorS_raw_eq (D : DFun E) (L : LFun E) (a0 : List XFloor) (a1 : List XFloor) : laws_eqFloorS (stepD E D L) (a0, a1) = laws_eqFloorS_raw D L a0 a1 := by kernel_rfl
theorem laws_eqFloorS_of (a0 : List XFloor) (a1 : List XFloor) {o : Bool} (h : laws_eqFloorS_raw w wl a0 a1 = some o) : laws_eqFloorS w (a0, a1) = some o := ap_close _ _ (laws_eqFloorS_raw_eq w wl a0 a1) h
noncomputable def laws_eqEntry_raw (D : DFun E) (L : LFun E) (a0 : Int) (a1 : Int) (a2 : Int) (a3 : Int) (a4 : ByteArray) (a5 : Int) (a6 : Int) (a7 : Int) (a8 : Int) (a9 : ByteArray) : Option (Bool) :=
 bif (!decide (a0 = a5)) then (some false)
 else (bif (!decide (a1 = a6)) then (some false)
 else (bif (!decide (a2 = a7)) then (some false)
 else (bif (!decide (a3 = a8)) then (some false)
 else (bif (!beqS a4 a9) then (some false)
 else (some true)))))
theorem laws_eqEntry_raw_eq (D : DFun E) (L : LFun E) (a0 : Int) (a1 : Int) (a2 : Int) (a3 : Int) (a4 : ByteArray) (a5 : Int) (a6 : Int) (a7 : Int) (a8 : Int) (a9 : ByteArray) : laws_eqEntry (stepD E D L) (a0, a1, a2, a3, a4, a5, a6, a7, a8, a9) = laws_eqEntry_raw D L a0 a1 a2 a3 a4 a5 a6 a7 a8 a9 := by kernel_rfl
theorem laws_eqEntry_of (a0 : Int) (a1 : Int) (a2 : Int) (a3 : Int) (a4 : ByteArray) (a5 : Int) (a6 : Int) (a7 : Int) (a8 : Int) (a9 : ByteArray) {o : Bool} (h : laws_eqEntry_raw w wl a0 a1 a2 a3 a4 a5 a6 a7 a8 a9 = some o) : laws_eqEntry w (a0, a1, a2, a3, a4, a5, a6, a7, a8, a9) = some o := ap_close _ _ (laws_eqEntry_raw_eq w wl a0 a1 a2 a3 a4 a5 a6 a7 a8 a9) h
noncomputable def spec_MsgOk_l0 (D : DFun E) (L : LFun E) (y0 : Int) (y1 : Int) (y2 : Int) (y3 : Int) (y4 : Int) (y5 : Int) (y6 : List Int) (y7 : Int) (y8 : List Int) (y9 : List Int) (y10 : List XItem) (y11 : List XFloor) (y12 : List XFloor) : Option (Bool ⊕ Unit) :=
 bif (decide (y0 < (((List.length y9) : Nat) : Int))) then (bif inb y0 (List.length y9) then
 bif inb (IntKind.wrap .i64 (y0 - 1)) (List.length y9) then
 bif (decide ((rd1 (0 : Int) y9 y0) ≤ (rd1 (0 : Int) y9 (IntKind.wrap .i64 (y0 - 1))))) then (some (Sum.inl false))
 else (spec_MsgOk_k0 L ((IntKind.wrap .i64 (y0 + 1)), y1, y2, y3, y4, y5, y6, y7, y8, y9, y10, y11, y12)) else none else none)
 else (some (Sum.inr ()))
theorem spec_MsgOk_l0_eq (D : DFun E) (L : LFun E) (y0 : Int) (y1 : Int) (y2 : Int) (y3 : Int) (y4 : Int) (y5 : Int) (y6 : List Int) (y7 : Int) (y8 : List Int) (y9 : List Int) (y10 : List XItem) (y11 : List XFloor) (y12 : List XFloor) : spec_MsgOk_k0 (stepL E D L) (y0, y1, y2, y3, y4, y5, y6, y7, y8, y9, y10, y11, y12) = spec_MsgOk_l0 D L y0 y1 y2 y3 y4 y5 y6 y7 y8 y9 y10 y11 y12 := by kernel_rfl
theorem spec_MsgOk_l0_of (y0 : Int) (y1 : Int) (y2 : Int) (y3 : Int) (y4 : Int) (y5 : Int) (y6 : List Int) (y7 : Int) (y8 : List Int) (y9 : List Int) (y10 : List XItem) (y11 : List XFloor) (y12 : List XFloor) {o : Bool ⊕ Unit} (h : spec_MsgOk_l0 w wl y0 y1 y2 y3 y4 y5 y6 y7 y8 y9 y10 y11 y12 = some o) : spec_MsgOk_k0 wl (y0, y1, y2, y3, y4, y5, y6, y7, y8, y9, y10, y11, y12) = some o := apL_close _ _ (spec_MsgOk_l0_eq w wl y0 y1 y2 y3 y4 y5 y6 y7 y8 y9 y10 y11 y12) h
noncomputable def spec_MsgOk_raw (D : DFun E) (L : LFun E) (a0 : Int) (a1 : Int) (a2 : Int) (a3 : Int) (a4 : Int) (a5 : List Int) (a6 : Int) (a7 : List Int) (a8 : List Int) (a9 : List XItem) (a10 : List XFloor) (a11 : List XFloor) : Option (Bool) :=
 Option.bind (spec_l1In D (a0, 0, 5)) fun r1 =>
 bif (!r1) then (some false)
 else (Option.bind (spec_l3Node D a1) fun r2 =>
 bif (!r2) then (some false)
 else (Option.bind (spec_l3Node D a2) fun r3 =>
 bif (!r3) then (some false)
 else (bif (decide (a1 = a2)) then (some false)
 else (Option.bind (spec_l1In D (a3, 0, 100000)) fun r4 =>
 bif (!r4) then (some false)
 else (Option.bind (spec_l1In D (a4, 0, 100000)) fun r5 =>
 bif (!r5) then (some false)
 else (Option.bind (spec_l10Tree D (a5, a6)) fun r6 =>
 bif (!r6) then (some false)
 else (Option.bind (spec_l10Nums D (a7, 5, 100000)) fun r7 =>
 bif (!r7) then (some false)
 else (Option.bind (spec_l10Nums D (a8, 4, 3)) fun r8 =>
 bif (!r8) then (some false)
 else (Option.bind (spec_StateOk D (a9, a10)) fun r9 =>
 bif (!r9) then (some false)
 else (Option.bind (spec_MarksOk D a11) fun r10 =>
 bif (!r10) then (some false)
 else (Option.bind (spec_MsgOk_k0 L (1, a0, a1, a2, a3, a4, a5, a6, a7, a8, a9, a10, a11)) fun z11 =>
 elimS z11 (fun u12 =>
 some u12)
 (fun z13 =>
 some true))))))))))))
theorem spec_MsgOk_raw_eq (D : DFun E) (L : LFun E) (a0 : Int) (a1 : Int) (a2 : Int) (a3 : Int) (a4 : Int) (a5 : List Int) (a6 : Int) (a7 : List Int) (a8 : List Int) (a9 : List XItem) (a10 : List XFloor) (a11 : List XFloor) : spec_MsgOk (stepD E D L) (a0, a1, a2, a3, a4, a5, a6, a7, a8, a9, a10, a11) = spec_MsgOk_raw D L a0 a1 a2 a3 a4 a5 a6 a7 a8 a9 a10 a11 := by kernel_rfl
theorem spec_MsgOk_of (a0 : Int) (a1 : Int) (a2 : Int) (a3 : Int) (a4 : Int) (a5 : List Int) (a6 : Int) (a7 : List Int) (a8 : List Int) (a9 : List XItem) (a10 : List XFloor) (a11 : List XFloor) {o : Bool} (h : spec_MsgOk_raw w wl a0 a1 a2 a3 a4 a5 a6 a7 a8 a9 a10 a11 = some o) : spec_MsgOk w (a0, a1, a2, a3, a4, a5, a6, a7, a8, a9, a10, a11) = some o := ap_close _ _ (spec_MsgOk_raw_eq w wl a0 a1 a2 a3 a4 a5 a6 a7 a8 a9 a10 a11) h
noncomputable def spec_l10Body_l0 (D : DFun E) (L : LFun E) (y0 : Int) (y1 : Int) (y2 : Int) (y3 : Int) (y4 : Int) (y5 : Int) (y6 : List Int) (y7 : Int) (y8 : List Int) (y9 : List Int) (y10 : List XItem) (y11 : List XFloor) (y12 : List XFloor) (y13 : List Int) (y14 : List Int) : Option (((Int × Int × Int × Int × Int × (List Int) × Int × (List Int) × (List Int) × (List XItem) × (List XFloor) × (List XFloor) × (List Int)))) :=
 bif (decide (y0 < (((List.length y14) : Nat) : Int))) then (bif inb y0 (List.length y14) then
 Option.bind (spec_PutNum D (rd1 (0 : Int) y14 y0)) fun r1 =>
 bif fits (List.length y13 + List.length r1) 1 then
 spec_l10Body_k0 L ((IntKind.wrap .i64 (y0 + 1)), y1, y2, y3, y4, y5, y6, y7, y8, y9, y10, y11, y12, (y13 ++ r1), y14) else none else none)
 else (some (y1, y2, y3, y4, y5, y6, y7, y8, y9, y10, y11, y12, y13))
theorem spec_l10Body_l0_eq (D : DFun E) (L : LFun E) (y0 : Int) (y1 : Int) (y2 : Int) (y3 : Int) (y4 : Int) (y5 : Int) (y6 : List Int) (y7 : Int) (y8 : List Int) (y9 : List Int) (y10 : List XItem) (y11 : List XFloor) (y12 : List XFloor) (y13 : List Int) (y14 : List Int) : spec_l10Body_k0 (stepL E D L) (y0, y1, y2, y3, y4, y5, y6, y7, y8, y9, y10, y11, y12, y13, y14) = spec_l10Body_l0 D L y0 y1 y2 y3 y4 y5 y6 y7 y8 y9 y10 y11 y12 y13 y14 := by kernel_rfl
theorem spec_l10Body_l0_of (y0 : Int) (y1 : Int) (y2 : Int) (y3 : Int) (y4 : Int) (y5 : Int) (y6 : List Int) (y7 : Int) (y8 : List Int) (y9 : List Int) (y10 : List XItem) (y11 : List XFloor) (y12 : List XFloor) (y13 : List Int) (y14 : List Int) {o : ((Int × Int × Int × Int × Int × (List Int) × Int × (List Int) × (List Int) × (List XItem) × (List XFloor) × (List XFloor) × (List Int)))} (h : spec_l10Body_l0 w wl y0 y1 y2 y3 y4 y5 y6 y7 y8 y9 y10 y11 y12 y13 y14 = some o) : spec_l10Body_k0 wl (y0, y1, y2, y3, y4, y5, y6, y7, y8, y9, y10, y11, y12, y13, y14) = some o := apL_close _ _ (spec_l10Body_l0_eq w wl y0 y1 y2 y3 y4 y5 y6 y7 y8 y9 y10 y11 y12 y13 y14) h
noncomputable def spec_l10Body_l2 (D : DFun E) (L : LFun E) (y0 : Int) (y1 : Int) (y2 : Int) (y3 : Int) (y4 : Int) (y5 : Int) (y6 : List Int) (y7 : Int) (y8 : List Int) (y9 : List Int) (y10 : List XItem) (y11 : List XFloor) (y12 : List XFloor) (y13 : List Int) : Option ((List Int)) :=
 bif (decide (y0 < (((List.length y12) : Nat) : Int))) then (bif inb y0 (List.length y12) then
 let e10 := (rd1 zFloor y12 y0)
 Option.bind (spec_PutNum D e10.1) fun r11 =>
 bif fits (List.length y13 + List.length r11) 1 then
 bif inb y0 (List.length y12) then
 let e12 := (rd1 zFloor y12 y0)
 Option.bind (spec_PutNum D e12.2) fun r13 =>
 bif fits (List.length (y13 ++ r11) + List.length r13) 1 then
 spec_l10Body_k2 L ((IntKind.wrap .i64 (y0 + 1)), y1, y2, y3, y4, y5, y6, y7, y8, y9, y10, y11, y12, ((y13 ++ r11) ++ r13)) else none else none else none else none)
 else (some y13)
theorem spec_l10Body_l2_eq (D : DFun E) (L : LFun E) (y0 : Int) (y1 : Int) (y2 : Int) (y3 : Int) (y4 : Int) (y5 : Int) (y6 : List Int) (y7 : Int) (y8 : List Int) (y9 : List Int) (y10 : List XItem) (y11 : List XFloor) (y12 : List XFloor) (y13 : List Int) : spec_l10Body_k2 (stepL E D L) (y0, y1, y2, y3, y4, y5, y6, y7, y8, y9, y10, y11, y12, y13) = spec_l10Body_l2 D L y0 y1 y2 y3 y4 y5 y6 y7 y8 y9 y10 y11 y12 y13 := by kernel_rfl
theorem spec_l10Body_l2_of (y0 : Int) (y1 : Int) (y2 : Int) (y3 : Int) (y4 : Int) (y5 : Int) (y6 : List Int) (y7 : Int) (y8 : List Int) (y9 : List Int) (y10 : List XItem) (y11 : List XFloor) (y12 : List XFloor) (y13 : List Int) {o : (List Int)} (h : spec_l10Body_l2 w wl y0 y1 y2 y3 y4 y5 y6 y7 y8 y9 y10 y11 y12 y13 = some o) : spec_l10Body_k2 wl (y0, y1, y2, y3, y4, y5, y6, y7, y8, y9, y10, y11, y12, y13) = some o := apL_close _ _ (spec_l10Body_l2_eq w wl y0 y1 y2 y3 y4 y5 y6 y7 y8 y9 y10 y11 y12 y13) h
noncomputable def spec_l10Body_raw (D : DFun E) (L : LFun E) (a0 : Int) (a1 : Int) (a2 : Int) (a3 : Int) (a4 : Int) (a5 : List Int) (a6 : Int) (a7 : List Int) (a8 : List Int) (a9 : List XItem) (a10 : List XFloor) (a11 : List XFloor) : Option (List Int) :=
 Option.bind (spec_l10Body_k0 L (0, a0, a1, a2, a3, a4, a5, a6, a7, a8, a9, a10, a11, [82, 75], [a0, a1, a2, a3, a4])) fun z2 =>
 Option.bind (spec_l10List D z2.2.2.2.2.2.1) fun r3 =>
 bif fits (List.length z2.2.2.2.2.2.2.2.2.2.2.2.2 + List.length r3) 1 then
 Option.bind (spec_PutNum D z2.2.2.2.2.2.2.1) fun r4 =>
 bif fits (List.length (z2.2.2.2.2.2.2.2.2.2.2.2.2 ++ r3) + List.length r4) 1 then
 Option.bind (spec_l10List D z2.2.2.2.2.2.2.2.1) fun r5 =>
 bif fits (List.length ((z2.2.2.2.2.2.2.2.2.2.2.2.2 ++ r3) ++ r4) + List.length r5) 1 then
 Option.bind (spec_l10List D z2.2.2.2.2.2.2.2.2.1) fun r6 =>
 bif fits (List.length (((z2.2.2.2.2.2.2.2.2.2.2.2.2 ++ r3) ++ r4) ++ r5) + List.length r6) 1 then
 Option.bind (spec_l6Bytes D (z2.2.2.2.2.2.2.2.2.2.1, z2.2.2.2.2.2.2.2.2.2.2.1)) fun r7 =>
 Option.bind (spec_PutNum D (((List.length r7) : Nat) : Int)) fun r8 =>
 bif fits (List.length ((((z2.2.2.2.2.2.2.2.2.2.2.2.2 ++ r3) ++ r4) ++ r5) ++ r6) + List.length r8) 1 then
 bif fits (List.length (((((z2.2.2.2.2.2.2.2.2.2.2.2.2 ++ r3) ++ r4) ++ r5) ++ r6) ++ r8) + List.length r7) 1 then
 Option.bind (spec_PutNum D (((List.length z2.2.2.2.2.2.2.2.2.2.2.2.1) : Nat) : Int)) fun r9 =>
 bif fits (List.length ((((((z2.2.2.2.2.2.2.2.2.2.2.2.2 ++ r3) ++ r4) ++ r5) ++ r6) ++ r8) ++ r7) + List.length r9) 1 then
 Option.bind (spec_l10Body_k2 L (0, z2.1, z2.2.1, z2.2.2.1, z2.2.2.2.1, z2.2.2.2.2.1, z2.2.2.2.2.2.1, z2.2.2.2.2.2.2.1, z2.2.2.2.2.2.2.2.1, z2.2.2.2.2.2.2.2.2.1, z2.2.2.2.2.2.2.2.2.2.1, z2.2.2.2.2.2.2.2.2.2.2.1, z2.2.2.2.2.2.2.2.2.2.2.2.1, (((((((z2.2.2.2.2.2.2.2.2.2.2.2.2 ++ r3) ++ r4) ++ r5) ++ r6) ++ r8) ++ r7) ++ r9))) fun z14 =>
 some z14 else none else none else none else none else none else none else none
theorem spec_l10Body_raw_eq (D : DFun E) (L : LFun E) (a0 : Int) (a1 : Int) (a2 : Int) (a3 : Int) (a4 : Int) (a5 : List Int) (a6 : Int) (a7 : List Int) (a8 : List Int) (a9 : List XItem) (a10 : List XFloor) (a11 : List XFloor) : spec_l10Body (stepD E D L) (a0, a1, a2, a3, a4, a5, a6, a7, a8, a9, a10, a11) = spec_l10Body_raw D L a0 a1 a2 a3 a4 a5 a6 a7 a8 a9 a10 a11 := by kernel_rfl
theorem spec_l10Body_of (a0 : Int) (a1 : Int) (a2 : Int) (a3 : Int) (a4 : Int) (a5 : List Int) (a6 : Int) (a7 : List Int) (a8 : List Int) (a9 : List XItem) (a10 : List XFloor) (a11 : List XFloor) {o : List Int} (h : spec_l10Body_raw w wl a0 a1 a2 a3 a4 a5 a6 a7 a8 a9 a10 a11 = some o) : spec_l10Body w (a0, a1, a2, a3, a4, a5, a6, a7, a8, a9, a10, a11) = some o := ap_close _ _ (spec_l10Body_raw_eq w wl a0 a1 a2 a3 a4 a5 a6 a7 a8 a9 a10 a11) h
end Go.Proofs.Ytgkobeililjgbaa.M
