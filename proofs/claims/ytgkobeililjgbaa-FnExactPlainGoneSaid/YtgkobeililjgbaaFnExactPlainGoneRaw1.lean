/- Plain forms of the functions that FnExactPlainGone reaches, part 1. No conditions. -/
import Derived.Test.YtgkobeililjgbaaFnExactPlainGoneTab
namespace Go.Proofs.Ytgkobeililjgbaa.M
open Go Go.Eng Go.Proofs
set_option linter.unusedVariables false
noncomputable def spec_EntryOk_raw (D : DFun E) (L : LFun E) (a0 : Int) (a1 : Int) (a2 : Int) (a3 : Int) (a4 : ByteArray) : Option (Bool) :=
 Option.bind (spec_l1In D (a0, 1, 1000)) fun r1 =>
 bif r1 then (Option.bind (spec_l1In D (a1, 0, 1)) fun r2 =>
 bif r2 then (Option.bind (spec_l1In D (a2, 0, 100000)) fun r3 =>
 bif r3 then (Option.bind (spec_l1In D (a3, 0, 1000)) fun r4 =>
 bif r4 then (some (decide ((((ByteArray.size a4) : Nat) : Int) ≤ 8)))
 else (some false))
 else (some false))
 else (some false))
 else (some false)
theorem spec_EntryOk_raw_eq (D : DFun E) (L : LFun E) (a0 : Int) (a1 : Int) (a2 : Int) (a3 : Int) (a4 : ByteArray) : spec_EntryOk (stepD E D L) (a0, a1, a2, a3, a4) = spec_EntryOk_raw D L a0 a1 a2 a3 a4 := by kernel_rfl
theorem spec_EntryOk_of (a0 : Int) (a1 : Int) (a2 : Int) (a3 : Int) (a4 : ByteArray) {o : Bool} (h : spec_EntryOk_raw w wl a0 a1 a2 a3 a4 = some o) : spec_EntryOk w (a0, a1, a2, a3, a4) = some o := ap_close _ _ (spec_EntryOk_raw_eq w wl a0 a1 a2 a3 a4) h
noncomputable def spec_FloorOf_l0 (D : DFun E) (L : LFun E) (y0 : Int) (y1 : Int) (y2 : List XItem) (y3 : List XFloor) : Option (Int ⊕ Unit) :=
 bif (decide (y1 < (((List.length y3) : Nat) : Int))) then (bif inb y1 (List.length y3) then
 let e1 := (rd1 zFloor y3 y1)
 bif (decide (e1.1 = y0)) then (bif inb y1 (List.length y3) then
 let e2 := (rd1 zFloor y3 y1)
 some (Sum.inl e2.2) else none)
 else (spec_FloorOf_k0 L (y0, (IntKind.wrap .i64 (y1 + 1)), y2, y3)) else none)
 else (some (Sum.inr ()))
theorem spec_FloorOf_l0_eq (D : DFun E) (L : LFun E) (y0 : Int) (y1 : Int) (y2 : List XItem) (y3 : List XFloor) : spec_FloorOf_k0 (stepL E D L) (y0, y1, y2, y3) = spec_FloorOf_l0 D L y0 y1 y2 y3 := by kernel_rfl
theorem spec_FloorOf_l0_of (y0 : Int) (y1 : Int) (y2 : List XItem) (y3 : List XFloor) {o : Int ⊕ Unit} (h : spec_FloorOf_l0 w wl y0 y1 y2 y3 = some o) : spec_FloorOf_k0 wl (y0, y1, y2, y3) = some o := apL_close _ _ (spec_FloorOf_l0_eq w wl y0 y1 y2 y3) h
noncomputable def spec_FloorOf_raw (D : DFun E) (L : LFun E) (a0 : List XItem) (a1 : List XFloor) (a2 : Int) : Option (Int) :=
 Option.bind (spec_FloorOf_k0 L (a2, 0, a0, a1)) fun z3 =>
 elimS z3 (fun u4 =>
 some u4)
 (fun z5 =>
 some 0)
theorem spec_FloorOf_raw_eq (D : DFun E) (L : LFun E) (a0 : List XItem) (a1 : List XFloor) (a2 : Int) : spec_FloorOf (stepD E D L) (a0, a1, a2) = spec_FloorOf_raw D L a0 a1 a2 := by kernel_rfl
theorem spec_FloorOf_of (a0 : List XItem) (a1 : List XFloor) (a2 : Int) {o : Int} (h : spec_FloorOf_raw w wl a0 a1 a2 = some o) : spec_FloorOf w (a0, a1, a2) = some o := ap_close _ _ (spec_FloorOf_raw_eq w wl a0 a1 a2) h
noncomputable def laws_toItemS_l0 (D : DFun E) (L : LFun E) (y0 : List XItem) (y1 : Int) (y2 : List XItem) : Option ((List XItem)) :=
 bif (decide (y1 < (((List.length y0) : Nat) : Int))) then (bif inb y1 (List.length y0) then
 let e1 := (rd1 zItem y0 y1)
 Option.bind (laws_toItem D (e1.1, e1.2.1, e1.2.2.1, e1.2.2.2.1, e1.2.2.2.2.1, e1.2.2.2.2.2)) fun r2 =>
 bif inb y1 (List.length y2) then
 let l3 := List.set y2 (Int.toNat y1) (r2.1, r2.2.1, r2.2.2.1, r2.2.2.2.1, r2.2.2.2.2.1, r2.2.2.2.2.2)
 laws_toItemS_k0 L (y0, (IntKind.wrap .i64 (y1 + 1)), l3) else none else none)
 else (some y2)
theorem laws_toItemS_l0_eq (D : DFun E) (L : LFun E) (y0 : List XItem) (y1 : Int) (y2 : List XItem) : laws_toItemS_k0 (stepL E D L) (y0, y1, y2) = laws_toItemS_l0 D L y0 y1 y2 := by kernel_rfl
theorem laws_toItemS_l0_of (y0 : List XItem) (y1 : Int) (y2 : List XItem) {o : (List XItem)} (h : laws_toItemS_l0 w wl y0 y1 y2 = some o) : laws_toItemS_k0 wl (y0, y1, y2) = some o := apL_close _ _ (laws_toItemS_l0_eq w wl y0 y1 y2) h
noncomputable def laws_toItemS_raw (D : DFun E) (L : LFun E) (a0 : List XItem) : Option (List XItem) :=
 bif (decide ((0 : Int) ≤ (((List.length a0) : Nat) : Int) ∧ ((((List.length a0) : Nat) : Int) : Int) = (((List.length a0) : Nat) : Int)) && fits (Int.toNat (((List.length a0) : Nat) : Int)) 56) then
 Option.bind (laws_toItemS_k0 L (a0, 0, (List.replicate (Int.toNat (((List.length a0) : Nat) : Int)) (0, 0, 0, 0, 0, ByteArray.empty)))) fun z4 =>
 some z4 else none
theorem laws_toItemS_raw_eq (D : DFun E) (L : LFun E) (a0 : List XItem) : laws_toItemS (stepD E D L) a0 = laws_toItemS_raw D L a0 := by kernel_rfl
theorem laws_toItemS_of (a0 : List XItem) {o : List XItem} (h : laws_toItemS_raw w wl a0 = some o) : laws_toItemS w a0 = some o := ap_close _ _ (laws_toItemS_raw_eq w wl a0) h
noncomputable def laws_toFloorS_l0 (D : DFun E) (L : LFun E) (y0 : List XFloor) (y1 : Int) (y2 : List XFloor) : Option ((List XFloor)) :=
 bif (decide (y1 < (((List.length y0) : Nat) : Int))) then (bif inb y1 (List.length y0) then
 let e1 := (rd1 zFloor y0 y1)
 Option.bind (laws_toFloor D (e1.1, e1.2)) fun r2 =>
 bif inb y1 (List.length y2) then
 let l3 := List.set y2 (Int.toNat y1) (r2.1, r2.2)
 laws_toFloorS_k0 L (y0, (IntKind.wrap .i64 (y1 + 1)), l3) else none else none)
 else (some y2)
theorem laws_toFloorS_l0_eq (D : DFun E) (L : LFun E) (y0 : List XFloor) (y1 : Int) (y2 : List XFloor) : laws_toFloorS_k0 (stepL E D L) (y0, y1, y2) = laws_toFloorS_l0 D L y0 y1 y2 := by kernel_rfl
theorem laws_toFloorS_l0_of (y0 : List XFloor) (y1 : Int) (y2 : List XFloor) {o : (List XFloor)} (h : laws_toFloorS_l0 w wl y0 y1 y2 = some o) : laws_toFloorS_k0 wl (y0, y1, y2) = some o := apL_close _ _ (laws_toFloorS_l0_eq w wl y0 y1 y2) h
noncomputable def laws_toFloorS_raw (D : DFun E) (L : LFun E) (a0 : List XFloor) : Option (List XFloor) :=
 bif (decide ((0 : Int) ≤ (((List.length a0) : Nat) : Int) ∧ ((((List.length a0) : Nat) : Int) : Int) = (((List.length a0) : Nat) : Int)) && fits (Int.toNat (((List.length a0) : Nat) : Int)) 16) then
 Option.bind (laws_toFloorS_k0 L (a0, 0, (List.replicate (Int.toNat (((List.length a0) : Nat) : Int)) (0, 0)))) fun z4 =>
 some z4 else none
theorem laws_toFloorS_raw_eq (D : DFun E) (L : LFun E) (a0 : List XFloor) : laws_toFloorS (stepD E D L) a0 = laws_toFloorS_raw D L a0 := by kernel_rfl
theorem laws_toFloorS_of (a0 : List XFloor) {o : List XFloor} (h : laws_toFloorS_raw w wl a0 = some o) : laws_toFloorS w a0 = some o := ap_close _ _ (laws_toFloorS_raw_eq w wl a0) h
noncomputable def impl_isNode_raw (D : DFun E) (L : LFun E) (a0 : Int) : Option (Bool) :=
 Option.bind (impl_within D (a0, 0, 4)) fun r1 =>
 some r1
theorem impl_isNode_raw_eq (D : DFun E) (L : LFun E) (a0 : Int) : impl_isNode (stepD E D L) a0 = impl_isNode_raw D L a0 := by kernel_rfl
theorem impl_isNode_of (a0 : Int) {o : Bool} (h : impl_isNode_raw w wl a0 = some o) : impl_isNode w a0 = some o := ap_close _ _ (impl_isNode_raw_eq w wl a0) h
noncomputable def impl_EntryOk_raw (D : DFun E) (L : LFun E) (a0 : Int) (a1 : Int) (a2 : Int) (a3 : Int) (a4 : ByteArray) : Option (Bool) :=
 Option.bind (impl_within D (a0, 1, 1000)) fun r1 =>
 bif r1 then (Option.bind (impl_within D (a1, 0, 1)) fun r2 =>
 bif r2 then (Option.bind (impl_within D (a2, 0, 100000)) fun r3 =>
 bif r3 then (Option.bind (impl_within D (a3, 0, 1000)) fun r4 =>
 bif r4 then (some (decide ((((ByteArray.size a4) : Nat) : Int) ≤ 8)))
 else (some false))
 else (some false))
 else (some false))
 else (some false)
theorem impl_EntryOk_raw_eq (D : DFun E) (L : LFun E) (a0 : Int) (a1 : Int) (a2 : Int) (a3 : Int) (a4 : ByteArray) : impl_EntryOk (stepD E D L) (a0, a1, a2, a3, a4) = impl_EntryOk_raw D L a0 a1 a2 a3 a4 := by kernel_rfl
theorem impl_EntryOk_of (a0 : Int) (a1 : Int) (a2 : Int) (a3 : Int) (a4 : ByteArray) {o : Bool} (h : impl_EntryOk_raw w wl a0 a1 a2 a3 a4 = some o) : impl_EntryOk w (a0, a1, a2, a3, a4) = some o := ap_close _ _ (impl_EntryOk_raw_eq w wl a0 a1 a2 a3 a4) h
noncomputable def impl_FloorOf_l0 (D : DFun E) (L : LFun E) (y0 : Int) (y1 : List XFloor) (y2 : Int) (y3 : Int) : Option (Int ⊕ Unit) :=
 bif (decide (y3 < y2)) then (bif inb y3 (List.length y1) then
 let e1 := (rd1 zFloor y1 y3)
 bif (decide (e1.1 = y0)) then (some (Sum.inl e1.2))
 else (impl_FloorOf_k0 L (y0, y1, y2, (IntKind.wrap .i64 (y3 + 1)))) else none)
 else (some (Sum.inr ()))
theorem impl_FloorOf_l0_eq (D : DFun E) (L : LFun E) (y0 : Int) (y1 : List XFloor) (y2 : Int) (y3 : Int) : impl_FloorOf_k0 (stepL E D L) (y0, y1, y2, y3) = impl_FloorOf_l0 D L y0 y1 y2 y3 := by kernel_rfl
theorem impl_FloorOf_l0_of (y0 : Int) (y1 : List XFloor) (y2 : Int) (y3 : Int) {o : Int ⊕ Unit} (h : impl_FloorOf_l0 w wl y0 y1 y2 y3 = some o) : impl_FloorOf_k0 wl (y0, y1, y2, y3) = some o := apL_close _ _ (impl_FloorOf_l0_eq w wl y0 y1 y2 y3) h
noncomputable def impl_FloorOf_raw (D : DFun E) (L : LFun E) (a0 : List XItem) (a1 : List XFloor) (a2 : Int) : Option (Int) :=
 Option.bind (impl_FloorOf_k0 L (a2, a1, (((List.length a1) : Nat) : Int), 0)) fun z2 =>
 elimS z2 (fun u3 =>
 some u3)
 (fun z4 =>
 some 0)
theorem impl_FloorOf_raw_eq (D : DFun E) (L : LFun E) (a0 : List XItem) (a1 : List XFloor) (a2 : Int) : impl_FloorOf (stepD E D L) (a0, a1, a2) = impl_FloorOf_raw D L a0 a1 a2 := by kernel_rfl
theorem impl_FloorOf_of (a0 : List XItem) (a1 : List XFloor) (a2 : Int) {o : Int} (h : impl_FloorOf_raw w wl a0 a1 a2 = some o) : impl_FloorOf w (a0, a1, a2) = some o := ap_close _ _ (impl_FloorOf_raw_eq w wl a0 a1 a2) h
noncomputable def laws_eqFloorS_l0 (D : DFun E) (L : LFun E) (y0 : List XFloor) (y1 : List XFloor) (y2 : Int) : Option (Bool ⊕ Unit) :=
 bif (decide (y2 < (((List.length y0) : Nat) : Int))) then (bif inb y2 (List.length y0) then
 let e1 := (rd1 zFloor y0 y2)
 bif inb y2 (List.length y1) then
 let e2 := (rd1 zFloor y1 y2)
 Option.bind (laws_eqFloor D (e1.1, e1.2, e2.1, e2.2)) fun r3 =>
 bif (!r3) then (some (Sum.inl false))
 else (laws_eqFloorS_k0 L (y0, y1, (IntKind.wrap .i64 (y2 + 1)))) else none else none)
 else (some (Sum.inr ()))
theorem laws_eqFloorS_l0_eq (D : DFun E) (L : LFun E) (y0 : List XFloor) (y1 : List XFloor) (y2 : Int) : laws_eqFloorS_k0 (stepL E D L) (y0, y1, y2) = laws_eqFloorS_l0 D L y0 y1 y2 := by kernel_rfl
theorem laws_eqFloorS_l0_of (y0 : List XFloor) (y1 : List XFloor) (y2 : Int) {o : Bool ⊕ Unit} (h : laws_eqFloorS_l0 w wl y0 y1 y2 = some o) : laws_eqFloorS_k0 wl (y0, y1, y2) = some o := apL_close _ _ (laws_eqFloorS_l0_eq w wl y0 y1 y2) h
noncomputable def laws_eqFloorS_raw (D : DFun E) (L : LFun E) (a0 : List XFloor) (a1 : List XFloor) : Option (Bool) :=
 bif (!decide ((((List.length a0) : Nat) : Int) = (((List.length a1) : Nat) : Int))) then (some false)
 else (Option.bind (laws_eqFloorS_k0 L (a0, a1, 0)) fun z4 =>
 elimS z4 (fun u5 =>
 some u5)
 (fun z6 =>
 some true))
theorem laws_eqFloorS_raw_eq (D : DFun E) (L : LFun E) (a0 : List XFloor) (a1 : List XFloor) : laws_eqFloorS (stepD E D L) (a0, a1) = laws_eqFloorS_raw D L a0 a1 := by kernel_rfl
theorem laws_eqFloorS_of (a0 : List XFloor) (a1 : List XFloor) {o : Bool} (h : laws_eqFloorS_raw w wl a0 a1 = some o) : laws_eqFloorS w (a0, a1) = some o := ap_close _ _ (laws_eqFloorS_raw_eq w wl a0 a1) h
noncomputable def laws_eqEntry_raw (D : DFun E) (L : LFun E) (a0 : Int) (a1 : Int) (a2 : Int) (a3 : Int) (a4 : ByteArray) (a5 : Int) (a6 : Int) (a7 : Int) (a8 : Int) (a9 : ByteArray) : Option (Bool) :=
 bif (!decide (a0 = a5)) then (some false)
 else (bif (!decide (a1 = a6)) then (some false)
 else (bif (!decide (a2 = a7)) then (some false)
 else (bif (!decide (a3 = a8)) then (some false)
 else (bif (!beqS a4 a9) then (some false)
 else (some true)))))
theorem laws_eqEntry_raw_eq (D : DFun E) (L : LFun E) (a0 : Int) (a1 : Int) (a2 : Int) (a3 : Int) (a4 : ByteArray) (a5 : Int) (a6 : Int) (a7 : Int) (a8 : Int) (a9 : ByteArray) : laws_eqEntry (stepD E D L) (a0, a1, a2, a3, a4, a5, a6, a7, a8, a9) = laws_eqEntry_raw D L a0 a1 a2 a3 a4 a5 a6 a7 a8 a9 := by kernel_rfl
theorem laws_eqEntry_of (a0 : Int) (a1 : Int) (a2 : Int) (a3 : Int) (a4 : ByteArray) (a5 : Int) (a6 : Int) (a7 : Int) (a8 : Int) (a9 : ByteArray) {o : Bool} (h : laws_eqEntry_raw w wl a0 a1 a2 a3 a4 a5 a6 a7 a8 a9 = some o) : laws_eqEntry w (a0, a1, a2, a3, a4, a5, a6, a7, a8, a9) = some o := ap_close _ _ (laws_eqEntry_raw_eq w wl a0 a1 a2 a3 a4 a5 a6 a7 a8 a9) h
noncomputable def laws_szItem_raw (D : DFun E) (L : LFun E) (a0 : Int) (a1 : Int) (a2 : Int) (a3 : Int) (a4 : Int) (a5 : ByteArray) (a6 : Int) : Option (Int) :=
 Option.bind (laws_szEntry D (a1, a2, a3, a4, a5, a6)) fun r1 =>
 bif (decide (r1 < 0)) then (some (-1))
 else (some r1)
theorem laws_szItem_raw_eq (D : DFun E) (L : LFun E) (a0 : Int) (a1 : Int) (a2 : Int) (a3 : Int) (a4 : Int) (a5 : ByteArray) (a6 : Int) : laws_szItem (stepD E D L) (a0, a1, a2, a3, a4, a5, a6) = laws_szItem_raw D L a0 a1 a2 a3 a4 a5 a6 := by kernel_rfl
theorem laws_szItem_of (a0 : Int) (a1 : Int) (a2 : Int) (a3 : Int) (a4 : Int) (a5 : ByteArray) (a6 : Int) {o : Int} (h : laws_szItem_raw w wl a0 a1 a2 a3 a4 a5 a6 = some o) : laws_szItem w (a0, a1, a2, a3, a4, a5, a6) = some o := ap_close _ _ (laws_szItem_raw_eq w wl a0 a1 a2 a3 a4 a5 a6) h
noncomputable def laws_toItem_raw (D : DFun E) (L : LFun E) (a0 : Int) (a1 : Int) (a2 : Int) (a3 : Int) (a4 : Int) (a5 : ByteArray) : Option (XItem) :=
 Option.bind (laws_toEntry D (a1, a2, a3, a4, a5)) fun r1 =>
 some (a0, r1.1, r1.2.1, r1.2.2.1, r1.2.2.2.1, r1.2.2.2.2)
theorem laws_toItem_raw_eq (D : DFun E) (L : LFun E) (a0 : Int) (a1 : Int) (a2 : Int) (a3 : Int) (a4 : Int) (a5 : ByteArray) : laws_toItem (stepD E D L) (a0, a1, a2, a3, a4, a5) = laws_toItem_raw D L a0 a1 a2 a3 a4 a5 := by kernel_rfl
theorem laws_toItem_of (a0 : Int) (a1 : Int) (a2 : Int) (a3 : Int) (a4 : Int) (a5 : ByteArray) {o : XItem} (h : laws_toItem_raw w wl a0 a1 a2 a3 a4 a5 = some o) : laws_toItem w (a0, a1, a2, a3, a4, a5) = some o := ap_close _ _ (laws_toItem_raw_eq w wl a0 a1 a2 a3 a4 a5) h
noncomputable def laws_toFloor_raw (D : DFun E) (L : LFun E) (a0 : Int) (a1 : Int) : Option (XFloor) :=
 some (a0, a1)
theorem laws_toFloor_raw_eq (D : DFun E) (L : LFun E) (a0 : Int) (a1 : Int) : laws_toFloor (stepD E D L) (a0, a1) = laws_toFloor_raw D L a0 a1 := by kernel_rfl
theorem laws_toFloor_of (a0 : Int) (a1 : Int) {o : XFloor} (h : laws_toFloor_raw w wl a0 a1 = some o) : laws_toFloor w (a0, a1) = some o := ap_close _ _ (laws_toFloor_raw_eq w wl a0 a1) h
noncomputable def laws_eqFloor_raw (D : DFun E) (L : LFun E) (a0 : Int) (a1 : Int) (a2 : Int) (a3 : Int) : Option (Bool) :=
 bif (!decide (a0 = a2)) then (some false)
 else (bif (!decide (a1 = a3)) then (some false)
 else (some true))
theorem laws_eqFloor_raw_eq (D : DFun E) (L : LFun E) (a0 : Int) (a1 : Int) (a2 : Int) (a3 : Int) : laws_eqFloor (stepD E D L) (a0, a1, a2, a3) = laws_eqFloor_raw D L a0 a1 a2 a3 := by kernel_rfl
theorem laws_eqFloor_of (a0 : Int) (a1 : Int) (a2 : Int) (a3 : Int) {o : Bool} (h : laws_eqFloor_raw w wl a0 a1 a2 a3 = some o) : laws_eqFloor w (a0, a1, a2, a3) = some o := ap_close _ _ (laws_eqFloor_raw_eq w wl a0 a1 a2 a3) h
noncomputable def laws_szEntry_raw (D : DFun E) (L : LFun E) (a0 : Int) (a1 : Int) (a2 : Int) (a3 : Int) (a4 : ByteArray) (a5 : Int) : Option (Int) :=
 bif (decide ((IntKind.wrap .i64 (a5 - (((ByteArray.size a4) : Nat) : Int))) < 0)) then (some (-1))
 else (some (IntKind.wrap .i64 (a5 - (((ByteArray.size a4) : Nat) : Int))))
theorem laws_szEntry_raw_eq (D : DFun E) (L : LFun E) (a0 : Int) (a1 : Int) (a2 : Int) (a3 : Int) (a4 : ByteArray) (a5 : Int) : laws_szEntry (stepD E D L) (a0, a1, a2, a3, a4, a5) = laws_szEntry_raw D L a0 a1 a2 a3 a4 a5 := by kernel_rfl
theorem laws_szEntry_of (a0 : Int) (a1 : Int) (a2 : Int) (a3 : Int) (a4 : ByteArray) (a5 : Int) {o : Int} (h : laws_szEntry_raw w wl a0 a1 a2 a3 a4 a5 = some o) : laws_szEntry w (a0, a1, a2, a3, a4, a5) = some o := ap_close _ _ (laws_szEntry_raw_eq w wl a0 a1 a2 a3 a4 a5) h
noncomputable def laws_toEntry_raw (D : DFun E) (L : LFun E) (a0 : Int) (a1 : Int) (a2 : Int) (a3 : Int) (a4 : ByteArray) : Option (XEntry) :=
 some (a0, a1, a2, a3, a4)
theorem laws_toEntry_raw_eq (D : DFun E) (L : LFun E) (a0 : Int) (a1 : Int) (a2 : Int) (a3 : Int) (a4 : ByteArray) : laws_toEntry (stepD E D L) (a0, a1, a2, a3, a4) = laws_toEntry_raw D L a0 a1 a2 a3 a4 := by kernel_rfl
theorem laws_toEntry_of (a0 : Int) (a1 : Int) (a2 : Int) (a3 : Int) (a4 : ByteArray) {o : XEntry} (h : laws_toEntry_raw w wl a0 a1 a2 a3 a4 = some o) : laws_toEntry w (a0, a1, a2, a3, a4) = some o := ap_close _ _ (laws_toEntry_raw_eq w wl a0 a1 a2 a3 a4) h
end Go.Proofs.Ytgkobeililjgbaa.M
