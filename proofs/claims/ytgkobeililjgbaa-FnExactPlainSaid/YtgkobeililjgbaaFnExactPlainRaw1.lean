/- Plain forms of the functions that FnExactPlain reaches, part 1. No conditions. -/
import Derived.Test.YtgkobeililjgbaaFnExactPlainTab
namespace Go.Proofs.Ytgkobeililjgbaa.M
open Go Go.Eng Go.Proofs
set_option linter.unusedVariables false
noncomputable def laws_toState_raw (D : DFun E) (L : LFun E) (a0 : List XItem) (a1 : List XFloor) : Option (XState) :=
 Option.bind (laws_toItemS D a0) fun r1 =>
 Option.bind (laws_toFloorS D a1) fun r2 =>
 some (r1, r2)
theorem laws_toState_raw_eq (D : DFun E) (L : LFun E) (a0 : List XItem) (a1 : List XFloor) : laws_toState (stepD E D L) (a0, a1) = laws_toState_raw D L a0 a1 := by kernel_rfl
theorem laws_toState_of (a0 : List XItem) (a1 : List XFloor) {o : XState} (h : laws_toState_raw w wl a0 a1 = some o) : laws_toState w (a0, a1) = some o := ap_close _ _ (laws_toState_raw_eq w wl a0 a1) h
noncomputable def impl_EntryOf_l0 (D : DFun E) (L : LFun E) (y0 : Int) (y1 : List XItem) (y2 : Int) (y3 : Int) : Option (((Bool × Int × Int × Int × Int × ByteArray)) ⊕ Unit) :=
 bif (decide (y3 < y2)) then (bif inb y3 (List.length y1) then
 let e1 := (rd1 zItem y1 y3)
 bif (decide (e1.1 = y0)) then (some (Sum.inl (true, e1.2.1, e1.2.2.1, e1.2.2.2.1, e1.2.2.2.2.1, e1.2.2.2.2.2)))
 else (impl_EntryOf_k0 L (y0, y1, y2, (IntKind.wrap .i64 (y3 + 1)))) else none)
 else (some (Sum.inr ()))
theorem impl_EntryOf_l0_eq (D : DFun E) (L : LFun E) (y0 : Int) (y1 : List XItem) (y2 : Int) (y3 : Int) : impl_EntryOf_k0 (stepL E D L) (y0, y1, y2, y3) = impl_EntryOf_l0 D L y0 y1 y2 y3 := by kernel_rfl
theorem impl_EntryOf_l0_of (y0 : Int) (y1 : List XItem) (y2 : Int) (y3 : Int) {o : ((Bool × Int × Int × Int × Int × ByteArray)) ⊕ Unit} (h : impl_EntryOf_l0 w wl y0 y1 y2 y3 = some o) : impl_EntryOf_k0 wl (y0, y1, y2, y3) = some o := apL_close _ _ (impl_EntryOf_l0_eq w wl y0 y1 y2 y3) h
noncomputable def impl_EntryOf_raw (D : DFun E) (L : LFun E) (a0 : List XItem) (a1 : List XFloor) (a2 : Int) : Option ((Int × Int × Int × Int × ByteArray × Bool)) :=
 Option.bind (impl_EntryOf_k0 L (a2, a0, (((List.length a0) : Nat) : Int), 0)) fun z2 =>
 elimS z2 (fun u3 =>
 some (u3.2.1, u3.2.2.1, u3.2.2.2.1, u3.2.2.2.2.1, u3.2.2.2.2.2, u3.1))
 (fun z4 =>
 some (0, 0, 0, 0, ByteArray.empty, false))
theorem impl_EntryOf_raw_eq (D : DFun E) (L : LFun E) (a0 : List XItem) (a1 : List XFloor) (a2 : Int) : impl_EntryOf (stepD E D L) (a0, a1, a2) = impl_EntryOf_raw D L a0 a1 a2 := by kernel_rfl
theorem impl_EntryOf_of (a0 : List XItem) (a1 : List XFloor) (a2 : Int) {o : (Int × Int × Int × Int × ByteArray × Bool)} (h : impl_EntryOf_raw w wl a0 a1 a2 = some o) : impl_EntryOf w (a0, a1, a2) = some o := ap_close _ _ (impl_EntryOf_raw_eq w wl a0 a1 a2) h
noncomputable def impl_StateOk_l0 (D : DFun E) (L : LFun E) (y0 : List XFloor) (y1 : Int) (y2 : Int) (y3 : List XItem) (y4 : List XFloor) : Option (Bool ⊕ XState) :=
 bif (decide (y2 < y1)) then (bif inb y2 (List.length y0) then
 let e1 := (rd1 zFloor y0 y2)
 Option.bind (impl_isNode D e1.1) fun r2 =>
 bif (!r2) then (some (Sum.inl false))
 else (Option.bind (impl_within D (e1.2, 1, 1000)) fun r3 =>
 bif (!r3) then (some (Sum.inl false))
 else (bif (decide (0 < y2)) then (bif inb (IntKind.wrap .i64 (y2 - 1)) (List.length y4) then
 let e4 := (rd1 zFloor y4 (IntKind.wrap .i64 (y2 - 1)))
 bif (decide (e1.1 ≤ e4.1)) then (some (Sum.inl false))
 else (impl_StateOk_k0 L (y0, y1, (IntKind.wrap .i64 (y2 + 1)), y3, y4)) else none)
 else (impl_StateOk_k0 L (y0, y1, (IntKind.wrap .i64 (y2 + 1)), y3, y4)))) else none)
 else (some (Sum.inr (y3, y4)))
theorem impl_StateOk_l0_eq (D : DFun E) (L : LFun E) (y0 : List XFloor) (y1 : Int) (y2 : Int) (y3 : List XItem) (y4 : List XFloor) : impl_StateOk_k0 (stepL E D L) (y0, y1, y2, y3, y4) = impl_StateOk_l0 D L y0 y1 y2 y3 y4 := by kernel_rfl
theorem impl_StateOk_l0_of (y0 : List XFloor) (y1 : Int) (y2 : Int) (y3 : List XItem) (y4 : List XFloor) {o : Bool ⊕ XState} (h : impl_StateOk_l0 w wl y0 y1 y2 y3 y4 = some o) : impl_StateOk_k0 wl (y0, y1, y2, y3, y4) = some o := apL_close _ _ (impl_StateOk_l0_eq w wl y0 y1 y2 y3 y4) h
noncomputable def impl_StateOk_l2 (D : DFun E) (L : LFun E) (y0 : List XItem) (y1 : Int) (y2 : Int) (y3 : List XItem) (y4 : List XFloor) : Option (Bool ⊕ Unit) :=
 bif (decide (y2 < y1)) then (bif inb y2 (List.length y0) then
 let e8 := (rd1 zItem y0 y2)
 Option.bind (impl_isNode D e8.1) fun r9 =>
 bif (!r9) then (some (Sum.inl false))
 else (Option.bind (impl_EntryOk D (e8.2.1, e8.2.2.1, e8.2.2.2.1, e8.2.2.2.2.1, e8.2.2.2.2.2)) fun r10 =>
 bif (!r10) then (some (Sum.inl false))
 else (Option.bind (impl_FloorOf D (y3, y4, e8.1)) fun r11 =>
 bif (decide (e8.2.1 ≤ r11)) then (some (Sum.inl false))
 else (bif (decide (0 < y2)) then (bif inb (IntKind.wrap .i64 (y2 - 1)) (List.length y3) then
 let e12 := (rd1 zItem y3 (IntKind.wrap .i64 (y2 - 1)))
 bif (decide (e8.1 ≤ e12.1)) then (some (Sum.inl false))
 else (impl_StateOk_k2 L (y0, y1, (IntKind.wrap .i64 (y2 + 1)), y3, y4)) else none)
 else (impl_StateOk_k2 L (y0, y1, (IntKind.wrap .i64 (y2 + 1)), y3, y4))))) else none)
 else (some (Sum.inr ()))
theorem impl_StateOk_l2_eq (D : DFun E) (L : LFun E) (y0 : List XItem) (y1 : Int) (y2 : Int) (y3 : List XItem) (y4 : List XFloor) : impl_StateOk_k2 (stepL E D L) (y0, y1, y2, y3, y4) = impl_StateOk_l2 D L y0 y1 y2 y3 y4 := by kernel_rfl
theorem impl_StateOk_l2_of (y0 : List XItem) (y1 : Int) (y2 : Int) (y3 : List XItem) (y4 : List XFloor) {o : Bool ⊕ Unit} (h : impl_StateOk_l2 w wl y0 y1 y2 y3 y4 = some o) : impl_StateOk_k2 wl (y0, y1, y2, y3, y4) = some o := apL_close _ _ (impl_StateOk_l2_eq w wl y0 y1 y2 y3 y4) h
noncomputable def impl_StateOk_raw (D : DFun E) (L : LFun E) (a0 : List XItem) (a1 : List XFloor) : Option (Bool) :=
 Option.bind (impl_StateOk_k0 L (a1, (((List.length a1) : Nat) : Int), 0, a0, a1)) fun z5 =>
 elimS z5 (fun u6 =>
 some u6)
 (fun z7 =>
 Option.bind (impl_StateOk_k2 L (z7.1, (((List.length z7.1) : Nat) : Int), 0, z7.1, z7.2)) fun z13 =>
 elimS z13 (fun u14 =>
 some u14)
 (fun z15 =>
 some true))
theorem impl_StateOk_raw_eq (D : DFun E) (L : LFun E) (a0 : List XItem) (a1 : List XFloor) : impl_StateOk (stepD E D L) (a0, a1) = impl_StateOk_raw D L a0 a1 := by kernel_rfl
theorem impl_StateOk_of (a0 : List XItem) (a1 : List XFloor) {o : Bool} (h : impl_StateOk_raw w wl a0 a1 = some o) : impl_StateOk w (a0, a1) = some o := ap_close _ _ (impl_StateOk_raw_eq w wl a0 a1) h
noncomputable def laws_eqState_raw (D : DFun E) (L : LFun E) (a0 : List XItem) (a1 : List XFloor) (a2 : List XItem) (a3 : List XFloor) : Option (Bool) :=
 Option.bind (laws_eqItemS D (a0, a2)) fun r1 =>
 bif (!r1) then (some false)
 else (Option.bind (laws_eqFloorS D (a1, a3)) fun r2 =>
 bif (!r2) then (some false)
 else (some true))
theorem laws_eqState_raw_eq (D : DFun E) (L : LFun E) (a0 : List XItem) (a1 : List XFloor) (a2 : List XItem) (a3 : List XFloor) : laws_eqState (stepD E D L) (a0, a1, a2, a3) = laws_eqState_raw D L a0 a1 a2 a3 := by kernel_rfl
theorem laws_eqState_of (a0 : List XItem) (a1 : List XFloor) (a2 : List XItem) (a3 : List XFloor) {o : Bool} (h : laws_eqState_raw w wl a0 a1 a2 a3 = some o) : laws_eqState w (a0, a1, a2, a3) = some o := ap_close _ _ (laws_eqState_raw_eq w wl a0 a1 a2 a3) h
noncomputable def spec_EntryMax_raw (D : DFun E) (L : LFun E) (a0 : Int) (a1 : Int) (a2 : Int) (a3 : Int) (a4 : ByteArray) (a5 : Int) (a6 : Int) (a7 : Int) (a8 : Int) (a9 : ByteArray) : Option (XEntry) :=
 Option.bind (spec_EntryCmp D (a0, a1, a2, a3, a4, a5, a6, a7, a8, a9)) fun r1 =>
 bif (decide (r1 < 0)) then (some (a5, a6, a7, a8, a9))
 else (some (a0, a1, a2, a3, a4))
theorem spec_EntryMax_raw_eq (D : DFun E) (L : LFun E) (a0 : Int) (a1 : Int) (a2 : Int) (a3 : Int) (a4 : ByteArray) (a5 : Int) (a6 : Int) (a7 : Int) (a8 : Int) (a9 : ByteArray) : spec_EntryMax (stepD E D L) (a0, a1, a2, a3, a4, a5, a6, a7, a8, a9) = spec_EntryMax_raw D L a0 a1 a2 a3 a4 a5 a6 a7 a8 a9 := by kernel_rfl
theorem spec_EntryMax_of (a0 : Int) (a1 : Int) (a2 : Int) (a3 : Int) (a4 : ByteArray) (a5 : Int) (a6 : Int) (a7 : Int) (a8 : Int) (a9 : ByteArray) {o : XEntry} (h : spec_EntryMax_raw w wl a0 a1 a2 a3 a4 a5 a6 a7 a8 a9 = some o) : spec_EntryMax w (a0, a1, a2, a3, a4, a5, a6, a7, a8, a9) = some o := ap_close _ _ (spec_EntryMax_raw_eq w wl a0 a1 a2 a3 a4 a5 a6 a7 a8 a9) h
noncomputable def impl_EntryMax_raw (D : DFun E) (L : LFun E) (a0 : Int) (a1 : Int) (a2 : Int) (a3 : Int) (a4 : ByteArray) (a5 : Int) (a6 : Int) (a7 : Int) (a8 : Int) (a9 : ByteArray) : Option (XEntry) :=
 Option.bind (impl_EntryCmp D (a0, a1, a2, a3, a4, a5, a6, a7, a8, a9)) fun r1 =>
 bif (decide (r1 < 0)) then (some (a5, a6, a7, a8, a9))
 else (some (a0, a1, a2, a3, a4))
theorem impl_EntryMax_raw_eq (D : DFun E) (L : LFun E) (a0 : Int) (a1 : Int) (a2 : Int) (a3 : Int) (a4 : ByteArray) (a5 : Int) (a6 : Int) (a7 : Int) (a8 : Int) (a9 : ByteArray) : impl_EntryMax (stepD E D L) (a0, a1, a2, a3, a4, a5, a6, a7, a8, a9) = impl_EntryMax_raw D L a0 a1 a2 a3 a4 a5 a6 a7 a8 a9 := by kernel_rfl
theorem impl_EntryMax_of (a0 : Int) (a1 : Int) (a2 : Int) (a3 : Int) (a4 : ByteArray) (a5 : Int) (a6 : Int) (a7 : Int) (a8 : Int) (a9 : ByteArray) {o : XEntry} (h : impl_EntryMax_raw w wl a0 a1 a2 a3 a4 a5 a6 a7 a8 a9 = some o) : impl_EntryMax w (a0, a1, a2, a3, a4, a5, a6, a7, a8, a9) = some o := ap_close _ _ (impl_EntryMax_raw_eq w wl a0 a1 a2 a3 a4 a5 a6 a7 a8 a9) h
noncomputable def laws_eqItem_raw (D : DFun E) (L : LFun E) (a0 : Int) (a1 : Int) (a2 : Int) (a3 : Int) (a4 : Int) (a5 : ByteArray) (a6 : Int) (a7 : Int) (a8 : Int) (a9 : Int) (a10 : Int) (a11 : ByteArray) : Option (Bool) :=
 bif (!decide (a0 = a6)) then (some false)
 else (Option.bind (laws_eqEntry D (a1, a2, a3, a4, a5, a7, a8, a9, a10, a11)) fun r1 =>
 bif (!r1) then (some false)
 else (some true))
theorem laws_eqItem_raw_eq (D : DFun E) (L : LFun E) (a0 : Int) (a1 : Int) (a2 : Int) (a3 : Int) (a4 : Int) (a5 : ByteArray) (a6 : Int) (a7 : Int) (a8 : Int) (a9 : Int) (a10 : Int) (a11 : ByteArray) : laws_eqItem (stepD E D L) (a0, a1, a2, a3, a4, a5, a6, a7, a8, a9, a10, a11) = laws_eqItem_raw D L a0 a1 a2 a3 a4 a5 a6 a7 a8 a9 a10 a11 := by kernel_rfl
theorem laws_eqItem_of (a0 : Int) (a1 : Int) (a2 : Int) (a3 : Int) (a4 : Int) (a5 : ByteArray) (a6 : Int) (a7 : Int) (a8 : Int) (a9 : Int) (a10 : Int) (a11 : ByteArray) {o : Bool} (h : laws_eqItem_raw w wl a0 a1 a2 a3 a4 a5 a6 a7 a8 a9 a10 a11 = some o) : laws_eqItem w (a0, a1, a2, a3, a4, a5, a6, a7, a8, a9, a10, a11) = some o := ap_close _ _ (laws_eqItem_raw_eq w wl a0 a1 a2 a3 a4 a5 a6 a7 a8 a9 a10 a11) h
noncomputable def laws_markFloorS_l0 (D : DFun E) (L : LFun E) (y0 : Int) (y1 : Int) (y2 : List XFloor) : Option (((Int × (List XFloor)))) :=
 bif (decide (y1 < (((List.length y2) : Nat) : Int))) then (bif inb y1 (List.length y2) then
 let e1 := (rd1 zFloor y2 y1)
 let l2 := List.set y2 (Int.toNat y1) (y0, e1.2)
 bif inb y1 (List.length l2) then
 let e3 := (rd1 zFloor l2 y1)
 let l4 := List.set l2 (Int.toNat y1) (e3.1, (IntKind.wrap .i64 (y0 + 1)))
 laws_markFloorS_k0 L ((IntKind.wrap .i64 ((IntKind.wrap .i64 (y0 + 1)) + 1)), (IntKind.wrap .i64 (y1 + 1)), l4) else none else none)
 else (some (y0, y2))
theorem laws_markFloorS_l0_eq (D : DFun E) (L : LFun E) (y0 : Int) (y1 : Int) (y2 : List XFloor) : laws_markFloorS_k0 (stepL E D L) (y0, y1, y2) = laws_markFloorS_l0 D L y0 y1 y2 := by kernel_rfl
theorem laws_markFloorS_l0_of (y0 : Int) (y1 : Int) (y2 : List XFloor) {o : ((Int × (List XFloor)))} (h : laws_markFloorS_l0 w wl y0 y1 y2 = some o) : laws_markFloorS_k0 wl (y0, y1, y2) = some o := apL_close _ _ (laws_markFloorS_l0_eq w wl y0 y1 y2) h
noncomputable def laws_markFloorS_raw (D : DFun E) (L : LFun E) (a0 : List XFloor) (a1 : Int) : Option ((Int × (List XFloor))) :=
 Option.bind (laws_markFloorS_k0 L (a1, 0, a0)) fun z5 =>
 some (z5.1, z5.2)
theorem laws_markFloorS_raw_eq (D : DFun E) (L : LFun E) (a0 : List XFloor) (a1 : Int) : laws_markFloorS (stepD E D L) (a0, a1) = laws_markFloorS_raw D L a0 a1 := by kernel_rfl
theorem laws_markFloorS_of (a0 : List XFloor) (a1 : Int) {o : (Int × (List XFloor))} (h : laws_markFloorS_raw w wl a0 a1 = some o) : laws_markFloorS w (a0, a1) = some o := ap_close _ _ (laws_markFloorS_raw_eq w wl a0 a1) h
noncomputable def laws_markText_l0 (D : DFun E) (L : LFun E) (y0 : Int) (y1 : ByteArray) : Option (ByteArray) :=
 bif (decide (0 < y0)) then (bif decide ((10 : Int) ≠ 0) then
 bif fits (ByteArray.size (toBytes [(IntKind.wrap .u8 (IntKind.wrap .i64 (48 + (Int.tmod y0 10))))]) + ByteArray.size y1) 1 then
 bif decide ((10 : Int) ≠ 0) then
 laws_markText_k0 L ((IntKind.wrap .i64 (Int.tdiv y0 10)), ((toBytes [(IntKind.wrap .u8 (IntKind.wrap .i64 (48 + (Int.tmod y0 10))))]) ++ y1)) else none else none else none)
 else (some y1)
theorem laws_markText_l0_eq (D : DFun E) (L : LFun E) (y0 : Int) (y1 : ByteArray) : laws_markText_k0 (stepL E D L) (y0, y1) = laws_markText_l0 D L y0 y1 := by kernel_rfl
theorem laws_markText_l0_of (y0 : Int) (y1 : ByteArray) {o : ByteArray} (h : laws_markText_l0 w wl y0 y1 = some o) : laws_markText_k0 wl (y0, y1) = some o := apL_close _ _ (laws_markText_l0_eq w wl y0 y1) h
noncomputable def laws_markText_raw (D : DFun E) (L : LFun E) (a0 : Int) : Option (ByteArray) :=
 bif (decide (a0 ≤ 0)) then (some (⟨#[109, 48]⟩ : ByteArray))
 else (Option.bind (laws_markText_k0 L (a0, (⟨#[]⟩ : ByteArray))) fun z1 =>
 bif fits (ByteArray.size (⟨#[109]⟩ : ByteArray) + ByteArray.size z1) 1 then
 some ((⟨#[109]⟩ : ByteArray) ++ z1) else none)
theorem laws_markText_raw_eq (D : DFun E) (L : LFun E) (a0 : Int) : laws_markText (stepD E D L) a0 = laws_markText_raw D L a0 := by kernel_rfl
theorem laws_markText_of (a0 : Int) {o : ByteArray} (h : laws_markText_raw w wl a0 = some o) : laws_markText w a0 = some o := ap_close _ _ (laws_markText_raw_eq w wl a0) h
noncomputable def laws_szItemS_l0 (D : DFun E) (L : LFun E) (y0 : List XItem) (y1 : Int) (y2 : Int) : Option (Int ⊕ Int) :=
 bif (decide (y2 < (((List.length y0) : Nat) : Int))) then (bif inb y2 (List.length y0) then
 let e1 := (rd1 zItem y0 y2)
 Option.bind (laws_szItem D (e1.1, e1.2.1, e1.2.2.1, e1.2.2.2.1, e1.2.2.2.2.1, e1.2.2.2.2.2, y1)) fun r2 =>
 bif (decide (r2 < 0)) then (some (Sum.inl (-1)))
 else (laws_szItemS_k0 L (y0, r2, (IntKind.wrap .i64 (y2 + 1)))) else none)
 else (some (Sum.inr y1))
theorem laws_szItemS_l0_eq (D : DFun E) (L : LFun E) (y0 : List XItem) (y1 : Int) (y2 : Int) : laws_szItemS_k0 (stepL E D L) (y0, y1, y2) = laws_szItemS_l0 D L y0 y1 y2 := by kernel_rfl
theorem laws_szItemS_l0_of (y0 : List XItem) (y1 : Int) (y2 : Int) {o : Int ⊕ Int} (h : laws_szItemS_l0 w wl y0 y1 y2 = some o) : laws_szItemS_k0 wl (y0, y1, y2) = some o := apL_close _ _ (laws_szItemS_l0_eq w wl y0 y1 y2) h
noncomputable def laws_szItemS_raw (D : DFun E) (L : LFun E) (a0 : List XItem) (a1 : Int) : Option (Int) :=
 bif (decide ((IntKind.wrap .i64 (a1 - (((List.length a0) : Nat) : Int))) < 0)) then (some (-1))
 else (Option.bind (laws_szItemS_k0 L (a0, (IntKind.wrap .i64 (a1 - (((List.length a0) : Nat) : Int))), 0)) fun z3 =>
 elimS z3 (fun u4 =>
 some u4)
 (fun z5 =>
 some z5))
theorem laws_szItemS_raw_eq (D : DFun E) (L : LFun E) (a0 : List XItem) (a1 : Int) : laws_szItemS (stepD E D L) (a0, a1) = laws_szItemS_raw D L a0 a1 := by kernel_rfl
theorem laws_szItemS_of (a0 : List XItem) (a1 : Int) {o : Int} (h : laws_szItemS_raw w wl a0 a1 = some o) : laws_szItemS w (a0, a1) = some o := ap_close _ _ (laws_szItemS_raw_eq w wl a0 a1) h
noncomputable def laws_szFloorS_raw (D : DFun E) (L : LFun E) (a0 : List XFloor) (a1 : Int) : Option (Int) :=
 bif (decide ((IntKind.wrap .i64 (a1 - (((List.length a0) : Nat) : Int))) < 0)) then (some (-1))
 else (some (IntKind.wrap .i64 (a1 - (((List.length a0) : Nat) : Int))))
theorem laws_szFloorS_raw_eq (D : DFun E) (L : LFun E) (a0 : List XFloor) (a1 : Int) : laws_szFloorS (stepD E D L) (a0, a1) = laws_szFloorS_raw D L a0 a1 := by kernel_rfl
theorem laws_szFloorS_of (a0 : List XFloor) (a1 : Int) {o : Int} (h : laws_szFloorS_raw w wl a0 a1 = some o) : laws_szFloorS w (a0, a1) = some o := ap_close _ _ (laws_szFloorS_raw_eq w wl a0 a1) h
noncomputable def spec_l3Node_raw (D : DFun E) (L : LFun E) (a0 : Int) : Option (Bool) :=
 Option.bind (spec_l1In D (a0, 0, 4)) fun r1 =>
 some r1
theorem spec_l3Node_raw_eq (D : DFun E) (L : LFun E) (a0 : Int) : spec_l3Node (stepD E D L) a0 = spec_l3Node_raw D L a0 := by kernel_rfl
theorem spec_l3Node_of (a0 : Int) {o : Bool} (h : spec_l3Node_raw w wl a0 = some o) : spec_l3Node w a0 = some o := ap_close _ _ (spec_l3Node_raw_eq w wl a0) h
noncomputable def spec_EntryOk_raw (D : DFun E) (L : LFun E) (a0 : Int) (a1 : Int) (a2 : Int) (a3 : Int) (a4 : ByteArray) : Option (Bool) :=
 Option.bind (spec_l1In D (a0, 1, 1000)) fun r1 =>
 bif r1 then (Option.bind (spec_l1In D (a1, 0, 1)) fun r2 =>
 bif r2 then (Option.bind (spec_l1In D (a2, 0, 100000)) fun r3 =>
 bif r3 then (Option.bind (spec_l1In D (a3, 0, 1000)) fun r4 =>
 bif r4 then (some (decide ((((ByteArray.size a4) : Nat) : Int) ≤ 8)))
 else (some false))
 else (some false))
 else (some false))
 else (some false)
theorem spec_EntryOk_raw_eq (D : DFun E) (L : LFun E) (a0 : Int) (a1 : Int) (a2 : Int) (a3 : Int) (a4 : ByteArray) : spec_EntryOk (stepD E D L) (a0, a1, a2, a3, a4) = spec_EntryOk_raw D L a0 a1 a2 a3 a4 := by kernel_rfl
theorem spec_EntryOk_of (a0 : Int) (a1 : Int) (a2 : Int) (a3 : Int) (a4 : ByteArray) {o : Bool} (h : spec_EntryOk_raw w wl a0 a1 a2 a3 a4 = some o) : spec_EntryOk w (a0, a1, a2, a3, a4) = some o := ap_close _ _ (spec_EntryOk_raw_eq w wl a0 a1 a2 a3 a4) h
noncomputable def spec_FloorOf_l0 (D : DFun E) (L : LFun E) (y0 : Int) (y1 : Int) (y2 : List XItem) (y3 : List XFloor) : Option (Int ⊕ Unit) :=
 bif (decide (y1 < (((List.length y3) : Nat) : Int))) then (bif inb y1 (List.length y3) then
 let e1 := (rd1 zFloor y3 y1)
 bif (decide (e1.1 = y0)) then (bif inb y1 (List.length y3) then
 let e2 := (rd1 zFloor y3 y1)
 some (Sum.inl e2.2) else none)
 else (spec_FloorOf_k0 L (y0, (IntKind.wrap .i64 (y1 + 1)), y2, y3)) else none)
 else (some (Sum.inr ()))
theorem spec_FloorOf_l0_eq (D : DFun E) (L : LFun E) (y0 : Int) (y1 : Int) (y2 : List XItem) (y3 : List XFloor) : spec_FloorOf_k0 (stepL E D L) (y0, y1, y2, y3) = spec_FloorOf_l0 D L y0 y1 y2 y3 := by kernel_rfl
theorem spec_FloorOf_l0_of (y0 : Int) (y1 : Int) (y2 : List XItem) (y3 : List XFloor) {o : Int ⊕ Unit} (h : spec_FloorOf_l0 w wl y0 y1 y2 y3 = some o) : spec_FloorOf_k0 wl (y0, y1, y2, y3) = some o := apL_close _ _ (spec_FloorOf_l0_eq w wl y0 y1 y2 y3) h
noncomputable def spec_FloorOf_raw (D : DFun E) (L : LFun E) (a0 : List XItem) (a1 : List XFloor) (a2 : Int) : Option (Int) :=
 Option.bind (spec_FloorOf_k0 L (a2, 0, a0, a1)) fun z3 =>
 elimS z3 (fun u4 =>
 some u4)
 (fun z5 =>
 some 0)
theorem spec_FloorOf_raw_eq (D : DFun E) (L : LFun E) (a0 : List XItem) (a1 : List XFloor) (a2 : Int) : spec_FloorOf (stepD E D L) (a0, a1, a2) = spec_FloorOf_raw D L a0 a1 a2 := by kernel_rfl
theorem spec_FloorOf_of (a0 : List XItem) (a1 : List XFloor) (a2 : Int) {o : Int} (h : spec_FloorOf_raw w wl a0 a1 a2 = some o) : spec_FloorOf w (a0, a1, a2) = some o := ap_close _ _ (spec_FloorOf_raw_eq w wl a0 a1 a2) h
noncomputable def laws_toItemS_l0 (D : DFun E) (L : LFun E) (y0 : List XItem) (y1 : Int) (y2 : List XItem) : Option ((List XItem)) :=
 bif (decide (y1 < (((List.length y0) : Nat) : Int))) then (bif inb y1 (List.length y0) then
 let e1 := (rd1 zItem y0 y1)
 Option.bind (laws_toItem D (e1.1, e1.2.1, e1.2.2.1, e1.2.2.2.1, e1.2.2.2.2.1, e1.2.2.2.2.2)) fun r2 =>
 bif inb y1 (List.length y2) then
 let l3 := List.set y2 (Int.toNat y1) (r2.1, r2.2.1, r2.2.2.1, r2.2.2.2.1, r2.2.2.2.2.1, r2.2.2.2.2.2)
 laws_toItemS_k0 L (y0, (IntKind.wrap .i64 (y1 + 1)), l3) else none else none)
 else (some y2)
theorem laws_toItemS_l0_eq (D : DFun E) (L : LFun E) (y0 : List XItem) (y1 : Int) (y2 : List XItem) : laws_toItemS_k0 (stepL E D L) (y0, y1, y2) = laws_toItemS_l0 D L y0 y1 y2 := by kernel_rfl
theorem laws_toItemS_l0_of (y0 : List XItem) (y1 : Int) (y2 : List XItem) {o : (List XItem)} (h : laws_toItemS_l0 w wl y0 y1 y2 = some o) : laws_toItemS_k0 wl (y0, y1, y2) = some o := apL_close _ _ (laws_toItemS_l0_eq w wl y0 y1 y2) h
noncomputable def laws_toItemS_raw (D : DFun E) (L : LFun E) (a0 : List XItem) : Option (List XItem) :=
 bif (decide ((0 : Int) ≤ (((List.length a0) : Nat) : Int) ∧ ((((List.length a0) : Nat) : Int) : Int) = (((List.length a0) : Nat) : Int)) && fits (Int.toNat (((List.length a0) : Nat) : Int)) 56) then
 Option.bind (laws_toItemS_k0 L (a0, 0, (List.replicate (Int.toNat (((List.length a0) : Nat) : Int)) (0, 0, 0, 0, 0, ByteArray.empty)))) fun z4 =>
 some z4 else none
theorem laws_toItemS_raw_eq (D : DFun E) (L : LFun E) (a0 : List XItem) : laws_toItemS (stepD E D L) a0 = laws_toItemS_raw D L a0 := by kernel_rfl
theorem laws_toItemS_of (a0 : List XItem) {o : List XItem} (h : laws_toItemS_raw w wl a0 = some o) : laws_toItemS w a0 = some o := ap_close _ _ (laws_toItemS_raw_eq w wl a0) h
noncomputable def laws_toFloorS_l0 (D : DFun E) (L : LFun E) (y0 : List XFloor) (y1 : Int) (y2 : List XFloor) : Option ((List XFloor)) :=
 bif (decide (y1 < (((List.length y0) : Nat) : Int))) then (bif inb y1 (List.length y0) then
 let e1 := (rd1 zFloor y0 y1)
 Option.bind (laws_toFloor D (e1.1, e1.2)) fun r2 =>
 bif inb y1 (List.length y2) then
 let l3 := List.set y2 (Int.toNat y1) (r2.1, r2.2)
 laws_toFloorS_k0 L (y0, (IntKind.wrap .i64 (y1 + 1)), l3) else none else none)
 else (some y2)
theorem laws_toFloorS_l0_eq (D : DFun E) (L : LFun E) (y0 : List XFloor) (y1 : Int) (y2 : List XFloor) : laws_toFloorS_k0 (stepL E D L) (y0, y1, y2) = laws_toFloorS_l0 D L y0 y1 y2 := by kernel_rfl
theorem laws_toFloorS_l0_of (y0 : List XFloor) (y1 : Int) (y2 : List XFloor) {o : (List XFloor)} (h : laws_toFloorS_l0 w wl y0 y1 y2 = some o) : laws_toFloorS_k0 wl (y0, y1, y2) = some o := apL_close _ _ (laws_toFloorS_l0_eq w wl y0 y1 y2) h
noncomputable def laws_toFloorS_raw (D : DFun E) (L : LFun E) (a0 : List XFloor) : Option (List XFloor) :=
 bif (decide ((0 : Int) ≤ (((List.length a0) : Nat) : Int) ∧ ((((List.length a0) : Nat) : Int) : Int) = (((List.length a0) : Nat) : Int)) && fits (Int.toNat (((List.length a0) : Nat) : Int)) 16) then
 Option.bind (laws_toFloorS_k0 L (a0, 0, (List.replicate (Int.toNat (((List.length a0) : Nat) : Int)) (0, 0)))) fun z4 =>
 some z4 else none
theorem laws_toFloorS_raw_eq (D : DFun E) (L : LFun E) (a0 : List XFloor) : laws_toFloorS (stepD E D L) a0 = laws_toFloorS_raw D L a0 := by kernel_rfl
theorem laws_toFloorS_of (a0 : List XFloor) {o : List XFloor} (h : laws_toFloorS_raw w wl a0 = some o) : laws_toFloorS w a0 = some o := ap_close _ _ (laws_toFloorS_raw_eq w wl a0) h
noncomputable def impl_isNode_raw (D : DFun E) (L : LFun E) (a0 : Int) : Option (Bool) :=
 Option.bind (impl_within D (a0, 0, 4)) fun r1 =>
 some r1
theorem impl_isNode_raw_eq (D : DFun E) (L : LFun E) (a0 : Int) : impl_isNode (stepD E D L) a0 = impl_isNode_raw D L a0 := by kernel_rfl
theorem impl_isNode_of (a0 : Int) {o : Bool} (h : impl_isNode_raw w wl a0 = some o) : impl_isNode w a0 = some o := ap_close _ _ (impl_isNode_raw_eq w wl a0) h
noncomputable def impl_EntryOk_raw (D : DFun E) (L : LFun E) (a0 : Int) (a1 : Int) (a2 : Int) (a3 : Int) (a4 : ByteArray) : Option (Bool) :=
 Option.bind (impl_within D (a0, 1, 1000)) fun r1 =>
 bif r1 then (Option.bind (impl_within D (a1, 0, 1)) fun r2 =>
 bif r2 then (Option.bind (impl_within D (a2, 0, 100000)) fun r3 =>
 bif r3 then (Option.bind (impl_within D (a3, 0, 1000)) fun r4 =>
 bif r4 then (some (decide ((((ByteArray.size a4) : Nat) : Int) ≤ 8)))
 else (some false))
 else (some false))
 else (some false))
 else (some false)
theorem impl_EntryOk_raw_eq (D : DFun E) (L : LFun E) (a0 : Int) (a1 : Int) (a2 : Int) (a3 : Int) (a4 : ByteArray) : impl_EntryOk (stepD E D L) (a0, a1, a2, a3, a4) = impl_EntryOk_raw D L a0 a1 a2 a3 a4 := by kernel_rfl
theorem impl_EntryOk_of (a0 : Int) (a1 : Int) (a2 : Int) (a3 : Int) (a4 : ByteArray) {o : Bool} (h : impl_EntryOk_raw w wl a0 a1 a2 a3 a4 = some o) : impl_EntryOk w (a0, a1, a2, a3, a4) = some o := ap_close _ _ (impl_EntryOk_raw_eq w wl a0 a1 a2 a3 a4) h
noncomputable def impl_FloorOf_l0 (D : DFun E) (L : LFun E) (y0 : Int) (y1 : List XFloor) (y2 : Int) (y3 : Int) : Option (Int ⊕ Unit) :=
 bif (decide (y3 < y2)) then (bif inb y3 (List.length y1) then
 let e1 := (rd1 zFloor y1 y3)
 bif (decide (e1.1 = y0)) then (some (Sum.inl e1.2))
 else (impl_FloorOf_k0 L (y0, y1, y2, (IntKind.wrap .i64 (y3 + 1)))) else none)
 else (some (Sum.inr ()))
theorem impl_FloorOf_l0_eq (D : DFun E) (L : LFun E) (y0 : Int) (y1 : List XFloor) (y2 : Int) (y3 : Int) : impl_FloorOf_k0 (stepL E D L) (y0, y1, y2, y3) = impl_FloorOf_l0 D L y0 y1 y2 y3 := by kernel_rfl
theorem impl_FloorOf_l0_of (y0 : Int) (y1 : List XFloor) (y2 : Int) (y3 : Int) {o : Int ⊕ Unit} (h : impl_FloorOf_l0 w wl y0 y1 y2 y3 = some o) : impl_FloorOf_k0 wl (y0, y1, y2, y3) = some o := apL_close _ _ (impl_FloorOf_l0_eq w wl y0 y1 y2 y3) h
noncomputable def impl_FloorOf_raw (D : DFun E) (L : LFun E) (a0 : List XItem) (a1 : List XFloor) (a2 : Int) : Option (Int) :=
 Option.bind (impl_FloorOf_k0 L (a2, a1, (((List.length a1) : Nat) : Int), 0)) fun z2 =>
 elimS z2 (fun u3 =>
 some u3)
 (fun z4 =>
 some 0)
theorem impl_FloorOf_raw_eq (D : DFun E) (L : LFun E) (a0 : List XItem) (a1 : List XFloor) (a2 : Int) : impl_FloorOf (stepD E D L) (a0, a1, a2) = impl_FloorOf_raw D L a0 a1 a2 := by kernel_rfl
theorem impl_FloorOf_of (a0 : List XItem) (a1 : List XFloor) (a2 : Int) {o : Int} (h : impl_FloorOf_raw w wl a0 a1 a2 = some o) : impl_FloorOf w (a0, a1, a2) = some o := ap_close _ _ (impl_FloorOf_raw_eq w wl a0 a1 a2) h
noncomputable def laws_eqFloorS_l0 (D : DFun E) (L : LFun E) (y0 : List XFloor) (y1 : List XFloor) (y2 : Int) : Option (Bool ⊕ Unit) :=
 bif (decide (y2 < (((List.length y0) : Nat) : Int))) then (bif inb y2 (List.length y0) then
 let e1 := (rd1 zFloor y0 y2)
 bif inb y2 (List.length y1) then
 let e2 := (rd1 zFloor y1 y2)
 Option.bind (laws_eqFloor D (e1.1, e1.2, e2.1, e2.2)) fun r3 =>
 bif (!r3) then (some (Sum.inl false))
 else (laws_eqFloorS_k0 L (y0, y1, (IntKind.wrap .i64 (y2 + 1)))) else none else none)
 else (some (Sum.inr ()))
theorem laws_eqFloorS_l0_eq (D : DFun E) (L : LFun E) (y0 : List XFloor) (y1 : List XFloor) (y2 : Int) : laws_eqFloorS_k0 (stepL E D L) (y0, y1, y2) = laws_eqFloorS_l0 D L y0 y1 y2 := by kernel_rfl
theorem laws_eqFloorS_l0_of (y0 : List XFloor) (y1 : List XFloor) (y2 : Int) {o : Bool ⊕ Unit} (h : laws_eqFloorS_l0 w wl y0 y1 y2 = some o) : laws_eqFloorS_k0 wl (y0, y1, y2) = some o := apL_close _ _ (laws_eqFloorS_l0_eq w wl y0 y1 y2) h
noncomputable def laws_eqFloorS_raw (D : DFun E) (L : LFun E) (a0 : List XFloor) (a1 : List XFloor) : Option (Bool) :=
 bif (!decide ((((List.length a0) : Nat) : Int) = (((List.length a1) : Nat) : Int))) then (some false)
 else (Option.bind (laws_eqFloorS_k0 L (a0, a1, 0)) fun z4 =>
 elimS z4 (fun u5 =>
 some u5)
 (fun z6 =>
 some true))
theorem laws_eqFloorS_raw_eq (D : DFun E) (L : LFun E) (a0 : List XFloor) (a1 : List XFloor) : laws_eqFloorS (stepD E D L) (a0, a1) = laws_eqFloorS_raw D L a0 a1 := by kernel_rfl
theorem laws_eqFloorS_of (a0 : List XFloor) (a1 : List XFloor) {o : Bool} (h : laws_eqFloorS_raw w wl a0 a1 = some o) : laws_eqFloorS w (a0, a1) = some o := ap_close _ _ (laws_eqFloorS_raw_eq w wl a0 a1) h
noncomputable def spec_EntryCmp_l0 (D : DFun E) (L : LFun E) (y0 : Int) (y1 : Int) (y2 : Int) (y3 : Int) (y4 : Int) (y5 : ByteArray) (y6 : Int) (y7 : Int) (y8 : Int) (y9 : Int) (y10 : ByteArray) (y11 : List Int) : Option (Int ⊕ ((Int × Int × Int × Int × ByteArray × Int × Int × Int × Int × ByteArray))) :=
 bif (decide (y0 < (((List.length y11) : Nat) : Int))) then (bif inb y0 (List.length y11) then
 bif (!decide ((rd1 (0 : Int) y11 y0) = 0)) then (bif inb y0 (List.length y11) then
 some (Sum.inl (rd1 (0 : Int) y11 y0)) else none)
 else (spec_EntryCmp_k0 L ((IntKind.wrap .i64 (y0 + 1)), y1, y2, y3, y4, y5, y6, y7, y8, y9, y10, y11)) else none)
 else (some (Sum.inr (y1, y2, y3, y4, y5, y6, y7, y8, y9, y10)))
theorem spec_EntryCmp_l0_eq (D : DFun E) (L : LFun E) (y0 : Int) (y1 : Int) (y2 : Int) (y3 : Int) (y4 : Int) (y5 : ByteArray) (y6 : Int) (y7 : Int) (y8 : Int) (y9 : Int) (y10 : ByteArray) (y11 : List Int) : spec_EntryCmp_k0 (stepL E D L) (y0, y1, y2, y3, y4, y5, y6, y7, y8, y9, y10, y11) = spec_EntryCmp_l0 D L y0 y1 y2 y3 y4 y5 y6 y7 y8 y9 y10 y11 := by kernel_rfl
theorem spec_EntryCmp_l0_of (y0 : Int) (y1 : Int) (y2 : Int) (y3 : Int) (y4 : Int) (y5 : ByteArray) (y6 : Int) (y7 : Int) (y8 : Int) (y9 : Int) (y10 : ByteArray) (y11 : List Int) {o : Int ⊕ ((Int × Int × Int × Int × ByteArray × Int × Int × Int × Int × ByteArray))} (h : spec_EntryCmp_l0 w wl y0 y1 y2 y3 y4 y5 y6 y7 y8 y9 y10 y11 = some o) : spec_EntryCmp_k0 wl (y0, y1, y2, y3, y4, y5, y6, y7, y8, y9, y10, y11) = some o := apL_close _ _ (spec_EntryCmp_l0_eq w wl y0 y1 y2 y3 y4 y5 y6 y7 y8 y9 y10 y11) h
noncomputable def spec_EntryCmp_raw (D : DFun E) (L : LFun E) (a0 : Int) (a1 : Int) (a2 : Int) (a3 : Int) (a4 : ByteArray) (a5 : Int) (a6 : Int) (a7 : Int) (a8 : Int) (a9 : ByteArray) : Option (Int) :=
 Option.bind (spec_l2Cmp D (a0, a5)) fun r1 =>
 Option.bind (spec_l2Cmp D (a1, a6)) fun r2 =>
 Option.bind (spec_l2Cmp D (a2, a7)) fun r3 =>
 Option.bind (spec_l2Cmp D (a3, a8)) fun r4 =>
 Option.bind (spec_EntryCmp_k0 L (0, a0, a1, a2, a3, a4, a5, a6, a7, a8, a9, [r1, r2, r3, r4])) fun z5 =>
 elimS z5 (fun u6 =>
 some u6)
 (fun z7 =>
 bif (Op.bytesLess (ByteArray.toList z7.2.2.2.2.1) (ByteArray.toList z7.2.2.2.2.2.2.2.2.2)) then (some (-1))
 else (Option.bind (spec_l1Bit D (!(Op.bytesLess (ByteArray.toList z7.2.2.2.2.1) (ByteArray.toList z7.2.2.2.2.2.2.2.2.2) || beqS z7.2.2.2.2.1 z7.2.2.2.2.2.2.2.2.2))) fun r8 =>
 some r8))
theorem spec_EntryCmp_raw_eq (D : DFun E) (L : LFun E) (a0 : Int) (a1 : Int) (a2 : Int) (a3 : Int) (a4 : ByteArray) (a5 : Int) (a6 : Int) (a7 : Int) (a8 : Int) (a9 : ByteArray) : spec_EntryCmp (stepD E D L) (a0, a1, a2, a3, a4, a5, a6, a7, a8, a9) = spec_EntryCmp_raw D L a0 a1 a2 a3 a4 a5 a6 a7 a8 a9 := by kernel_rfl
theorem spec_EntryCmp_of (a0 : Int) (a1 : Int) (a2 : Int) (a3 : Int) (a4 : ByteArray) (a5 : Int) (a6 : Int) (a7 : Int) (a8 : Int) (a9 : ByteArray) {o : Int} (h : spec_EntryCmp_raw w wl a0 a1 a2 a3 a4 a5 a6 a7 a8 a9 = some o) : spec_EntryCmp w (a0, a1, a2, a3, a4, a5, a6, a7, a8, a9) = some o := ap_close _ _ (spec_EntryCmp_raw_eq w wl a0 a1 a2 a3 a4 a5 a6 a7 a8 a9) h
end Go.Proofs.Ytgkobeililjgbaa.M
