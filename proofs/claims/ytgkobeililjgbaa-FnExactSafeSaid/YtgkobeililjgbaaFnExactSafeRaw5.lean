/- Plain forms of the functions that FnExactSafe reaches, part 5. No conditions. -/
import Derived.Test.YtgkobeililjgbaaFnExactSafeTab
namespace Go.Proofs.Ytgkobeililjgbaa.M
open Go Go.Eng Go.Proofs
set_option linter.unusedVariables false
noncomputable def spec_l1Same_l0 (D : DFun E) (L : LFun E) (y0 : List Int) (y1 : List Int) (y2 : Int) : Option (Bool ⊕ Unit) :=
 bif (decide (y2 < (((List.length y0) : Nat) : Int))) then (bif inb y2 (List.length y0) then
 bif inb y2 (List.length y1) then
 bif (!decide ((rd1 (0 : Int) y0 y2) = (rd1 (0 : Int) y1 y2))) then (some (Sum.inl false))
 else (spec_l1Same_k0 L (y0, y1, (IntKind.wrap .i64 (y2 + 1)))) else none else none)
 else (some (Sum.inr ()))
theorem spec_l1Same_l0_eq (D : DFun E) (L : LFun E) (y0 : List Int) (y1 : List Int) (y2 : Int) : spec_l1Same_k0 (stepL E D L) (y0, y1, y2) = spec_l1Same_l0 D L y0 y1 y2 := by kernel_rfl
theorem spec_l1Same_l0_of (y0 : List Int) (y1 : List Int) (y2 : Int) {o : Bool ⊕ Unit} (h : spec_l1Same_l0 w wl y0 y1 y2 = some o) : spec_l1Same_k0 wl (y0, y1, y2) = some o := apL_close _ _ (spec_l1Same_l0_eq w wl y0 y1 y2) h
noncomputable def spec_l1Same_raw (D : DFun E) (L : LFun E) (a0 : List Int) (a1 : List Int) : Option (Bool) :=
 bif (!decide ((((List.length a0) : Nat) : Int) = (((List.length a1) : Nat) : Int))) then (some false)
 else (Option.bind (spec_l1Same_k0 L (a0, a1, 0)) fun z1 =>
 elimS z1 (fun u2 =>
 some u2)
 (fun z3 =>
 some true))
theorem spec_l1Same_raw_eq (D : DFun E) (L : LFun E) (a0 : List Int) (a1 : List Int) : spec_l1Same (stepD E D L) (a0, a1) = spec_l1Same_raw D L a0 a1 := by kernel_rfl
theorem spec_l1Same_of (a0 : List Int) (a1 : List Int) {o : Bool} (h : spec_l1Same_raw w wl a0 a1 = some o) : spec_l1Same w (a0, a1) = some o := ap_close _ _ (spec_l1Same_raw_eq w wl a0 a1) h
noncomputable def spec_LeafSum_raw (D : DFun E) (L : LFun E) (a0 : List XItem) (a1 : List XFloor) (a2 : Int) : Option (Int) :=
 Option.bind (spec_StateOk D (a0, a1)) fun r1 =>
 bif (!r1) then (some 0)
 else (Option.bind (spec_l1In D (a2, 0, 3)) fun r2 =>
 bif (!r2) then (some 0)
 else (Option.bind (spec_l6Slice D (a0, a1, [a2])) fun r3 =>
 Option.bind (spec_l6Bytes D (r3.1, r3.2)) fun r4 =>
 Option.bind (spec_Crc D r4) fun r5 =>
 bif decide ((1024 : Int) ≠ 0) then
 some (Int.tmod r5 1024) else none))
theorem spec_LeafSum_raw_eq (D : DFun E) (L : LFun E) (a0 : List XItem) (a1 : List XFloor) (a2 : Int) : spec_LeafSum (stepD E D L) (a0, a1, a2) = spec_LeafSum_raw D L a0 a1 a2 := by kernel_rfl
theorem spec_LeafSum_of (a0 : List XItem) (a1 : List XFloor) (a2 : Int) {o : Int} (h : spec_LeafSum_raw w wl a0 a1 a2 = some o) : spec_LeafSum w (a0, a1, a2) = some o := ap_close _ _ (spec_LeafSum_raw_eq w wl a0 a1 a2) h
noncomputable def spec_l6Root_l0 (D : DFun E) (L : LFun E) (y0 : List Int) (y1 : Int) (y2 : List Int) : Option ((List Int)) :=
 bif (decide (y1 < (((List.length y0) : Nat) : Int))) then (bif inb y1 (List.length y0) then
 Option.bind (spec_PutNum D (rd1 (0 : Int) y0 y1)) fun r1 =>
 bif fits (List.length y2 + List.length r1) 1 then
 spec_l6Root_k0 L (y0, (IntKind.wrap .i64 (y1 + 1)), (y2 ++ r1)) else none else none)
 else (some y2)
theorem spec_l6Root_l0_eq (D : DFun E) (L : LFun E) (y0 : List Int) (y1 : Int) (y2 : List Int) : spec_l6Root_k0 (stepL E D L) (y0, y1, y2) = spec_l6Root_l0 D L y0 y1 y2 := by kernel_rfl
theorem spec_l6Root_l0_of (y0 : List Int) (y1 : Int) (y2 : List Int) {o : (List Int)} (h : spec_l6Root_l0 w wl y0 y1 y2 = some o) : spec_l6Root_k0 wl (y0, y1, y2) = some o := apL_close _ _ (spec_l6Root_l0_eq w wl y0 y1 y2) h
noncomputable def spec_l6Root_raw (D : DFun E) (L : LFun E) (a0 : List Int) : Option (Int) :=
 Option.bind (spec_l6Root_k0 L (a0, 0, [])) fun z2 =>
 Option.bind (spec_Crc D z2) fun r3 =>
 bif decide ((1024 : Int) ≠ 0) then
 some (Int.tmod r3 1024) else none
theorem spec_l6Root_raw_eq (D : DFun E) (L : LFun E) (a0 : List Int) : spec_l6Root (stepD E D L) a0 = spec_l6Root_raw D L a0 := by kernel_rfl
theorem spec_l6Root_of (a0 : List Int) {o : Int} (h : spec_l6Root_raw w wl a0 = some o) : spec_l6Root w a0 = some o := ap_close _ _ (spec_l6Root_raw_eq w wl a0) h
noncomputable def spec_PutText_raw (D : DFun E) (L : LFun E) (a0 : ByteArray) : Option (List Int) :=
 Option.bind (spec_PutNum D (((ByteArray.size a0) : Nat) : Int)) fun r1 =>
 bif fits (List.length r1 + List.length (ofBytes a0)) 1 then
 some (r1 ++ (ofBytes a0)) else none
theorem spec_PutText_raw_eq (D : DFun E) (L : LFun E) (a0 : ByteArray) : spec_PutText (stepD E D L) a0 = spec_PutText_raw D L a0 := by kernel_rfl
theorem spec_PutText_of (a0 : ByteArray) {o : List Int} (h : spec_PutText_raw w wl a0 = some o) : spec_PutText w a0 = some o := ap_close _ _ (spec_PutText_raw_eq w wl a0) h
noncomputable def slices_Equalint_int_l0 (D : DFun E) (L : LFun E) (y0 : List Int) (y1 : List Int) (y2 : Int) (y3 : Int) : Option (Bool ⊕ Unit) :=
 bif (decide (y3 < y2)) then (bif inb y3 (List.length y0) then
 bif inb y3 (List.length y1) then
 bif (!decide ((rd1 (0 : Int) y0 y3) = (rd1 (0 : Int) y1 y3))) then (some (Sum.inl false))
 else (slices_Equalint_int_k0 L (y0, y1, y2, (IntKind.wrap .i64 (y3 + 1)))) else none else none)
 else (some (Sum.inr ()))
theorem slices_Equalint_int_l0_eq (D : DFun E) (L : LFun E) (y0 : List Int) (y1 : List Int) (y2 : Int) (y3 : Int) : slices_Equalint_int_k0 (stepL E D L) (y0, y1, y2, y3) = slices_Equalint_int_l0 D L y0 y1 y2 y3 := by kernel_rfl
theorem slices_Equalint_int_l0_of (y0 : List Int) (y1 : List Int) (y2 : Int) (y3 : Int) {o : Bool ⊕ Unit} (h : slices_Equalint_int_l0 w wl y0 y1 y2 y3 = some o) : slices_Equalint_int_k0 wl (y0, y1, y2, y3) = some o := apL_close _ _ (slices_Equalint_int_l0_eq w wl y0 y1 y2 y3) h
noncomputable def slices_Equalint_int_raw (D : DFun E) (L : LFun E) (a0 : List Int) (a1 : List Int) : Option (Bool) :=
 bif (!decide ((((List.length a0) : Nat) : Int) = (((List.length a1) : Nat) : Int))) then (some false)
 else (Option.bind (slices_Equalint_int_k0 L (a0, a1, (((List.length a0) : Nat) : Int), 0)) fun z1 =>
 elimS z1 (fun u2 =>
 some u2)
 (fun z3 =>
 some true))
theorem slices_Equalint_int_raw_eq (D : DFun E) (L : LFun E) (a0 : List Int) (a1 : List Int) : slices_Equalint_int (stepD E D L) (a0, a1) = slices_Equalint_int_raw D L a0 a1 := by kernel_rfl
theorem slices_Equalint_int_of (a0 : List Int) (a1 : List Int) {o : Bool} (h : slices_Equalint_int_raw w wl a0 a1 = some o) : slices_Equalint_int w (a0, a1) = some o := ap_close _ _ (slices_Equalint_int_raw_eq w wl a0 a1) h
noncomputable def impl_LeafSum_raw (D : DFun E) (L : LFun E) (a0 : List XItem) (a1 : List XFloor) (a2 : Int) : Option (Int) :=
 Option.bind (impl_StateOk D (a0, a1)) fun r1 =>
 bif (!r1) then (some 0)
 else (Option.bind (impl_within D (a2, 0, 3)) fun r2 =>
 bif (!r2) then (some 0)
 else (Option.bind (impl_Slice D (a0, a1, [a2])) fun r3 =>
 Option.bind (impl_StateBytes D (r3.1, r3.2)) fun r4 =>
 Option.bind (impl_Crc D r4) fun r5 =>
 bif decide ((1024 : Int) ≠ 0) then
 some (Int.tmod r5 1024) else none))
theorem impl_LeafSum_raw_eq (D : DFun E) (L : LFun E) (a0 : List XItem) (a1 : List XFloor) (a2 : Int) : impl_LeafSum (stepD E D L) (a0, a1, a2) = impl_LeafSum_raw D L a0 a1 a2 := by kernel_rfl
theorem impl_LeafSum_of (a0 : List XItem) (a1 : List XFloor) (a2 : Int) {o : Int} (h : impl_LeafSum_raw w wl a0 a1 a2 = some o) : impl_LeafSum w (a0, a1, a2) = some o := ap_close _ _ (impl_LeafSum_raw_eq w wl a0 a1 a2) h
noncomputable def impl_rootOf_l0 (D : DFun E) (L : LFun E) (y0 : List Int) (y1 : Int) (y2 : Int) (y3 : List Int) : Option ((List Int)) :=
 bif (decide (y2 < y1)) then (bif inb y2 (List.length y0) then
 Option.bind (impl_PutNum D (rd1 (0 : Int) y0 y2)) fun r1 =>
 Option.bind (impl_joined D [y3, r1]) fun r2 =>
 impl_rootOf_k0 L (y0, y1, (IntKind.wrap .i64 (y2 + 1)), r2) else none)
 else (some y3)
theorem impl_rootOf_l0_eq (D : DFun E) (L : LFun E) (y0 : List Int) (y1 : Int) (y2 : Int) (y3 : List Int) : impl_rootOf_k0 (stepL E D L) (y0, y1, y2, y3) = impl_rootOf_l0 D L y0 y1 y2 y3 := by kernel_rfl
theorem impl_rootOf_l0_of (y0 : List Int) (y1 : Int) (y2 : Int) (y3 : List Int) {o : (List Int)} (h : impl_rootOf_l0 w wl y0 y1 y2 y3 = some o) : impl_rootOf_k0 wl (y0, y1, y2, y3) = some o := apL_close _ _ (impl_rootOf_l0_eq w wl y0 y1 y2 y3) h
noncomputable def impl_rootOf_raw (D : DFun E) (L : LFun E) (a0 : List Int) : Option (Int) :=
 Option.bind (impl_rootOf_k0 L (a0, (((List.length a0) : Nat) : Int), 0, [])) fun z3 =>
 Option.bind (impl_Crc D z3) fun r4 =>
 bif decide ((1024 : Int) ≠ 0) then
 some (Int.tmod r4 1024) else none
theorem impl_rootOf_raw_eq (D : DFun E) (L : LFun E) (a0 : List Int) : impl_rootOf (stepD E D L) a0 = impl_rootOf_raw D L a0 := by kernel_rfl
theorem impl_rootOf_of (a0 : List Int) {o : Int} (h : impl_rootOf_raw w wl a0 = some o) : impl_rootOf w a0 = some o := ap_close _ _ (impl_rootOf_raw_eq w wl a0) h
noncomputable def impl_isPeer_raw (D : DFun E) (L : LFun E) (a0 : Int) (a1 : Int) (a2 : List XItem) (a3 : List XFloor) (a4 : List Int) (a5 : Int) (a6 : Int) (a7 : Int) (a8 : List XState) (a9 : List Int) (a10 : List Int) (a11 : List (List Int)) (a12 : Int) (a13 : Int) (a14 : List XSess) (a15 : Int) (a16 : Int) (a17 : Int) (a18 : List XRise) (a19 : Int) : Option (Bool) :=
 Option.bind (impl_within D (a19, 0, (IntKind.wrap .i64 (a1 - 1)))) fun r1 =>
 bif r1 then (some (!decide (a19 = a0)))
 else (some false)
theorem impl_isPeer_raw_eq (D : DFun E) (L : LFun E) (a0 : Int) (a1 : Int) (a2 : List XItem) (a3 : List XFloor) (a4 : List Int) (a5 : Int) (a6 : Int) (a7 : Int) (a8 : List XState) (a9 : List Int) (a10 : List Int) (a11 : List (List Int)) (a12 : Int) (a13 : Int) (a14 : List XSess) (a15 : Int) (a16 : Int) (a17 : Int) (a18 : List XRise) (a19 : Int) : impl_isPeer (stepD E D L) (a0, a1, a2, a3, a4, a5, a6, a7, a8, a9, a10, a11, a12, a13, a14, a15, a16, a17, a18, a19) = impl_isPeer_raw D L a0 a1 a2 a3 a4 a5 a6 a7 a8 a9 a10 a11 a12 a13 a14 a15 a16 a17 a18 a19 := by kernel_rfl
theorem impl_isPeer_of (a0 : Int) (a1 : Int) (a2 : List XItem) (a3 : List XFloor) (a4 : List Int) (a5 : Int) (a6 : Int) (a7 : Int) (a8 : List XState) (a9 : List Int) (a10 : List Int) (a11 : List (List Int)) (a12 : Int) (a13 : Int) (a14 : List XSess) (a15 : Int) (a16 : Int) (a17 : Int) (a18 : List XRise) (a19 : Int) {o : Bool} (h : impl_isPeer_raw w wl a0 a1 a2 a3 a4 a5 a6 a7 a8 a9 a10 a11 a12 a13 a14 a15 a16 a17 a18 a19 = some o) : impl_isPeer w (a0, a1, a2, a3, a4, a5, a6, a7, a8, a9, a10, a11, a12, a13, a14, a15, a16, a17, a18, a19) = some o := ap_close _ _ (impl_isPeer_raw_eq w wl a0 a1 a2 a3 a4 a5 a6 a7 a8 a9 a10 a11 a12 a13 a14 a15 a16 a17 a18 a19) h
noncomputable def impl_Slot_l0 (D : DFun E) (L : LFun E) (y0 : Int) (y1 : Bool) (y2 : List XSess) (y3 : Int) (y4 : Int) : Option (Int ⊕ Unit) :=
 bif (decide (y4 < y3)) then (bif inb y4 (List.length y2) then
 let e1 := (rd1 zSess y2 y4)
 bif (decide (e1.1 = y0)) then (bif (e1.2.2.1 == y1) then (some (Sum.inl y4))
 else (impl_Slot_k0 L (y0, y1, y2, y3, (IntKind.wrap .i64 (y4 + 1)))))
 else (impl_Slot_k0 L (y0, y1, y2, y3, (IntKind.wrap .i64 (y4 + 1)))) else none)
 else (some (Sum.inr ()))
theorem impl_Slot_l0_eq (D : DFun E) (L : LFun E) (y0 : Int) (y1 : Bool) (y2 : List XSess) (y3 : Int) (y4 : Int) : impl_Slot_k0 (stepL E D L) (y0, y1, y2, y3, y4) = impl_Slot_l0 D L y0 y1 y2 y3 y4 := by kernel_rfl
theorem impl_Slot_l0_of (y0 : Int) (y1 : Bool) (y2 : List XSess) (y3 : Int) (y4 : Int) {o : Int ⊕ Unit} (h : impl_Slot_l0 w wl y0 y1 y2 y3 y4 = some o) : impl_Slot_k0 wl (y0, y1, y2, y3, y4) = some o := apL_close _ _ (impl_Slot_l0_eq w wl y0 y1 y2 y3 y4) h
noncomputable def impl_Slot_raw (D : DFun E) (L : LFun E) (a0 : Int) (a1 : Int) (a2 : List XItem) (a3 : List XFloor) (a4 : List Int) (a5 : Int) (a6 : Int) (a7 : Int) (a8 : List XState) (a9 : List Int) (a10 : List Int) (a11 : List (List Int)) (a12 : Int) (a13 : Int) (a14 : List XSess) (a15 : Int) (a16 : Int) (a17 : Int) (a18 : List XRise) (a19 : Int) (a20 : Bool) : Option (Int) :=
 Option.bind (impl_Slot_k0 L (a19, a20, a14, (((List.length a14) : Nat) : Int), 0)) fun z2 =>
 elimS z2 (fun u3 =>
 some u3)
 (fun z4 =>
 some (-1))
theorem impl_Slot_raw_eq (D : DFun E) (L : LFun E) (a0 : Int) (a1 : Int) (a2 : List XItem) (a3 : List XFloor) (a4 : List Int) (a5 : Int) (a6 : Int) (a7 : Int) (a8 : List XState) (a9 : List Int) (a10 : List Int) (a11 : List (List Int)) (a12 : Int) (a13 : Int) (a14 : List XSess) (a15 : Int) (a16 : Int) (a17 : Int) (a18 : List XRise) (a19 : Int) (a20 : Bool) : impl_Slot (stepD E D L) (a0, a1, a2, a3, a4, a5, a6, a7, a8, a9, a10, a11, a12, a13, a14, a15, a16, a17, a18, a19, a20) = impl_Slot_raw D L a0 a1 a2 a3 a4 a5 a6 a7 a8 a9 a10 a11 a12 a13 a14 a15 a16 a17 a18 a19 a20 := by kernel_rfl
theorem impl_Slot_of (a0 : Int) (a1 : Int) (a2 : List XItem) (a3 : List XFloor) (a4 : List Int) (a5 : Int) (a6 : Int) (a7 : Int) (a8 : List XState) (a9 : List Int) (a10 : List Int) (a11 : List (List Int)) (a12 : Int) (a13 : Int) (a14 : List XSess) (a15 : Int) (a16 : Int) (a17 : Int) (a18 : List XRise) (a19 : Int) (a20 : Bool) {o : Int} (h : impl_Slot_raw w wl a0 a1 a2 a3 a4 a5 a6 a7 a8 a9 a10 a11 a12 a13 a14 a15 a16 a17 a18 a19 a20 = some o) : impl_Slot w (a0, a1, a2, a3, a4, a5, a6, a7, a8, a9, a10, a11, a12, a13, a14, a15, a16, a17, a18, a19, a20) = some o := ap_close _ _ (impl_Slot_raw_eq w wl a0 a1 a2 a3 a4 a5 a6 a7 a8 a9 a10 a11 a12 a13 a14 a15 a16 a17 a18 a19 a20) h
noncomputable def laws_szEntry_raw (D : DFun E) (L : LFun E) (a0 : Int) (a1 : Int) (a2 : Int) (a3 : Int) (a4 : ByteArray) (a5 : Int) : Option (Int) :=
 bif (decide ((IntKind.wrap .i64 (a5 - (((ByteArray.size a4) : Nat) : Int))) < 0)) then (some (-1))
 else (some (IntKind.wrap .i64 (a5 - (((ByteArray.size a4) : Nat) : Int))))
theorem laws_szEntry_raw_eq (D : DFun E) (L : LFun E) (a0 : Int) (a1 : Int) (a2 : Int) (a3 : Int) (a4 : ByteArray) (a5 : Int) : laws_szEntry (stepD E D L) (a0, a1, a2, a3, a4, a5) = laws_szEntry_raw D L a0 a1 a2 a3 a4 a5 := by kernel_rfl
theorem laws_szEntry_of (a0 : Int) (a1 : Int) (a2 : Int) (a3 : Int) (a4 : ByteArray) (a5 : Int) {o : Int} (h : laws_szEntry_raw w wl a0 a1 a2 a3 a4 a5 = some o) : laws_szEntry w (a0, a1, a2, a3, a4, a5) = some o := ap_close _ _ (laws_szEntry_raw_eq w wl a0 a1 a2 a3 a4 a5) h
noncomputable def laws_toEntry_raw (D : DFun E) (L : LFun E) (a0 : Int) (a1 : Int) (a2 : Int) (a3 : Int) (a4 : ByteArray) : Option (XEntry) :=
 some (a0, a1, a2, a3, a4)
theorem laws_toEntry_raw_eq (D : DFun E) (L : LFun E) (a0 : Int) (a1 : Int) (a2 : Int) (a3 : Int) (a4 : ByteArray) : laws_toEntry (stepD E D L) (a0, a1, a2, a3, a4) = laws_toEntry_raw D L a0 a1 a2 a3 a4 := by kernel_rfl
theorem laws_toEntry_of (a0 : Int) (a1 : Int) (a2 : Int) (a3 : Int) (a4 : ByteArray) {o : XEntry} (h : laws_toEntry_raw w wl a0 a1 a2 a3 a4 = some o) : laws_toEntry w (a0, a1, a2, a3, a4) = some o := ap_close _ _ (laws_toEntry_raw_eq w wl a0 a1 a2 a3 a4) h
noncomputable def spec_l6Slice_l0 (D : DFun E) (L : LFun E) (y0 : List Int) (y1 : Int) (y2 : List XItem) (y3 : List XFloor) (y4 : List XItem) (y5 : List XFloor) : Option ((((List Int) × (List XItem) × (List XFloor) × (List XItem) × (List XFloor)))) :=
 bif (decide (y1 < (((List.length y2) : Nat) : Int))) then (bif inb y1 (List.length y2) then
 let e1 := (rd1 zItem y2 y1)
 Option.bind (spec_LeafOf D e1.1) fun r2 =>
 Option.bind (spec_l1Has D (y0, r2)) fun r3 =>
 bif r3 then (bif inb y1 (List.length y2) then
 let e4 := (rd1 zItem y2 y1)
 bif fits (List.length y4 + List.length ([(e4.1, e4.2.1, e4.2.2.1, e4.2.2.2.1, e4.2.2.2.2.1, e4.2.2.2.2.2)] : List XItem)) 56 then
 spec_l6Slice_k0 L (y0, (IntKind.wrap .i64 (y1 + 1)), y2, y3, (y4 ++ ([(e4.1, e4.2.1, e4.2.2.1, e4.2.2.2.1, e4.2.2.2.2.1, e4.2.2.2.2.2)] : List XItem)), y5) else none else none)
 else (spec_l6Slice_k0 L (y0, (IntKind.wrap .i64 (y1 + 1)), y2, y3, y4, y5)) else none)
 else (some (y0, y2, y3, y4, y5))
theorem spec_l6Slice_l0_eq (D : DFun E) (L : LFun E) (y0 : List Int) (y1 : Int) (y2 : List XItem) (y3 : List XFloor) (y4 : List XItem) (y5 : List XFloor) : spec_l6Slice_k0 (stepL E D L) (y0, y1, y2, y3, y4, y5) = spec_l6Slice_l0 D L y0 y1 y2 y3 y4 y5 := by kernel_rfl
theorem spec_l6Slice_l0_of (y0 : List Int) (y1 : Int) (y2 : List XItem) (y3 : List XFloor) (y4 : List XItem) (y5 : List XFloor) {o : (((List Int) × (List XItem) × (List XFloor) × (List XItem) × (List XFloor)))} (h : spec_l6Slice_l0 w wl y0 y1 y2 y3 y4 y5 = some o) : spec_l6Slice_k0 wl (y0, y1, y2, y3, y4, y5) = some o := apL_close _ _ (spec_l6Slice_l0_eq w wl y0 y1 y2 y3 y4 y5) h
noncomputable def spec_l6Slice_l2 (D : DFun E) (L : LFun E) (y0 : List Int) (y1 : Int) (y2 : List XItem) (y3 : List XFloor) (y4 : List XItem) (y5 : List XFloor) : Option (XState) :=
 bif (decide (y1 < (((List.length y3) : Nat) : Int))) then (bif inb y1 (List.length y3) then
 let e6 := (rd1 zFloor y3 y1)
 Option.bind (spec_LeafOf D e6.1) fun r7 =>
 Option.bind (spec_l1Has D (y0, r7)) fun r8 =>
 bif r8 then (bif inb y1 (List.length y3) then
 let e9 := (rd1 zFloor y3 y1)
 bif fits (List.length y5 + List.length ([(e9.1, e9.2)] : List XFloor)) 16 then
 spec_l6Slice_k2 L (y0, (IntKind.wrap .i64 (y1 + 1)), y2, y3, y4, (y5 ++ ([(e9.1, e9.2)] : List XFloor))) else none else none)
 else (spec_l6Slice_k2 L (y0, (IntKind.wrap .i64 (y1 + 1)), y2, y3, y4, y5)) else none)
 else (some (y4, y5))
theorem spec_l6Slice_l2_eq (D : DFun E) (L : LFun E) (y0 : List Int) (y1 : Int) (y2 : List XItem) (y3 : List XFloor) (y4 : List XItem) (y5 : List XFloor) : spec_l6Slice_k2 (stepL E D L) (y0, y1, y2, y3, y4, y5) = spec_l6Slice_l2 D L y0 y1 y2 y3 y4 y5 := by kernel_rfl
theorem spec_l6Slice_l2_of (y0 : List Int) (y1 : Int) (y2 : List XItem) (y3 : List XFloor) (y4 : List XItem) (y5 : List XFloor) {o : XState} (h : spec_l6Slice_l2 w wl y0 y1 y2 y3 y4 y5 = some o) : spec_l6Slice_k2 wl (y0, y1, y2, y3, y4, y5) = some o := apL_close _ _ (spec_l6Slice_l2_eq w wl y0 y1 y2 y3 y4 y5) h
noncomputable def spec_l6Slice_raw (D : DFun E) (L : LFun E) (a0 : List XItem) (a1 : List XFloor) (a2 : List Int) : Option (XState) :=
 Option.bind (spec_l6Slice_k0 L (a2, 0, a0, a1, [], [])) fun z5 =>
 Option.bind (spec_l6Slice_k2 L (z5.1, 0, z5.2.1, z5.2.2.1, z5.2.2.2.1, z5.2.2.2.2)) fun z10 =>
 some (z10.1, z10.2)
theorem spec_l6Slice_raw_eq (D : DFun E) (L : LFun E) (a0 : List XItem) (a1 : List XFloor) (a2 : List Int) : spec_l6Slice (stepD E D L) (a0, a1, a2) = spec_l6Slice_raw D L a0 a1 a2 := by kernel_rfl
theorem spec_l6Slice_of (a0 : List XItem) (a1 : List XFloor) (a2 : List Int) {o : XState} (h : spec_l6Slice_raw w wl a0 a1 a2 = some o) : spec_l6Slice w (a0, a1, a2) = some o := ap_close _ _ (spec_l6Slice_raw_eq w wl a0 a1 a2) h
noncomputable def impl_Slice_l0 (D : DFun E) (L : LFun E) (y0 : List Int) (y1 : List XItem) (y2 : Int) (y3 : Int) (y4 : List XItem) (y5 : List XFloor) (y6 : List XItem) (y7 : List XFloor) : Option ((((List Int) × (List XItem) × (List XFloor) × (List XItem) × (List XFloor)))) :=
 bif (decide (y3 < y2)) then (bif inb y3 (List.length y1) then
 let e2 := (rd1 zItem y1 y3)
 Option.bind (impl_LeafOf D e2.1) fun r3 =>
 Option.bind (slices_Containsint_int D (y0, r3)) fun r4 =>
 bif r4 then (bif fits (List.length y6 + List.length ([(e2.1, e2.2.1, e2.2.2.1, e2.2.2.2.1, e2.2.2.2.2.1, e2.2.2.2.2.2)] : List XItem)) 56 then
 impl_Slice_k0 L (y0, y1, y2, (IntKind.wrap .i64 (y3 + 1)), y4, y5, (y6 ++ ([(e2.1, e2.2.1, e2.2.2.1, e2.2.2.2.1, e2.2.2.2.2.1, e2.2.2.2.2.2)] : List XItem)), y7) else none)
 else (impl_Slice_k0 L (y0, y1, y2, (IntKind.wrap .i64 (y3 + 1)), y4, y5, y6, y7)) else none)
 else (some (y0, y4, y5, y6, y7))
theorem impl_Slice_l0_eq (D : DFun E) (L : LFun E) (y0 : List Int) (y1 : List XItem) (y2 : Int) (y3 : Int) (y4 : List XItem) (y5 : List XFloor) (y6 : List XItem) (y7 : List XFloor) : impl_Slice_k0 (stepL E D L) (y0, y1, y2, y3, y4, y5, y6, y7) = impl_Slice_l0 D L y0 y1 y2 y3 y4 y5 y6 y7 := by kernel_rfl
theorem impl_Slice_l0_of (y0 : List Int) (y1 : List XItem) (y2 : Int) (y3 : Int) (y4 : List XItem) (y5 : List XFloor) (y6 : List XItem) (y7 : List XFloor) {o : (((List Int) × (List XItem) × (List XFloor) × (List XItem) × (List XFloor)))} (h : impl_Slice_l0 w wl y0 y1 y2 y3 y4 y5 y6 y7 = some o) : impl_Slice_k0 wl (y0, y1, y2, y3, y4, y5, y6, y7) = some o := apL_close _ _ (impl_Slice_l0_eq w wl y0 y1 y2 y3 y4 y5 y6 y7) h
noncomputable def impl_Slice_l2 (D : DFun E) (L : LFun E) (y0 : List Int) (y1 : List XFloor) (y2 : Int) (y3 : Int) (y4 : List XItem) (y5 : List XFloor) : Option (XState) :=
 bif (decide (y3 < y2)) then (bif inb y3 (List.length y1) then
 let e6 := (rd1 zFloor y1 y3)
 Option.bind (impl_LeafOf D e6.1) fun r7 =>
 Option.bind (slices_Containsint_int D (y0, r7)) fun r8 =>
 bif r8 then (bif fits (List.length y5 + List.length ([(e6.1, e6.2)] : List XFloor)) 16 then
 impl_Slice_k2 L (y0, y1, y2, (IntKind.wrap .i64 (y3 + 1)), y4, (y5 ++ ([(e6.1, e6.2)] : List XFloor))) else none)
 else (impl_Slice_k2 L (y0, y1, y2, (IntKind.wrap .i64 (y3 + 1)), y4, y5)) else none)
 else (some (y4, y5))
theorem impl_Slice_l2_eq (D : DFun E) (L : LFun E) (y0 : List Int) (y1 : List XFloor) (y2 : Int) (y3 : Int) (y4 : List XItem) (y5 : List XFloor) : impl_Slice_k2 (stepL E D L) (y0, y1, y2, y3, y4, y5) = impl_Slice_l2 D L y0 y1 y2 y3 y4 y5 := by kernel_rfl
theorem impl_Slice_l2_of (y0 : List Int) (y1 : List XFloor) (y2 : Int) (y3 : Int) (y4 : List XItem) (y5 : List XFloor) {o : XState} (h : impl_Slice_l2 w wl y0 y1 y2 y3 y4 y5 = some o) : impl_Slice_k2 wl (y0, y1, y2, y3, y4, y5) = some o := apL_close _ _ (impl_Slice_l2_eq w wl y0 y1 y2 y3 y4 y5) h
noncomputable def impl_Slice_raw (D : DFun E) (L : LFun E) (a0 : List XItem) (a1 : List XFloor) (a2 : List Int) : Option (XState) :=
 Option.bind (impl_StateOk D (a0, a1)) fun r1 =>
 bif (!r1) then (some ([], []))
 else (Option.bind (impl_Slice_k0 L (a2, a0, (((List.length a0) : Nat) : Int), 0, a0, a1, [], [])) fun z5 =>
 Option.bind (impl_Slice_k2 L (z5.1, z5.2.2.1, (((List.length z5.2.2.1) : Nat) : Int), 0, z5.2.2.2.1, z5.2.2.2.2)) fun z9 =>
 some (z9.1, z9.2))
theorem impl_Slice_raw_eq (D : DFun E) (L : LFun E) (a0 : List XItem) (a1 : List XFloor) (a2 : List Int) : impl_Slice (stepD E D L) (a0, a1, a2) = impl_Slice_raw D L a0 a1 a2 := by kernel_rfl
theorem impl_Slice_of (a0 : List XItem) (a1 : List XFloor) (a2 : List Int) {o : XState} (h : impl_Slice_raw w wl a0 a1 a2 = some o) : impl_Slice w (a0, a1, a2) = some o := ap_close _ _ (impl_Slice_raw_eq w wl a0 a1 a2) h
noncomputable def spec_LeafOf_raw (D : DFun E) (L : LFun E) (a0 : Int) : Option (Int) :=
 Option.bind (spec_l3Node D a0) fun r1 =>
 bif (!r1) then (some (-1))
 else (Option.bind (spec_PutNum D a0) fun r2 =>
 Option.bind (spec_Crc D r2) fun r3 =>
 bif decide ((4 : Int) ≠ 0) then
 some (Int.tmod r3 4) else none)
theorem spec_LeafOf_raw_eq (D : DFun E) (L : LFun E) (a0 : Int) : spec_LeafOf (stepD E D L) a0 = spec_LeafOf_raw D L a0 := by kernel_rfl
theorem spec_LeafOf_of (a0 : Int) {o : Int} (h : spec_LeafOf_raw w wl a0 = some o) : spec_LeafOf w a0 = some o := ap_close _ _ (spec_LeafOf_raw_eq w wl a0) h
noncomputable def impl_LeafOf_raw (D : DFun E) (L : LFun E) (a0 : Int) : Option (Int) :=
 Option.bind (impl_isNode D a0) fun r1 =>
 bif (!r1) then (some (-1))
 else (Option.bind (impl_PutNum D a0) fun r2 =>
 Option.bind (impl_Crc D r2) fun r3 =>
 bif decide ((4 : Int) ≠ 0) then
 some (Int.tmod r3 4) else none)
theorem impl_LeafOf_raw_eq (D : DFun E) (L : LFun E) (a0 : Int) : impl_LeafOf (stepD E D L) a0 = impl_LeafOf_raw D L a0 := by kernel_rfl
theorem impl_LeafOf_of (a0 : Int) {o : Int} (h : impl_LeafOf_raw w wl a0 = some o) : impl_LeafOf w a0 = some o := ap_close _ _ (impl_LeafOf_raw_eq w wl a0) h
end Go.Proofs.Ytgkobeililjgbaa.M
