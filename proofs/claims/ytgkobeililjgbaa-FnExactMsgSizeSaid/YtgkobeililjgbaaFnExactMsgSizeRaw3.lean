/- Plain forms of the functions that FnExactMsgSize reaches, part 3. No conditions. -/
import Derived.Test.YtgkobeililjgbaaFnExactMsgSizeTab
namespace Go.Proofs.Ytgkobeililjgbaa.M
open Go Go.Eng Go.Proofs
set_option linter.unusedVariables false
noncomputable def impl_treeOk_l0 (D : DFun E) (L : LFun E) (y0 : List Int) (y1 : Int) (y2 : Int) (y3 : List Int) (y4 : Int) : Option (Bool ⊕ XTree) :=
 bif (decide (y2 < y1)) then (bif inb y2 (List.length y0) then
 Option.bind (impl_within D ((rd1 (0 : Int) y0 y2), 0, 1023)) fun r1 =>
 bif (!r1) then (some (Sum.inl false))
 else (impl_treeOk_k0 L (y0, y1, (IntKind.wrap .i64 (y2 + 1)), y3, y4)) else none)
 else (some (Sum.inr (y3, y4)))
theorem impl_treeOk_l0_eq (D : DFun E) (L : LFun E) (y0 : List Int) (y1 : Int) (y2 : Int) (y3 : List Int) (y4 : Int) : impl_treeOk_k0 (stepL E D L) (y0, y1, y2, y3, y4) = impl_treeOk_l0 D L y0 y1 y2 y3 y4 := by kernel_rfl
theorem impl_treeOk_l0_of (y0 : List Int) (y1 : Int) (y2 : Int) (y3 : List Int) (y4 : Int) {o : Bool ⊕ XTree} (h : impl_treeOk_l0 w wl y0 y1 y2 y3 y4 = some o) : impl_treeOk_k0 wl (y0, y1, y2, y3, y4) = some o := apL_close _ _ (impl_treeOk_l0_eq w wl y0 y1 y2 y3 y4) h
noncomputable def impl_treeOk_raw (D : DFun E) (L : LFun E) (a0 : List Int) (a1 : Int) : Option (Bool) :=
 bif (decide ((((List.length a0) : Nat) : Int) = 0)) then (some (decide (a1 = 0)))
 else (Option.bind (impl_treeOk_k0 L (a0, (((List.length a0) : Nat) : Int), 0, a0, a1)) fun z2 =>
 elimS z2 (fun u3 =>
 some u3)
 (fun z4 =>
 bif (decide ((((List.length z4.1) : Nat) : Int) = 4)) then (Option.bind (impl_within D (z4.2, 0, 1023)) fun r5 =>
 some r5)
 else (some false)))
theorem impl_treeOk_raw_eq (D : DFun E) (L : LFun E) (a0 : List Int) (a1 : Int) : impl_treeOk (stepD E D L) (a0, a1) = impl_treeOk_raw D L a0 a1 := by kernel_rfl
theorem impl_treeOk_of (a0 : List Int) (a1 : Int) {o : Bool} (h : impl_treeOk_raw w wl a0 a1 = some o) : impl_treeOk w (a0, a1) = some o := ap_close _ _ (impl_treeOk_raw_eq w wl a0 a1) h
noncomputable def impl_MarksOk_l0 (D : DFun E) (L : LFun E) (y0 : List XFloor) (y1 : List XFloor) (y2 : Int) (y3 : Int) : Option (Bool ⊕ Unit) :=
 bif (decide (y3 < y2)) then (bif inb y3 (List.length y1) then
 let e1 := (rd1 zFloor y1 y3)
 Option.bind (impl_isNode D e1.1) fun r2 =>
 bif (!r2) then (some (Sum.inl false))
 else (Option.bind (impl_within D (e1.2, 1, 1000)) fun r3 =>
 bif (!r3) then (some (Sum.inl false))
 else (bif (decide (0 < y3)) then (bif inb (IntKind.wrap .i64 (y3 - 1)) (List.length y0) then
 let e4 := (rd1 zFloor y0 (IntKind.wrap .i64 (y3 - 1)))
 bif (decide (e1.1 ≤ e4.1)) then (some (Sum.inl false))
 else (impl_MarksOk_k0 L (y0, y1, y2, (IntKind.wrap .i64 (y3 + 1)))) else none)
 else (impl_MarksOk_k0 L (y0, y1, y2, (IntKind.wrap .i64 (y3 + 1)))))) else none)
 else (some (Sum.inr ()))
theorem impl_MarksOk_l0_eq (D : DFun E) (L : LFun E) (y0 : List XFloor) (y1 : List XFloor) (y2 : Int) (y3 : Int) : impl_MarksOk_k0 (stepL E D L) (y0, y1, y2, y3) = impl_MarksOk_l0 D L y0 y1 y2 y3 := by kernel_rfl
theorem impl_MarksOk_l0_of (y0 : List XFloor) (y1 : List XFloor) (y2 : Int) (y3 : Int) {o : Bool ⊕ Unit} (h : impl_MarksOk_l0 w wl y0 y1 y2 y3 = some o) : impl_MarksOk_k0 wl (y0, y1, y2, y3) = some o := apL_close _ _ (impl_MarksOk_l0_eq w wl y0 y1 y2 y3) h
noncomputable def impl_MarksOk_raw (D : DFun E) (L : LFun E) (a0 : List XFloor) : Option (Bool) :=
 Option.bind (impl_MarksOk_k0 L (a0, a0, (((List.length a0) : Nat) : Int), 0)) fun z5 =>
 elimS z5 (fun u6 =>
 some u6)
 (fun z7 =>
 some true)
theorem impl_MarksOk_raw_eq (D : DFun E) (L : LFun E) (a0 : List XFloor) : impl_MarksOk (stepD E D L) a0 = impl_MarksOk_raw D L a0 := by kernel_rfl
theorem impl_MarksOk_of (a0 : List XFloor) {o : Bool} (h : impl_MarksOk_raw w wl a0 = some o) : impl_MarksOk w a0 = some o := ap_close _ _ (impl_MarksOk_raw_eq w wl a0) h
noncomputable def impl_Crc_l0 (D : DFun E) (L : LFun E) (y0 : Int) (y1 : List Int) (y2 : Int) (y3 : Int) : Option (Int) :=
 bif (decide (y3 < y2)) then (bif inb y3 (List.length y1) then
 Option.bind (impl_Crc_k2 L ((bits .xor .i64 y0 (IntKind.wrap .i64 (rd1 (0 : Int) y1 y3))), y1, y2, y3, 0)) fun z1 =>
 impl_Crc_k0 L (z1.1, z1.2.1, z1.2.2.1, (IntKind.wrap .i64 (z1.2.2.2 + 1))) else none)
 else (some y0)
theorem impl_Crc_l0_eq (D : DFun E) (L : LFun E) (y0 : Int) (y1 : List Int) (y2 : Int) (y3 : Int) : impl_Crc_k0 (stepL E D L) (y0, y1, y2, y3) = impl_Crc_l0 D L y0 y1 y2 y3 := by kernel_rfl
theorem impl_Crc_l0_of (y0 : Int) (y1 : List Int) (y2 : Int) (y3 : Int) {o : Int} (h : impl_Crc_l0 w wl y0 y1 y2 y3 = some o) : impl_Crc_k0 wl (y0, y1, y2, y3) = some o := apL_close _ _ (impl_Crc_l0_eq w wl y0 y1 y2 y3) h
noncomputable def impl_Crc_l2 (D : DFun E) (L : LFun E) (y0 : Int) (y1 : List Int) (y2 : Int) (y3 : Int) (y4 : Int) : Option (((Int × (List Int) × Int × Int))) :=
 bif (decide (y4 < 8)) then (bif decide ((2 : Int) ≠ 0) then
 bif decide ((2 : Int) ≠ 0) then
 bif (decide ((Int.tmod y0 2) = 1)) then (impl_Crc_k2 L ((bits .xor .i64 (IntKind.wrap .i64 (Int.tdiv y0 2)) 3988292384), y1, y2, y3, (IntKind.wrap .i64 (y4 + 1))))
 else (impl_Crc_k2 L ((IntKind.wrap .i64 (Int.tdiv y0 2)), y1, y2, y3, (IntKind.wrap .i64 (y4 + 1)))) else none else none)
 else (some (y0, y1, y2, y3))
theorem impl_Crc_l2_eq (D : DFun E) (L : LFun E) (y0 : Int) (y1 : List Int) (y2 : Int) (y3 : Int) (y4 : Int) : impl_Crc_k2 (stepL E D L) (y0, y1, y2, y3, y4) = impl_Crc_l2 D L y0 y1 y2 y3 y4 := by kernel_rfl
theorem impl_Crc_l2_of (y0 : Int) (y1 : List Int) (y2 : Int) (y3 : Int) (y4 : Int) {o : ((Int × (List Int) × Int × Int))} (h : impl_Crc_l2 w wl y0 y1 y2 y3 y4 = some o) : impl_Crc_k2 wl (y0, y1, y2, y3, y4) = some o := apL_close _ _ (impl_Crc_l2_eq w wl y0 y1 y2 y3 y4) h
noncomputable def impl_Crc_raw (D : DFun E) (L : LFun E) (a0 : List Int) : Option (Int) :=
 Option.bind (impl_Crc_k0 L (4294967295, a0, (((List.length a0) : Nat) : Int), 0)) fun z2 =>
 some (bits .xor .i64 z2 4294967295)
theorem impl_Crc_raw_eq (D : DFun E) (L : LFun E) (a0 : List Int) : impl_Crc (stepD E D L) a0 = impl_Crc_raw D L a0 := by kernel_rfl
theorem impl_Crc_of (a0 : List Int) {o : Int} (h : impl_Crc_raw w wl a0 = some o) : impl_Crc w a0 = some o := ap_close _ _ (impl_Crc_raw_eq w wl a0) h
noncomputable def spec_PutText_raw (D : DFun E) (L : LFun E) (a0 : ByteArray) : Option (List Int) :=
 Option.bind (spec_PutNum D (((ByteArray.size a0) : Nat) : Int)) fun r1 =>
 bif fits (List.length r1 + List.length (ofBytes a0)) 1 then
 some (r1 ++ (ofBytes a0)) else none
theorem spec_PutText_raw_eq (D : DFun E) (L : LFun E) (a0 : ByteArray) : spec_PutText (stepD E D L) a0 = spec_PutText_raw D L a0 := by kernel_rfl
theorem spec_PutText_of (a0 : ByteArray) {o : List Int} (h : spec_PutText_raw w wl a0 = some o) : spec_PutText w a0 = some o := ap_close _ _ (spec_PutText_raw_eq w wl a0) h
noncomputable def laws_szEntry_raw (D : DFun E) (L : LFun E) (a0 : Int) (a1 : Int) (a2 : Int) (a3 : Int) (a4 : ByteArray) (a5 : Int) : Option (Int) :=
 bif (decide ((IntKind.wrap .i64 (a5 - (((ByteArray.size a4) : Nat) : Int))) < 0)) then (some (-1))
 else (some (IntKind.wrap .i64 (a5 - (((ByteArray.size a4) : Nat) : Int))))
theorem laws_szEntry_raw_eq (D : DFun E) (L : LFun E) (a0 : Int) (a1 : Int) (a2 : Int) (a3 : Int) (a4 : ByteArray) (a5 : Int) : laws_szEntry (stepD E D L) (a0, a1, a2, a3, a4, a5) = laws_szEntry_raw D L a0 a1 a2 a3 a4 a5 := by kernel_rfl
theorem laws_szEntry_of (a0 : Int) (a1 : Int) (a2 : Int) (a3 : Int) (a4 : ByteArray) (a5 : Int) {o : Int} (h : laws_szEntry_raw w wl a0 a1 a2 a3 a4 a5 = some o) : laws_szEntry w (a0, a1, a2, a3, a4, a5) = some o := ap_close _ _ (laws_szEntry_raw_eq w wl a0 a1 a2 a3 a4 a5) h
noncomputable def laws_toEntry_raw (D : DFun E) (L : LFun E) (a0 : Int) (a1 : Int) (a2 : Int) (a3 : Int) (a4 : ByteArray) : Option (XEntry) :=
 some (a0, a1, a2, a3, a4)
theorem laws_toEntry_raw_eq (D : DFun E) (L : LFun E) (a0 : Int) (a1 : Int) (a2 : Int) (a3 : Int) (a4 : ByteArray) : laws_toEntry (stepD E D L) (a0, a1, a2, a3, a4) = laws_toEntry_raw D L a0 a1 a2 a3 a4 := by kernel_rfl
theorem laws_toEntry_of (a0 : Int) (a1 : Int) (a2 : Int) (a3 : Int) (a4 : ByteArray) {o : XEntry} (h : laws_toEntry_raw w wl a0 a1 a2 a3 a4 = some o) : laws_toEntry w (a0, a1, a2, a3, a4) = some o := ap_close _ _ (laws_toEntry_raw_eq w wl a0 a1 a2 a3 a4) h
end Go.Proofs.Ytgkobeililjgbaa.M
