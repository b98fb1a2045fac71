/- Plain forms of the functions that FnExactMsgSize reaches, part 2. No conditions. -/
import Derived.Test.YtgkobeililjgbaaFnExactMsgSizeTab
namespace Go.Proofs.Ytgkobeililjgbaa.M
open Go Go.Eng Go.Proofs
set_option linter.unusedVariables false
noncomputable def spec_l10Sum_raw (D : DFun E) (L : LFun E) (a0 : List Int) : Option (List Int) :=
 Option.bind (spec_Crc D a0) fun r1 =>
 bif decide ((16777216 : Int) ≠ 0) then
 bif decide ((65536 : Int) ≠ 0) then
 bif decide ((256 : Int) ≠ 0) then
 bif decide ((256 : Int) ≠ 0) then
 bif decide ((256 : Int) ≠ 0) then
 bif decide ((256 : Int) ≠ 0) then
 some [(IntKind.wrap .u8 (IntKind.wrap .i64 (Int.tdiv r1 16777216))), (IntKind.wrap .u8 (Int.tmod (IntKind.wrap .i64 (Int.tdiv r1 65536)) 256)), (IntKind.wrap .u8 (Int.tmod (IntKind.wrap .i64 (Int.tdiv r1 256)) 256)), (IntKind.wrap .u8 (Int.tmod r1 256))] else none else none else none else none else none else none
theorem spec_l10Sum_raw_eq (D : DFun E) (L : LFun E) (a0 : List Int) : spec_l10Sum (stepD E D L) a0 = spec_l10Sum_raw D L a0 := by kernel_rfl
theorem spec_l10Sum_of (a0 : List Int) {o : List Int} (h : spec_l10Sum_raw w wl a0 = some o) : spec_l10Sum w a0 = some o := ap_close _ _ (spec_l10Sum_raw_eq w wl a0) h
noncomputable def laws_toMark_raw (D : DFun E) (L : LFun E) (a0 : Int) (a1 : Int) : Option (XFloor) :=
 some (a0, a1)
theorem laws_toMark_raw_eq (D : DFun E) (L : LFun E) (a0 : Int) (a1 : Int) : laws_toMark (stepD E D L) (a0, a1) = laws_toMark_raw D L a0 a1 := by kernel_rfl
theorem laws_toMark_of (a0 : Int) (a1 : Int) {o : XFloor} (h : laws_toMark_raw w wl a0 a1 = some o) : laws_toMark w (a0, a1) = some o := ap_close _ _ (laws_toMark_raw_eq w wl a0 a1) h
noncomputable def impl_MsgOk_l0 (D : DFun E) (L : LFun E) (y0 : List Int) (y1 : Int) (y2 : Int) (y3 : Int) (y4 : Int) (y5 : Int) (y6 : Int) (y7 : Int) (y8 : List Int) (y9 : Int) (y10 : List Int) (y11 : List Int) (y12 : List XItem) (y13 : List XFloor) (y14 : List XFloor) : Option (Bool ⊕ XMsg) :=
 bif (decide (y2 < y1)) then (bif inb y2 (List.length y0) then
 Option.bind (impl_within D ((rd1 (0 : Int) y0 y2), 0, 3)) fun r4 =>
 bif (!r4) then (some (Sum.inl false))
 else (bif (decide (0 < y2)) then (bif inb (IntKind.wrap .i64 (y2 - 1)) (List.length y11) then
 bif (decide ((rd1 (0 : Int) y0 y2) ≤ (rd1 (0 : Int) y11 (IntKind.wrap .i64 (y2 - 1))))) then (some (Sum.inl false))
 else (impl_MsgOk_k0 L (y0, y1, (IntKind.wrap .i64 (y2 + 1)), y3, y4, y5, y6, y7, y8, y9, y10, y11, y12, y13, y14)) else none)
 else (impl_MsgOk_k0 L (y0, y1, (IntKind.wrap .i64 (y2 + 1)), y3, y4, y5, y6, y7, y8, y9, y10, y11, y12, y13, y14))) else none)
 else (some (Sum.inr (y3, y4, y5, y6, y7, y8, y9, y10, y11, y12, y13, y14)))
theorem impl_MsgOk_l0_eq (D : DFun E) (L : LFun E) (y0 : List Int) (y1 : Int) (y2 : Int) (y3 : Int) (y4 : Int) (y5 : Int) (y6 : Int) (y7 : Int) (y8 : List Int) (y9 : Int) (y10 : List Int) (y11 : List Int) (y12 : List XItem) (y13 : List XFloor) (y14 : List XFloor) : impl_MsgOk_k0 (stepL E D L) (y0, y1, y2, y3, y4, y5, y6, y7, y8, y9, y10, y11, y12, y13, y14) = impl_MsgOk_l0 D L y0 y1 y2 y3 y4 y5 y6 y7 y8 y9 y10 y11 y12 y13 y14 := by kernel_rfl
theorem impl_MsgOk_l0_of (y0 : List Int) (y1 : Int) (y2 : Int) (y3 : Int) (y4 : Int) (y5 : Int) (y6 : Int) (y7 : Int) (y8 : List Int) (y9 : Int) (y10 : List Int) (y11 : List Int) (y12 : List XItem) (y13 : List XFloor) (y14 : List XFloor) {o : Bool ⊕ XMsg} (h : impl_MsgOk_l0 w wl y0 y1 y2 y3 y4 y5 y6 y7 y8 y9 y10 y11 y12 y13 y14 = some o) : impl_MsgOk_k0 wl (y0, y1, y2, y3, y4, y5, y6, y7, y8, y9, y10, y11, y12, y13, y14) = some o := apL_close _ _ (impl_MsgOk_l0_eq w wl y0 y1 y2 y3 y4 y5 y6 y7 y8 y9 y10 y11 y12 y13 y14) h
noncomputable def impl_MsgOk_l2 (D : DFun E) (L : LFun E) (y0 : List Int) (y1 : Int) (y2 : Int) (y3 : Int) (y4 : Int) (y5 : Int) (y6 : Int) (y7 : Int) (y8 : List Int) (y9 : Int) (y10 : List Int) (y11 : List Int) (y12 : List XItem) (y13 : List XFloor) (y14 : List XFloor) : Option (Bool ⊕ XMsg) :=
 bif (decide (y2 < y1)) then (bif inb y2 (List.length y0) then
 Option.bind (impl_within D ((rd1 (0 : Int) y0 y2), 0, 100000)) fun r8 =>
 bif (!r8) then (some (Sum.inl false))
 else (impl_MsgOk_k2 L (y0, y1, (IntKind.wrap .i64 (y2 + 1)), y3, y4, y5, y6, y7, y8, y9, y10, y11, y12, y13, y14)) else none)
 else (some (Sum.inr (y3, y4, y5, y6, y7, y8, y9, y10, y11, y12, y13, y14)))
theorem impl_MsgOk_l2_eq (D : DFun E) (L : LFun E) (y0 : List Int) (y1 : Int) (y2 : Int) (y3 : Int) (y4 : Int) (y5 : Int) (y6 : Int) (y7 : Int) (y8 : List Int) (y9 : Int) (y10 : List Int) (y11 : List Int) (y12 : List XItem) (y13 : List XFloor) (y14 : List XFloor) : impl_MsgOk_k2 (stepL E D L) (y0, y1, y2, y3, y4, y5, y6, y7, y8, y9, y10, y11, y12, y13, y14) = impl_MsgOk_l2 D L y0 y1 y2 y3 y4 y5 y6 y7 y8 y9 y10 y11 y12 y13 y14 := by kernel_rfl
theorem impl_MsgOk_l2_of (y0 : List Int) (y1 : Int) (y2 : Int) (y3 : Int) (y4 : Int) (y5 : Int) (y6 : Int) (y7 : Int) (y8 : List Int) (y9 : Int) (y10 : List Int) (y11 : List Int) (y12 : List XItem) (y13 : List XFloor) (y14 : List XFloor) {o : Bool ⊕ XMsg} (h : impl_MsgOk_l2 w wl y0 y1 y2 y3 y4 y5 y6 y7 y8 y9 y10 y11 y12 y13 y14 = some o) : impl_MsgOk_k2 wl (y0, y1, y2, y3, y4, y5, y6, y7, y8, y9, y10, y11, y12, y13, y14) = some o := apL_close _ _ (impl_MsgOk_l2_eq w wl y0 y1 y2 y3 y4 y5 y6 y7 y8 y9 y10 y11 y12 y13 y14) h
noncomputable def impl_MsgOk_raw (D : DFun E) (L : LFun E) (a0 : Int) (a1 : Int) (a2 : Int) (a3 : Int) (a4 : Int) (a5 : List Int) (a6 : Int) (a7 : List Int) (a8 : List Int) (a9 : List XItem) (a10 : List XFloor) (a11 : List XFloor) : Option (Bool) :=
 Option.bind (impl_within D (a0, 0, 5)) fun r1 =>
 bif (!r1) then (some false)
 else (Option.bind (impl_isNode D a1) fun r2 =>
 bif (!r2) then (some false)
 else (Option.bind (impl_isNode D a2) fun r3 =>
 bif (!r3) then (some false)
 else (bif (decide (a1 = a2)) then (some false)
 else (Option.bind (impl_MsgOk_k0 L (a8, (((List.length a8) : Nat) : Int), 0, a0, a1, a2, a3, a4, a5, a6, a7, a8, a9, a10, a11)) fun z5 =>
 elimS z5 (fun u6 =>
 some u6)
 (fun z7 =>
 Option.bind (impl_MsgOk_k2 L (z7.2.2.2.2.2.2.2.1, (((List.length z7.2.2.2.2.2.2.2.1) : Nat) : Int), 0, z7.1, z7.2.1, z7.2.2.1, z7.2.2.2.1, z7.2.2.2.2.1, z7.2.2.2.2.2.1, z7.2.2.2.2.2.2.1, z7.2.2.2.2.2.2.2.1, z7.2.2.2.2.2.2.2.2.1, z7.2.2.2.2.2.2.2.2.2.1, z7.2.2.2.2.2.2.2.2.2.2.1, z7.2.2.2.2.2.2.2.2.2.2.2)) fun z9 =>
 elimS z9 (fun u10 =>
 some u10)
 (fun z11 =>
 Option.bind (impl_within D (z11.2.2.2.1, 0, 100000)) fun r12 =>
 bif r12 then (Option.bind (impl_within D (z11.2.2.2.2.1, 0, 100000)) fun r13 =>
 bif r13 then (Option.bind (impl_treeOk D (z11.2.2.2.2.2.1, z11.2.2.2.2.2.2.1)) fun r14 =>
 bif r14 then (bif (decide ((((List.length z11.2.2.2.2.2.2.2.1) : Nat) : Int) ≤ 5)) then (Option.bind (impl_StateOk D (z11.2.2.2.2.2.2.2.2.2.1, z11.2.2.2.2.2.2.2.2.2.2.1)) fun r15 =>
 bif r15 then (Option.bind (impl_MarksOk D z11.2.2.2.2.2.2.2.2.2.2.2) fun r16 =>
 some r16)
 else (some false))
 else (some false))
 else (some false))
 else (some false))
 else (some false)))))))
theorem impl_MsgOk_raw_eq (D : DFun E) (L : LFun E) (a0 : Int) (a1 : Int) (a2 : Int) (a3 : Int) (a4 : Int) (a5 : List Int) (a6 : Int) (a7 : List Int) (a8 : List Int) (a9 : List XItem) (a10 : List XFloor) (a11 : List XFloor) : impl_MsgOk (stepD E D L) (a0, a1, a2, a3, a4, a5, a6, a7, a8, a9, a10, a11) = impl_MsgOk_raw D L a0 a1 a2 a3 a4 a5 a6 a7 a8 a9 a10 a11 := by kernel_rfl
theorem impl_MsgOk_of (a0 : Int) (a1 : Int) (a2 : Int) (a3 : Int) (a4 : Int) (a5 : List Int) (a6 : Int) (a7 : List Int) (a8 : List Int) (a9 : List XItem) (a10 : List XFloor) (a11 : List XFloor) {o : Bool} (h : impl_MsgOk_raw w wl a0 a1 a2 a3 a4 a5 a6 a7 a8 a9 a10 a11 = some o) : impl_MsgOk w (a0, a1, a2, a3, a4, a5, a6, a7, a8, a9, a10, a11) = some o := ap_close _ _ (impl_MsgOk_raw_eq w wl a0 a1 a2 a3 a4 a5 a6 a7 a8 a9 a10 a11) h
noncomputable def impl_joined_l0 (D : DFun E) (L : LFun E) (y0 : List (List Int)) (y1 : Int) (y2 : Int) (y3 : List Int) : Option ((List Int)) :=
 bif (decide (y2 < y1)) then (bif inb y2 (List.length y0) then
 bif fits (List.length y3 + List.length (rd1 ([] : List Int) y0 y2)) 1 then
 impl_joined_k0 L (y0, y1, (IntKind.wrap .i64 (y2 + 1)), (y3 ++ (rd1 ([] : List Int) y0 y2))) else none else none)
 else (some y3)
theorem impl_joined_l0_eq (D : DFun E) (L : LFun E) (y0 : List (List Int)) (y1 : Int) (y2 : Int) (y3 : List Int) : impl_joined_k0 (stepL E D L) (y0, y1, y2, y3) = impl_joined_l0 D L y0 y1 y2 y3 := by kernel_rfl
theorem impl_joined_l0_of (y0 : List (List Int)) (y1 : Int) (y2 : Int) (y3 : List Int) {o : (List Int)} (h : impl_joined_l0 w wl y0 y1 y2 y3 = some o) : impl_joined_k0 wl (y0, y1, y2, y3) = some o := apL_close _ _ (impl_joined_l0_eq w wl y0 y1 y2 y3) h
noncomputable def impl_joined_raw (D : DFun E) (L : LFun E) (a0 : List (List Int)) : Option (List Int) :=
 Option.bind (impl_joined_k0 L (a0, (((List.length a0) : Nat) : Int), 0, [])) fun z1 =>
 some z1
theorem impl_joined_raw_eq (D : DFun E) (L : LFun E) (a0 : List (List Int)) : impl_joined (stepD E D L) a0 = impl_joined_raw D L a0 := by kernel_rfl
theorem impl_joined_of (a0 : List (List Int)) {o : List Int} (h : impl_joined_raw w wl a0 = some o) : impl_joined w a0 = some o := ap_close _ _ (impl_joined_raw_eq w wl a0) h
noncomputable def impl_PutNum_l0 (D : DFun E) (L : LFun E) (y0 : Int) (y1 : List Int) : Option (((Int × (List Int)))) :=
 bif (decide (128 ≤ y0)) then (bif decide ((128 : Int) ≠ 0) then
 bif fits (List.length y1 + List.length ([(IntKind.wrap .u8 (IntKind.wrap .i64 ((Int.tmod y0 128) + 128)))] : List Int)) 1 then
 bif decide ((128 : Int) ≠ 0) then
 impl_PutNum_k0 L ((IntKind.wrap .i64 (Int.tdiv y0 128)), (y1 ++ ([(IntKind.wrap .u8 (IntKind.wrap .i64 ((Int.tmod y0 128) + 128)))] : List Int))) else none else none else none)
 else (some (y0, y1))
theorem impl_PutNum_l0_eq (D : DFun E) (L : LFun E) (y0 : Int) (y1 : List Int) : impl_PutNum_k0 (stepL E D L) (y0, y1) = impl_PutNum_l0 D L y0 y1 := by kernel_rfl
theorem impl_PutNum_l0_of (y0 : Int) (y1 : List Int) {o : ((Int × (List Int)))} (h : impl_PutNum_l0 w wl y0 y1 = some o) : impl_PutNum_k0 wl (y0, y1) = some o := apL_close _ _ (impl_PutNum_l0_eq w wl y0 y1) h
noncomputable def impl_PutNum_raw (D : DFun E) (L : LFun E) (a0 : Int) : Option (List Int) :=
 Option.bind (impl_within D (a0, 0, 2147483647)) fun r1 =>
 bif (!r1) then (some [])
 else (Option.bind (impl_PutNum_k0 L (a0, [])) fun z2 =>
 bif fits (List.length z2.2 + List.length ([(IntKind.wrap .u8 z2.1)] : List Int)) 1 then
 some (z2.2 ++ ([(IntKind.wrap .u8 z2.1)] : List Int)) else none)
theorem impl_PutNum_raw_eq (D : DFun E) (L : LFun E) (a0 : Int) : impl_PutNum (stepD E D L) a0 = impl_PutNum_raw D L a0 := by kernel_rfl
theorem impl_PutNum_of (a0 : Int) {o : List Int} (h : impl_PutNum_raw w wl a0 = some o) : impl_PutNum w a0 = some o := ap_close _ _ (impl_PutNum_raw_eq w wl a0) h
noncomputable def impl_putNums_l0 (D : DFun E) (L : LFun E) (y0 : List Int) (y1 : Int) (y2 : Int) (y3 : List Int) : Option ((List Int)) :=
 bif (decide (y2 < y1)) then (bif inb y2 (List.length y0) then
 Option.bind (impl_PutNum D (rd1 (0 : Int) y0 y2)) fun r2 =>
 Option.bind (impl_joined D [y3, r2]) fun r3 =>
 impl_putNums_k0 L (y0, y1, (IntKind.wrap .i64 (y2 + 1)), r3) else none)
 else (some y3)
theorem impl_putNums_l0_eq (D : DFun E) (L : LFun E) (y0 : List Int) (y1 : Int) (y2 : Int) (y3 : List Int) : impl_putNums_k0 (stepL E D L) (y0, y1, y2, y3) = impl_putNums_l0 D L y0 y1 y2 y3 := by kernel_rfl
theorem impl_putNums_l0_of (y0 : List Int) (y1 : Int) (y2 : Int) (y3 : List Int) {o : (List Int)} (h : impl_putNums_l0 w wl y0 y1 y2 y3 = some o) : impl_putNums_k0 wl (y0, y1, y2, y3) = some o := apL_close _ _ (impl_putNums_l0_eq w wl y0 y1 y2 y3) h
noncomputable def impl_putNums_raw (D : DFun E) (L : LFun E) (a0 : List Int) : Option (List Int) :=
 Option.bind (impl_PutNum D (((List.length a0) : Nat) : Int)) fun r1 =>
 Option.bind (impl_putNums_k0 L (a0, (((List.length a0) : Nat) : Int), 0, r1)) fun z4 =>
 some z4
theorem impl_putNums_raw_eq (D : DFun E) (L : LFun E) (a0 : List Int) : impl_putNums (stepD E D L) a0 = impl_putNums_raw D L a0 := by kernel_rfl
theorem impl_putNums_of (a0 : List Int) {o : List Int} (h : impl_putNums_raw w wl a0 = some o) : impl_putNums w a0 = some o := ap_close _ _ (impl_putNums_raw_eq w wl a0) h
noncomputable def impl_crcBytes_raw (D : DFun E) (L : LFun E) (a0 : List Int) : Option (List Int) :=
 Option.bind (impl_Crc D a0) fun r1 =>
 bif decide ((0 : Int) ≤ 24) then
 bif decide ((0 : Int) ≤ 16) then
 bif decide ((0 : Int) ≤ 8) then
 some [(IntKind.wrap .u8 (bits .and .i64 (shrI .i64 r1 24) 255)), (IntKind.wrap .u8 (bits .and .i64 (shrI .i64 r1 16) 255)), (IntKind.wrap .u8 (bits .and .i64 (shrI .i64 r1 8) 255)), (IntKind.wrap .u8 (bits .and .i64 r1 255))] else none else none else none
theorem impl_crcBytes_raw_eq (D : DFun E) (L : LFun E) (a0 : List Int) : impl_crcBytes (stepD E D L) a0 = impl_crcBytes_raw D L a0 := by kernel_rfl
theorem impl_crcBytes_of (a0 : List Int) {o : List Int} (h : impl_crcBytes_raw w wl a0 = some o) : impl_crcBytes w a0 = some o := ap_close _ _ (impl_crcBytes_raw_eq w wl a0) h
noncomputable def laws_eqMark_raw (D : DFun E) (L : LFun E) (a0 : Int) (a1 : Int) (a2 : Int) (a3 : Int) : Option (Bool) :=
 bif (!decide (a0 = a2)) then (some false)
 else (bif (!decide (a1 = a3)) then (some false)
 else (some true))
theorem laws_eqMark_raw_eq (D : DFun E) (L : LFun E) (a0 : Int) (a1 : Int) (a2 : Int) (a3 : Int) : laws_eqMark (stepD E D L) (a0, a1, a2, a3) = laws_eqMark_raw D L a0 a1 a2 a3 := by kernel_rfl
theorem laws_eqMark_of (a0 : Int) (a1 : Int) (a2 : Int) (a3 : Int) {o : Bool} (h : laws_eqMark_raw w wl a0 a1 a2 a3 = some o) : laws_eqMark w (a0, a1, a2, a3) = some o := ap_close _ _ (laws_eqMark_raw_eq w wl a0 a1 a2 a3) h
noncomputable def spec_l6Bytes_l0 (D : DFun E) (L : LFun E) (y0 : Int) (y1 : List XItem) (y2 : List XFloor) (y3 : List Int) : Option ((((List XItem) × (List XFloor) × (List Int)))) :=
 bif (decide (y0 < (((List.length y1) : Nat) : Int))) then (bif inb y0 (List.length y1) then
 let e2 := (rd1 zItem y1 y0)
 bif inb y0 (List.length y1) then
 let e3 := (rd1 zItem y1 y0)
 Option.bind (spec_l6Bytes_k2 L (y0, 0, y1, y2, y3, e2.2.1, e2.2.2.1, e2.2.2.2.1, e2.2.2.2.2.1, e2.2.2.2.2.2, [e3.1, e2.2.1, e2.2.2.1, e2.2.2.2.1, e2.2.2.2.2.1])) fun z5 =>
 Option.bind (spec_PutText D z5.2.2.2.2.2.2.2.2) fun r6 =>
 bif fits (List.length z5.2.2.2.1 + List.length r6) 1 then
 spec_l6Bytes_k0 L ((IntKind.wrap .i64 (z5.1 + 1)), z5.2.1, z5.2.2.1, (z5.2.2.2.1 ++ r6)) else none else none else none)
 else (some (y1, y2, y3))
theorem spec_l6Bytes_l0_eq (D : DFun E) (L : LFun E) (y0 : Int) (y1 : List XItem) (y2 : List XFloor) (y3 : List Int) : spec_l6Bytes_k0 (stepL E D L) (y0, y1, y2, y3) = spec_l6Bytes_l0 D L y0 y1 y2 y3 := by kernel_rfl
theorem spec_l6Bytes_l0_of (y0 : Int) (y1 : List XItem) (y2 : List XFloor) (y3 : List Int) {o : (((List XItem) × (List XFloor) × (List Int)))} (h : spec_l6Bytes_l0 w wl y0 y1 y2 y3 = some o) : spec_l6Bytes_k0 wl (y0, y1, y2, y3) = some o := apL_close _ _ (spec_l6Bytes_l0_eq w wl y0 y1 y2 y3) h
noncomputable def spec_l6Bytes_l2 (D : DFun E) (L : LFun E) (y0 : Int) (y1 : Int) (y2 : List XItem) (y3 : List XFloor) (y4 : List Int) (y5 : Int) (y6 : Int) (y7 : Int) (y8 : Int) (y9 : ByteArray) (y10 : List Int) : Option (((Int × (List XItem) × (List XFloor) × (List Int) × Int × Int × Int × Int × ByteArray))) :=
 bif (decide (y1 < (((List.length y10) : Nat) : Int))) then (bif inb y1 (List.length y10) then
 Option.bind (spec_PutNum D (rd1 (0 : Int) y10 y1)) fun r4 =>
 bif fits (List.length y4 + List.length r4) 1 then
 spec_l6Bytes_k2 L (y0, (IntKind.wrap .i64 (y1 + 1)), y2, y3, (y4 ++ r4), y5, y6, y7, y8, y9, y10) else none else none)
 else (some (y0, y2, y3, y4, y5, y6, y7, y8, y9))
theorem spec_l6Bytes_l2_eq (D : DFun E) (L : LFun E) (y0 : Int) (y1 : Int) (y2 : List XItem) (y3 : List XFloor) (y4 : List Int) (y5 : Int) (y6 : Int) (y7 : Int) (y8 : Int) (y9 : ByteArray) (y10 : List Int) : spec_l6Bytes_k2 (stepL E D L) (y0, y1, y2, y3, y4, y5, y6, y7, y8, y9, y10) = spec_l6Bytes_l2 D L y0 y1 y2 y3 y4 y5 y6 y7 y8 y9 y10 := by kernel_rfl
theorem spec_l6Bytes_l2_of (y0 : Int) (y1 : Int) (y2 : List XItem) (y3 : List XFloor) (y4 : List Int) (y5 : Int) (y6 : Int) (y7 : Int) (y8 : Int) (y9 : ByteArray) (y10 : List Int) {o : ((Int × (List XItem) × (List XFloor) × (List Int) × Int × Int × Int × Int × ByteArray))} (h : spec_l6Bytes_l2 w wl y0 y1 y2 y3 y4 y5 y6 y7 y8 y9 y10 = some o) : spec_l6Bytes_k2 wl (y0, y1, y2, y3, y4, y5, y6, y7, y8, y9, y10) = some o := apL_close _ _ (spec_l6Bytes_l2_eq w wl y0 y1 y2 y3 y4 y5 y6 y7 y8 y9 y10) h
noncomputable def spec_l6Bytes_l4 (D : DFun E) (L : LFun E) (y0 : Int) (y1 : List XItem) (y2 : List XFloor) (y3 : List Int) : Option ((List Int)) :=
 bif (decide (y0 < (((List.length y2) : Nat) : Int))) then (bif inb y0 (List.length y2) then
 let e9 := (rd1 zFloor y2 y0)
 Option.bind (spec_PutNum D e9.1) fun r10 =>
 bif fits (List.length y3 + List.length r10) 1 then
 bif inb y0 (List.length y2) then
 let e11 := (rd1 zFloor y2 y0)
 Option.bind (spec_PutNum D e11.2) fun r12 =>
 bif fits (List.length (y3 ++ r10) + List.length r12) 1 then
 spec_l6Bytes_k4 L ((IntKind.wrap .i64 (y0 + 1)), y1, y2, ((y3 ++ r10) ++ r12)) else none else none else none else none)
 else (some y3)
theorem spec_l6Bytes_l4_eq (D : DFun E) (L : LFun E) (y0 : Int) (y1 : List XItem) (y2 : List XFloor) (y3 : List Int) : spec_l6Bytes_k4 (stepL E D L) (y0, y1, y2, y3) = spec_l6Bytes_l4 D L y0 y1 y2 y3 := by kernel_rfl
theorem spec_l6Bytes_l4_of (y0 : Int) (y1 : List XItem) (y2 : List XFloor) (y3 : List Int) {o : (List Int)} (h : spec_l6Bytes_l4 w wl y0 y1 y2 y3 = some o) : spec_l6Bytes_k4 wl (y0, y1, y2, y3) = some o := apL_close _ _ (spec_l6Bytes_l4_eq w wl y0 y1 y2 y3) h
noncomputable def spec_l6Bytes_raw (D : DFun E) (L : LFun E) (a0 : List XItem) (a1 : List XFloor) : Option (List Int) :=
 Option.bind (spec_PutNum D (((List.length a0) : Nat) : Int)) fun r1 =>
 Option.bind (spec_l6Bytes_k0 L (0, a0, a1, r1)) fun z7 =>
 Option.bind (spec_PutNum D (((List.length z7.2.1) : Nat) : Int)) fun r8 =>
 bif fits (List.length z7.2.2 + List.length r8) 1 then
 Option.bind (spec_l6Bytes_k4 L (0, z7.1, z7.2.1, (z7.2.2 ++ r8))) fun z13 =>
 some z13 else none
theorem spec_l6Bytes_raw_eq (D : DFun E) (L : LFun E) (a0 : List XItem) (a1 : List XFloor) : spec_l6Bytes (stepD E D L) (a0, a1) = spec_l6Bytes_raw D L a0 a1 := by kernel_rfl
theorem spec_l6Bytes_of (a0 : List XItem) (a1 : List XFloor) {o : List Int} (h : spec_l6Bytes_raw w wl a0 a1 = some o) : spec_l6Bytes w (a0, a1) = some o := ap_close _ _ (spec_l6Bytes_raw_eq w wl a0 a1) h
noncomputable def impl_PutText_raw (D : DFun E) (L : LFun E) (a0 : ByteArray) : Option (List Int) :=
 Option.bind (impl_PutNum D (((ByteArray.size a0) : Nat) : Int)) fun r1 =>
 Option.bind (impl_joined D [r1, (ofBytes a0)]) fun r2 =>
 some r2
theorem impl_PutText_raw_eq (D : DFun E) (L : LFun E) (a0 : ByteArray) : impl_PutText (stepD E D L) a0 = impl_PutText_raw D L a0 := by kernel_rfl
theorem impl_PutText_of (a0 : ByteArray) {o : List Int} (h : impl_PutText_raw w wl a0 = some o) : impl_PutText w a0 = some o := ap_close _ _ (impl_PutText_raw_eq w wl a0) h
noncomputable def laws_szItem_raw (D : DFun E) (L : LFun E) (a0 : Int) (a1 : Int) (a2 : Int) (a3 : Int) (a4 : Int) (a5 : ByteArray) (a6 : Int) : Option (Int) :=
 Option.bind (laws_szEntry D (a1, a2, a3, a4, a5, a6)) fun r1 =>
 bif (decide (r1 < 0)) then (some (-1))
 else (some r1)
theorem laws_szItem_raw_eq (D : DFun E) (L : LFun E) (a0 : Int) (a1 : Int) (a2 : Int) (a3 : Int) (a4 : Int) (a5 : ByteArray) (a6 : Int) : laws_szItem (stepD E D L) (a0, a1, a2, a3, a4, a5, a6) = laws_szItem_raw D L a0 a1 a2 a3 a4 a5 a6 := by kernel_rfl
theorem laws_szItem_of (a0 : Int) (a1 : Int) (a2 : Int) (a3 : Int) (a4 : Int) (a5 : ByteArray) (a6 : Int) {o : Int} (h : laws_szItem_raw w wl a0 a1 a2 a3 a4 a5 a6 = some o) : laws_szItem w (a0, a1, a2, a3, a4, a5, a6) = some o := ap_close _ _ (laws_szItem_raw_eq w wl a0 a1 a2 a3 a4 a5 a6) h
noncomputable def laws_toItem_raw (D : DFun E) (L : LFun E) (a0 : Int) (a1 : Int) (a2 : Int) (a3 : Int) (a4 : Int) (a5 : ByteArray) : Option (XItem) :=
 Option.bind (laws_toEntry D (a1, a2, a3, a4, a5)) fun r1 =>
 some (a0, r1.1, r1.2.1, r1.2.2.1, r1.2.2.2.1, r1.2.2.2.2)
theorem laws_toItem_raw_eq (D : DFun E) (L : LFun E) (a0 : Int) (a1 : Int) (a2 : Int) (a3 : Int) (a4 : Int) (a5 : ByteArray) : laws_toItem (stepD E D L) (a0, a1, a2, a3, a4, a5) = laws_toItem_raw D L a0 a1 a2 a3 a4 a5 := by kernel_rfl
theorem laws_toItem_of (a0 : Int) (a1 : Int) (a2 : Int) (a3 : Int) (a4 : Int) (a5 : ByteArray) {o : XItem} (h : laws_toItem_raw w wl a0 a1 a2 a3 a4 a5 = some o) : laws_toItem w (a0, a1, a2, a3, a4, a5) = some o := ap_close _ _ (laws_toItem_raw_eq w wl a0 a1 a2 a3 a4 a5) h
noncomputable def laws_toFloor_raw (D : DFun E) (L : LFun E) (a0 : Int) (a1 : Int) : Option (XFloor) :=
 some (a0, a1)
theorem laws_toFloor_raw_eq (D : DFun E) (L : LFun E) (a0 : Int) (a1 : Int) : laws_toFloor (stepD E D L) (a0, a1) = laws_toFloor_raw D L a0 a1 := by kernel_rfl
theorem laws_toFloor_of (a0 : Int) (a1 : Int) {o : XFloor} (h : laws_toFloor_raw w wl a0 a1 = some o) : laws_toFloor w (a0, a1) = some o := ap_close _ _ (laws_toFloor_raw_eq w wl a0 a1) h
noncomputable def laws_eqFloor_raw (D : DFun E) (L : LFun E) (a0 : Int) (a1 : Int) (a2 : Int) (a3 : Int) : Option (Bool) :=
 bif (!decide (a0 = a2)) then (some false)
 else (bif (!decide (a1 = a3)) then (some false)
 else (some true))
theorem laws_eqFloor_raw_eq (D : DFun E) (L : LFun E) (a0 : Int) (a1 : Int) (a2 : Int) (a3 : Int) : laws_eqFloor (stepD E D L) (a0, a1, a2, a3) = laws_eqFloor_raw D L a0 a1 a2 a3 := by kernel_rfl
theorem laws_eqFloor_of (a0 : Int) (a1 : Int) (a2 : Int) (a3 : Int) {o : Bool} (h : laws_eqFloor_raw w wl a0 a1 a2 a3 = some o) : laws_eqFloor w (a0, a1, a2, a3) = some o := ap_close _ _ (laws_eqFloor_raw_eq w wl a0 a1 a2 a3) h
noncomputable def spec_l10Tree_raw (D : DFun E) (L : LFun E) (a0 : List Int) (a1 : Int) : Option (Bool) :=
 bif (decide ((((List.length a0) : Nat) : Int) = 0)) then (some (decide (a1 = 0)))
 else (bif (decide ((((List.length a0) : Nat) : Int) = 4)) then (Option.bind (spec_l10Nums D (a0, 4, 1023)) fun r1 =>
 bif r1 then (Option.bind (spec_l1In D (a1, 0, 1023)) fun r2 =>
 some r2)
 else (some false))
 else (some false))
theorem spec_l10Tree_raw_eq (D : DFun E) (L : LFun E) (a0 : List Int) (a1 : Int) : spec_l10Tree (stepD E D L) (a0, a1) = spec_l10Tree_raw D L a0 a1 := by kernel_rfl
theorem spec_l10Tree_of (a0 : List Int) (a1 : Int) {o : Bool} (h : spec_l10Tree_raw w wl a0 a1 = some o) : spec_l10Tree w (a0, a1) = some o := ap_close _ _ (spec_l10Tree_raw_eq w wl a0 a1) h
noncomputable def spec_l10Nums_l0 (D : DFun E) (L : LFun E) (y0 : List Int) (y1 : Int) (y2 : Int) : Option (Bool ⊕ Unit) :=
 bif (decide (y2 < (((List.length y0) : Nat) : Int))) then (bif inb y2 (List.length y0) then
 Option.bind (spec_l1In D ((rd1 (0 : Int) y0 y2), 0, y1)) fun r1 =>
 bif (!r1) then (some (Sum.inl false))
 else (spec_l10Nums_k0 L (y0, y1, (IntKind.wrap .i64 (y2 + 1)))) else none)
 else (some (Sum.inr ()))
theorem spec_l10Nums_l0_eq (D : DFun E) (L : LFun E) (y0 : List Int) (y1 : Int) (y2 : Int) : spec_l10Nums_k0 (stepL E D L) (y0, y1, y2) = spec_l10Nums_l0 D L y0 y1 y2 := by kernel_rfl
theorem spec_l10Nums_l0_of (y0 : List Int) (y1 : Int) (y2 : Int) {o : Bool ⊕ Unit} (h : spec_l10Nums_l0 w wl y0 y1 y2 = some o) : spec_l10Nums_k0 wl (y0, y1, y2) = some o := apL_close _ _ (spec_l10Nums_l0_eq w wl y0 y1 y2) h
noncomputable def spec_l10Nums_raw (D : DFun E) (L : LFun E) (a0 : List Int) (a1 : Int) (a2 : Int) : Option (Bool) :=
 bif (decide (a1 < (((List.length a0) : Nat) : Int))) then (some false)
 else (Option.bind (spec_l10Nums_k0 L (a0, a2, 0)) fun z2 =>
 elimS z2 (fun u3 =>
 some u3)
 (fun z4 =>
 some true))
theorem spec_l10Nums_raw_eq (D : DFun E) (L : LFun E) (a0 : List Int) (a1 : Int) (a2 : Int) : spec_l10Nums (stepD E D L) (a0, a1, a2) = spec_l10Nums_raw D L a0 a1 a2 := by kernel_rfl
theorem spec_l10Nums_of (a0 : List Int) (a1 : Int) (a2 : Int) {o : Bool} (h : spec_l10Nums_raw w wl a0 a1 a2 = some o) : spec_l10Nums w (a0, a1, a2) = some o := ap_close _ _ (spec_l10Nums_raw_eq w wl a0 a1 a2) h
noncomputable def spec_MarksOk_l0 (D : DFun E) (L : LFun E) (y0 : List XFloor) (y1 : Int) : Option (Bool ⊕ Unit) :=
 bif (decide (y1 < (((List.length y0) : Nat) : Int))) then (bif inb y1 (List.length y0) then
 let e1 := (rd1 zFloor y0 y1)
 Option.bind (spec_l3Node D e1.1) fun r2 =>
 bif (!r2) then (some (Sum.inl false))
 else (bif (decide (0 < y1)) then (bif inb y1 (List.length y0) then
 let e3 := (rd1 zFloor y0 y1)
 bif inb (IntKind.wrap .i64 (y1 - 1)) (List.length y0) then
 let e4 := (rd1 zFloor y0 (IntKind.wrap .i64 (y1 - 1)))
 bif (decide (e3.1 ≤ e4.1)) then (some (Sum.inl false))
 else (bif inb y1 (List.length y0) then
 let e5 := (rd1 zFloor y0 y1)
 Option.bind (spec_l1In D (e5.2, 1, 1000)) fun r6 =>
 bif (!r6) then (some (Sum.inl false))
 else (spec_MarksOk_k0 L (y0, (IntKind.wrap .i64 (y1 + 1)))) else none) else none else none)
 else (bif inb y1 (List.length y0) then
 let e7 := (rd1 zFloor y0 y1)
 Option.bind (spec_l1In D (e7.2, 1, 1000)) fun r8 =>
 bif (!r8) then (some (Sum.inl false))
 else (spec_MarksOk_k0 L (y0, (IntKind.wrap .i64 (y1 + 1)))) else none)) else none)
 else (some (Sum.inr ()))
theorem spec_MarksOk_l0_eq (D : DFun E) (L : LFun E) (y0 : List XFloor) (y1 : Int) : spec_MarksOk_k0 (stepL E D L) (y0, y1) = spec_MarksOk_l0 D L y0 y1 := by kernel_rfl
theorem spec_MarksOk_l0_of (y0 : List XFloor) (y1 : Int) {o : Bool ⊕ Unit} (h : spec_MarksOk_l0 w wl y0 y1 = some o) : spec_MarksOk_k0 wl (y0, y1) = some o := apL_close _ _ (spec_MarksOk_l0_eq w wl y0 y1) h
noncomputable def spec_MarksOk_raw (D : DFun E) (L : LFun E) (a0 : List XFloor) : Option (Bool) :=
 Option.bind (spec_MarksOk_k0 L (a0, 0)) fun z9 =>
 elimS z9 (fun u10 =>
 some u10)
 (fun z11 =>
 some true)
theorem spec_MarksOk_raw_eq (D : DFun E) (L : LFun E) (a0 : List XFloor) : spec_MarksOk (stepD E D L) a0 = spec_MarksOk_raw D L a0 := by kernel_rfl
theorem spec_MarksOk_of (a0 : List XFloor) {o : Bool} (h : spec_MarksOk_raw w wl a0 = some o) : spec_MarksOk w a0 = some o := ap_close _ _ (spec_MarksOk_raw_eq w wl a0) h
noncomputable def spec_PutNum_l0 (D : DFun E) (L : LFun E) (y0 : Int) (y1 : List Int) : Option (((Int × (List Int)))) :=
 bif (decide (127 < y0)) then (bif decide ((128 : Int) ≠ 0) then
 bif fits (List.length y1 + List.length ([(IntKind.wrap .u8 (IntKind.wrap .i64 ((Int.tmod y0 128) + 128)))] : List Int)) 1 then
 bif decide ((128 : Int) ≠ 0) then
 spec_PutNum_k0 L ((IntKind.wrap .i64 (Int.tdiv y0 128)), (y1 ++ ([(IntKind.wrap .u8 (IntKind.wrap .i64 ((Int.tmod y0 128) + 128)))] : List Int))) else none else none else none)
 else (some (y0, y1))
theorem spec_PutNum_l0_eq (D : DFun E) (L : LFun E) (y0 : Int) (y1 : List Int) : spec_PutNum_k0 (stepL E D L) (y0, y1) = spec_PutNum_l0 D L y0 y1 := by kernel_rfl
theorem spec_PutNum_l0_of (y0 : Int) (y1 : List Int) {o : ((Int × (List Int)))} (h : spec_PutNum_l0 w wl y0 y1 = some o) : spec_PutNum_k0 wl (y0, y1) = some o := apL_close _ _ (spec_PutNum_l0_eq w wl y0 y1) h
noncomputable def spec_PutNum_raw (D : DFun E) (L : LFun E) (a0 : Int) : Option (List Int) :=
 Option.bind (spec_l1In D (a0, 0, 2147483647)) fun r1 =>
 bif (!r1) then (some [])
 else (Option.bind (spec_PutNum_k0 L (a0, [])) fun z2 =>
 bif fits (List.length z2.2 + List.length ([(IntKind.wrap .u8 z2.1)] : List Int)) 1 then
 some (z2.2 ++ ([(IntKind.wrap .u8 z2.1)] : List Int)) else none)
theorem spec_PutNum_raw_eq (D : DFun E) (L : LFun E) (a0 : Int) : spec_PutNum (stepD E D L) a0 = spec_PutNum_raw D L a0 := by kernel_rfl
theorem spec_PutNum_of (a0 : Int) {o : List Int} (h : spec_PutNum_raw w wl a0 = some o) : spec_PutNum w a0 = some o := ap_close _ _ (spec_PutNum_raw_eq w wl a0) h
noncomputable def spec_l10List_l0 (D : DFun E) (L : LFun E) (y0 : List Int) (y1 : Int) (y2 : List Int) : Option ((List Int)) :=
 bif (decide (y1 < (((List.length y0) : Nat) : Int))) then (bif inb y1 (List.length y0) then
 Option.bind (spec_PutNum D (rd1 (0 : Int) y0 y1)) fun r2 =>
 bif fits (List.length y2 + List.length r2) 1 then
 spec_l10List_k0 L (y0, (IntKind.wrap .i64 (y1 + 1)), (y2 ++ r2)) else none else none)
 else (some y2)
theorem spec_l10List_l0_eq (D : DFun E) (L : LFun E) (y0 : List Int) (y1 : Int) (y2 : List Int) : spec_l10List_k0 (stepL E D L) (y0, y1, y2) = spec_l10List_l0 D L y0 y1 y2 := by kernel_rfl
theorem spec_l10List_l0_of (y0 : List Int) (y1 : Int) (y2 : List Int) {o : (List Int)} (h : spec_l10List_l0 w wl y0 y1 y2 = some o) : spec_l10List_k0 wl (y0, y1, y2) = some o := apL_close _ _ (spec_l10List_l0_eq w wl y0 y1 y2) h
noncomputable def spec_l10List_raw (D : DFun E) (L : LFun E) (a0 : List Int) : Option (List Int) :=
 Option.bind (spec_PutNum D (((List.length a0) : Nat) : Int)) fun r1 =>
 Option.bind (spec_l10List_k0 L (a0, 0, r1)) fun z3 =>
 some z3
theorem spec_l10List_raw_eq (D : DFun E) (L : LFun E) (a0 : List Int) : spec_l10List (stepD E D L) a0 = spec_l10List_raw D L a0 := by kernel_rfl
theorem spec_l10List_of (a0 : List Int) {o : List Int} (h : spec_l10List_raw w wl a0 = some o) : spec_l10List w a0 = some o := ap_close _ _ (spec_l10List_raw_eq w wl a0) h
noncomputable def spec_Crc_l0 (D : DFun E) (L : LFun E) (y0 : List Int) (y1 : Int) (y2 : Int) : Option (Int) :=
 bif (decide (y2 < (((List.length y0) : Nat) : Int))) then (bif inb y2 (List.length y0) then
 Option.bind (spec_Crc_k2 L (y0, (bits .xor .i64 y1 (IntKind.wrap .i64 (rd1 (0 : Int) y0 y2))), y2, 0)) fun z1 =>
 spec_Crc_k0 L (z1.1, z1.2.1, (IntKind.wrap .i64 (z1.2.2 + 1))) else none)
 else (some y1)
theorem spec_Crc_l0_eq (D : DFun E) (L : LFun E) (y0 : List Int) (y1 : Int) (y2 : Int) : spec_Crc_k0 (stepL E D L) (y0, y1, y2) = spec_Crc_l0 D L y0 y1 y2 := by kernel_rfl
theorem spec_Crc_l0_of (y0 : List Int) (y1 : Int) (y2 : Int) {o : Int} (h : spec_Crc_l0 w wl y0 y1 y2 = some o) : spec_Crc_k0 wl (y0, y1, y2) = some o := apL_close _ _ (spec_Crc_l0_eq w wl y0 y1 y2) h
noncomputable def spec_Crc_l2 (D : DFun E) (L : LFun E) (y0 : List Int) (y1 : Int) (y2 : Int) (y3 : Int) : Option (Xl1Cur) :=
 bif (decide (y3 < 8)) then (bif decide ((2 : Int) ≠ 0) then
 bif decide ((2 : Int) ≠ 0) then
 bif (decide ((Int.tmod y1 2) = 1)) then (spec_Crc_k2 L (y0, (bits .xor .i64 (IntKind.wrap .i64 (Int.tdiv y1 2)) 3988292384), y2, (IntKind.wrap .i64 (y3 + 1))))
 else (spec_Crc_k2 L (y0, (IntKind.wrap .i64 (Int.tdiv y1 2)), y2, (IntKind.wrap .i64 (y3 + 1)))) else none else none)
 else (some (y0, y1, y2))
theorem spec_Crc_l2_eq (D : DFun E) (L : LFun E) (y0 : List Int) (y1 : Int) (y2 : Int) (y3 : Int) : spec_Crc_k2 (stepL E D L) (y0, y1, y2, y3) = spec_Crc_l2 D L y0 y1 y2 y3 := by kernel_rfl
theorem spec_Crc_l2_of (y0 : List Int) (y1 : Int) (y2 : Int) (y3 : Int) {o : Xl1Cur} (h : spec_Crc_l2 w wl y0 y1 y2 y3 = some o) : spec_Crc_k2 wl (y0, y1, y2, y3) = some o := apL_close _ _ (spec_Crc_l2_eq w wl y0 y1 y2 y3) h
noncomputable def spec_Crc_raw (D : DFun E) (L : LFun E) (a0 : List Int) : Option (Int) :=
 Option.bind (spec_Crc_k0 L (a0, 4294967295, 0)) fun z2 =>
 some (bits .xor .i64 z2 4294967295)
theorem spec_Crc_raw_eq (D : DFun E) (L : LFun E) (a0 : List Int) : spec_Crc (stepD E D L) a0 = spec_Crc_raw D L a0 := by kernel_rfl
theorem spec_Crc_of (a0 : List Int) {o : Int} (h : spec_Crc_raw w wl a0 = some o) : spec_Crc w a0 = some o := ap_close _ _ (spec_Crc_raw_eq w wl a0) h
end Go.Proofs.Ytgkobeililjgbaa.M
