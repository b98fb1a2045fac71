/- Plain forms of the functions that FnExactMsgSize reaches, part 0. No conditions. -/
import Derived.Test.YtgkobeililjgbaaFnExactMsgSizeTab
namespace Go.Proofs.Ytgkobeililjgbaa.M
open Go Go.Eng Go.Proofs
set_option linter.unusedVariables false
noncomputable def laws_FnExactMsgSize_raw (D : DFun E) (L : LFun E) (a0 : Int) (a1 : Int) (a2 : Int) (a3 : Int) (a4 : Int) (a5 : List Int) (a6 : Int) (a7 : List Int) (a8 : List Int) (a9 : List XItem) (a10 : List XFloor) (a11 : List XFloor) : Option (Bool) :=
 Option.bind (laws_szMsg D (a0, a1, a2, a3, a4, a5, a6, a7, a8, a9, a10, a11, 1048576)) fun r1 =>
 bif (decide (r1 < 0)) then (some true)
 else (Option.bind (laws_toMsg D (a0, a1, a2, a3, a4, a5, a6, a7, a8, a9, a10, a11)) fun r2 =>
 Option.bind (spec_MsgSize D (r2.1, r2.2.1, r2.2.2.1, r2.2.2.2.1, r2.2.2.2.2.1, r2.2.2.2.2.2.1, r2.2.2.2.2.2.2.1, r2.2.2.2.2.2.2.2.1, r2.2.2.2.2.2.2.2.2.1, r2.2.2.2.2.2.2.2.2.2.1, r2.2.2.2.2.2.2.2.2.2.2.1, r2.2.2.2.2.2.2.2.2.2.2.2)) fun r3 =>
 Option.bind (laws_toMsg D (a0, a1, a2, a3, a4, a5, a6, a7, a8, a9, a10, a11)) fun r4 =>
 Option.bind (impl_MsgSize D (r4.1, r4.2.1, r4.2.2.1, r4.2.2.2.1, r4.2.2.2.2.1, r4.2.2.2.2.2.1, r4.2.2.2.2.2.2.1, r4.2.2.2.2.2.2.2.1, r4.2.2.2.2.2.2.2.2.1, r4.2.2.2.2.2.2.2.2.2.1, r4.2.2.2.2.2.2.2.2.2.2.1, r4.2.2.2.2.2.2.2.2.2.2.2)) fun r5 =>
 bif (!decide (r5 = r3)) then (some false)
 else (Option.bind (laws_toMsg D (a0, a1, a2, a3, a4, a5, a6, a7, a8, a9, a10, a11)) fun r6 =>
 Option.bind (laws_eqMsg D (r4.1, r4.2.1, r4.2.2.1, r4.2.2.2.1, r4.2.2.2.2.1, r4.2.2.2.2.2.1, r4.2.2.2.2.2.2.1, r4.2.2.2.2.2.2.2.1, r4.2.2.2.2.2.2.2.2.1, r4.2.2.2.2.2.2.2.2.2.1, r4.2.2.2.2.2.2.2.2.2.2.1, r4.2.2.2.2.2.2.2.2.2.2.2, r6.1, r6.2.1, r6.2.2.1, r6.2.2.2.1, r6.2.2.2.2.1, r6.2.2.2.2.2.1, r6.2.2.2.2.2.2.1, r6.2.2.2.2.2.2.2.1, r6.2.2.2.2.2.2.2.2.1, r6.2.2.2.2.2.2.2.2.2.1, r6.2.2.2.2.2.2.2.2.2.2.1, r6.2.2.2.2.2.2.2.2.2.2.2)) fun r7 =>
 bif (!r7) then (some false)
 else (some true)))
theorem laws_FnExactMsgSize_raw_eq (D : DFun E) (L : LFun E) (a0 : Int) (a1 : Int) (a2 : Int) (a3 : Int) (a4 : Int) (a5 : List Int) (a6 : Int) (a7 : List Int) (a8 : List Int) (a9 : List XItem) (a10 : List XFloor) (a11 : List XFloor) : laws_FnExactMsgSize (stepD E D L) (a0, a1, a2, a3, a4, a5, a6, a7, a8, a9, a10, a11) = laws_FnExactMsgSize_raw D L a0 a1 a2 a3 a4 a5 a6 a7 a8 a9 a10 a11 := by kernel_rfl
theorem laws_FnExactMsgSize_of (a0 : Int) (a1 : Int) (a2 : Int) (a3 : Int) (a4 : Int) (a5 : List Int) (a6 : Int) (a7 : List Int) (a8 : List Int) (a9 : List XItem) (a10 : List XFloor) (a11 : List XFloor) {o : Bool} (h : laws_FnExactMsgSize_raw w wl a0 a1 a2 a3 a4 a5 a6 a7 a8 a9 a10 a11 = some o) : laws_FnExactMsgSize w (a0, a1, a2, a3, a4, a5, a6, a7, a8, a9, a10, a11) = some o := ap_close _ _ (laws_FnExactMsgSize_raw_eq w wl a0 a1 a2 a3 a4 a5 a6 a7 a8 a9 a10 a11) h
noncomputable def laws_toIntS_l0 (D : DFun E) (L : LFun E) (y0 : List Int) (y1 : Int) (y2 : List Int) : Option ((List Int)) :=
 bif (decide (y1 < (((List.length y0) : Nat) : Int))) then (bif inb y1 (List.length y0) then
 bif inb y1 (List.length y2) then
 let l1 := List.set y2 (Int.toNat y1) (rd1 (0 : Int) y0 y1)
 laws_toIntS_k0 L (y0, (IntKind.wrap .i64 (y1 + 1)), l1) else none else none)
 else (some y2)
theorem laws_toIntS_l0_eq (D : DFun E) (L : LFun E) (y0 : List Int) (y1 : Int) (y2 : List Int) : laws_toIntS_k0 (stepL E D L) (y0, y1, y2) = laws_toIntS_l0 D L y0 y1 y2 := by kernel_rfl
theorem laws_toIntS_l0_of (y0 : List Int) (y1 : Int) (y2 : List Int) {o : (List Int)} (h : laws_toIntS_l0 w wl y0 y1 y2 = some o) : laws_toIntS_k0 wl (y0, y1, y2) = some o := apL_close _ _ (laws_toIntS_l0_eq w wl y0 y1 y2) h
noncomputable def laws_toIntS_raw (D : DFun E) (L : LFun E) (a0 : List Int) : Option (List Int) :=
 bif (decide ((0 : Int) ≤ (((List.length a0) : Nat) : Int) ∧ ((((List.length a0) : Nat) : Int) : Int) = (((List.length a0) : Nat) : Int)) && fits (Int.toNat (((List.length a0) : Nat) : Int)) 8) then
 Option.bind (laws_toIntS_k0 L (a0, 0, (List.replicate (Int.toNat (((List.length a0) : Nat) : Int)) 0))) fun z2 =>
 some z2 else none
theorem laws_toIntS_raw_eq (D : DFun E) (L : LFun E) (a0 : List Int) : laws_toIntS (stepD E D L) a0 = laws_toIntS_raw D L a0 := by kernel_rfl
theorem laws_toIntS_of (a0 : List Int) {o : List Int} (h : laws_toIntS_raw w wl a0 = some o) : laws_toIntS w a0 = some o := ap_close _ _ (laws_toIntS_raw_eq w wl a0) h
noncomputable def laws_eqIntS_l0 (D : DFun E) (L : LFun E) (y0 : List Int) (y1 : List Int) (y2 : Int) : Option (Bool ⊕ Unit) :=
 bif (decide (y2 < (((List.length y0) : Nat) : Int))) then (bif inb y2 (List.length y0) then
 bif inb y2 (List.length y1) then
 bif (!decide ((rd1 (0 : Int) y0 y2) = (rd1 (0 : Int) y1 y2))) then (some (Sum.inl false))
 else (laws_eqIntS_k0 L (y0, y1, (IntKind.wrap .i64 (y2 + 1)))) else none else none)
 else (some (Sum.inr ()))
theorem laws_eqIntS_l0_eq (D : DFun E) (L : LFun E) (y0 : List Int) (y1 : List Int) (y2 : Int) : laws_eqIntS_k0 (stepL E D L) (y0, y1, y2) = laws_eqIntS_l0 D L y0 y1 y2 := by kernel_rfl
theorem laws_eqIntS_l0_of (y0 : List Int) (y1 : List Int) (y2 : Int) {o : Bool ⊕ Unit} (h : laws_eqIntS_l0 w wl y0 y1 y2 = some o) : laws_eqIntS_k0 wl (y0, y1, y2) = some o := apL_close _ _ (laws_eqIntS_l0_eq w wl y0 y1 y2) h
noncomputable def laws_eqIntS_raw (D : DFun E) (L : LFun E) (a0 : List Int) (a1 : List Int) : Option (Bool) :=
 bif (!decide ((((List.length a0) : Nat) : Int) = (((List.length a1) : Nat) : Int))) then (some false)
 else (Option.bind (laws_eqIntS_k0 L (a0, a1, 0)) fun z1 =>
 elimS z1 (fun u2 =>
 some u2)
 (fun z3 =>
 some true))
theorem laws_eqIntS_raw_eq (D : DFun E) (L : LFun E) (a0 : List Int) (a1 : List Int) : laws_eqIntS (stepD E D L) (a0, a1) = laws_eqIntS_raw D L a0 a1 := by kernel_rfl
theorem laws_eqIntS_of (a0 : List Int) (a1 : List Int) {o : Bool} (h : laws_eqIntS_raw w wl a0 a1 = some o) : laws_eqIntS w (a0, a1) = some o := ap_close _ _ (laws_eqIntS_raw_eq w wl a0 a1) h
noncomputable def laws_eqItemS_l0 (D : DFun E) (L : LFun E) (y0 : List XItem) (y1 : List XItem) (y2 : Int) : Option (Bool ⊕ Unit) :=
 bif (decide (y2 < (((List.length y0) : Nat) : Int))) then (bif inb y2 (List.length y0) then
 let e1 := (rd1 zItem y0 y2)
 bif inb y2 (List.length y1) then
 let e2 := (rd1 zItem y1 y2)
 Option.bind (laws_eqItem D (e1.1, e1.2.1, e1.2.2.1, e1.2.2.2.1, e1.2.2.2.2.1, e1.2.2.2.2.2, e2.1, e2.2.1, e2.2.2.1, e2.2.2.2.1, e2.2.2.2.2.1, e2.2.2.2.2.2)) fun r3 =>
 bif (!r3) then (some (Sum.inl false))
 else (laws_eqItemS_k0 L (y0, y1, (IntKind.wrap .i64 (y2 + 1)))) else none else none)
 else (some (Sum.inr ()))
theorem laws_eqItemS_l0_eq (D : DFun E) (L : LFun E) (y0 : List XItem) (y1 : List XItem) (y2 : Int) : laws_eqItemS_k0 (stepL E D L) (y0, y1, y2) = laws_eqItemS_l0 D L y0 y1 y2 := by kernel_rfl
theorem laws_eqItemS_l0_of (y0 : List XItem) (y1 : List XItem) (y2 : Int) {o : Bool ⊕ Unit} (h : laws_eqItemS_l0 w wl y0 y1 y2 = some o) : laws_eqItemS_k0 wl (y0, y1, y2) = some o := apL_close _ _ (laws_eqItemS_l0_eq w wl y0 y1 y2) h
noncomputable def laws_eqItemS_raw (D : DFun E) (L : LFun E) (a0 : List XItem) (a1 : List XItem) : Option (Bool) :=
 bif (!decide ((((List.length a0) : Nat) : Int) = (((List.length a1) : Nat) : Int))) then (some false)
 else (Option.bind (laws_eqItemS_k0 L (a0, a1, 0)) fun z4 =>
 elimS z4 (fun u5 =>
 some u5)
 (fun z6 =>
 some true))
theorem laws_eqItemS_raw_eq (D : DFun E) (L : LFun E) (a0 : List XItem) (a1 : List XItem) : laws_eqItemS (stepD E D L) (a0, a1) = laws_eqItemS_raw D L a0 a1 := by kernel_rfl
theorem laws_eqItemS_of (a0 : List XItem) (a1 : List XItem) {o : Bool} (h : laws_eqItemS_raw w wl a0 a1 = some o) : laws_eqItemS w (a0, a1) = some o := ap_close _ _ (laws_eqItemS_raw_eq w wl a0 a1) h
noncomputable def laws_szMsg_raw (D : DFun E) (L : LFun E) (a0 : Int) (a1 : Int) (a2 : Int) (a3 : Int) (a4 : Int) (a5 : List Int) (a6 : Int) (a7 : List Int) (a8 : List Int) (a9 : List XItem) (a10 : List XFloor) (a11 : List XFloor) (a12 : Int) : Option (Int) :=
 Option.bind (laws_szTree D (a5, a6, a12)) fun r1 =>
 bif (decide (r1 < 0)) then (some (-1))
 else (Option.bind (laws_szIntS D (a7, r1)) fun r2 =>
 bif (decide (r2 < 0)) then (some (-1))
 else (Option.bind (laws_szIntS D (a8, r2)) fun r3 =>
 bif (decide (r3 < 0)) then (some (-1))
 else (Option.bind (laws_szState D (a9, a10, r3)) fun r4 =>
 bif (decide (r4 < 0)) then (some (-1))
 else (Option.bind (laws_szMarkS D (a11, r4)) fun r5 =>
 bif (decide (r5 < 0)) then (some (-1))
 else (some r5)))))
theorem laws_szMsg_raw_eq (D : DFun E) (L : LFun E) (a0 : Int) (a1 : Int) (a2 : Int) (a3 : Int) (a4 : Int) (a5 : List Int) (a6 : Int) (a7 : List Int) (a8 : List Int) (a9 : List XItem) (a10 : List XFloor) (a11 : List XFloor) (a12 : Int) : laws_szMsg (stepD E D L) (a0, a1, a2, a3, a4, a5, a6, a7, a8, a9, a10, a11, a12) = laws_szMsg_raw D L a0 a1 a2 a3 a4 a5 a6 a7 a8 a9 a10 a11 a12 := by kernel_rfl
theorem laws_szMsg_of (a0 : Int) (a1 : Int) (a2 : Int) (a3 : Int) (a4 : Int) (a5 : List Int) (a6 : Int) (a7 : List Int) (a8 : List Int) (a9 : List XItem) (a10 : List XFloor) (a11 : List XFloor) (a12 : Int) {o : Int} (h : laws_szMsg_raw w wl a0 a1 a2 a3 a4 a5 a6 a7 a8 a9 a10 a11 a12 = some o) : laws_szMsg w (a0, a1, a2, a3, a4, a5, a6, a7, a8, a9, a10, a11, a12) = some o := ap_close _ _ (laws_szMsg_raw_eq w wl a0 a1 a2 a3 a4 a5 a6 a7 a8 a9 a10 a11 a12) h
noncomputable def spec_MsgSize_raw (D : DFun E) (L : LFun E) (a0 : Int) (a1 : Int) (a2 : Int) (a3 : Int) (a4 : Int) (a5 : List Int) (a6 : Int) (a7 : List Int) (a8 : List Int) (a9 : List XItem) (a10 : List XFloor) (a11 : List XFloor) : Option (Int) :=
 Option.bind (spec_MsgBytes D (a0, a1, a2, a3, a4, a5, a6, a7, a8, a9, a10, a11)) fun r1 =>
 some (((List.length r1) : Nat) : Int)
theorem spec_MsgSize_raw_eq (D : DFun E) (L : LFun E) (a0 : Int) (a1 : Int) (a2 : Int) (a3 : Int) (a4 : Int) (a5 : List Int) (a6 : Int) (a7 : List Int) (a8 : List Int) (a9 : List XItem) (a10 : List XFloor) (a11 : List XFloor) : spec_MsgSize (stepD E D L) (a0, a1, a2, a3, a4, a5, a6, a7, a8, a9, a10, a11) = spec_MsgSize_raw D L a0 a1 a2 a3 a4 a5 a6 a7 a8 a9 a10 a11 := by kernel_rfl
theorem spec_MsgSize_of (a0 : Int) (a1 : Int) (a2 : Int) (a3 : Int) (a4 : Int) (a5 : List Int) (a6 : Int) (a7 : List Int) (a8 : List Int) (a9 : List XItem) (a10 : List XFloor) (a11 : List XFloor) {o : Int} (h : spec_MsgSize_raw w wl a0 a1 a2 a3 a4 a5 a6 a7 a8 a9 a10 a11 = some o) : spec_MsgSize w (a0, a1, a2, a3, a4, a5, a6, a7, a8, a9, a10, a11) = some o := ap_close _ _ (spec_MsgSize_raw_eq w wl a0 a1 a2 a3 a4 a5 a6 a7 a8 a9 a10 a11) h
noncomputable def laws_toMsg_raw (D : DFun E) (L : LFun E) (a0 : Int) (a1 : Int) (a2 : Int) (a3 : Int) (a4 : Int) (a5 : List Int) (a6 : Int) (a7 : List Int) (a8 : List Int) (a9 : List XItem) (a10 : List XFloor) (a11 : List XFloor) : Option (XMsg) :=
 Option.bind (laws_toTree D (a5, a6)) fun r1 =>
 Option.bind (laws_toIntS D a7) fun r2 =>
 Option.bind (laws_toIntS D a8) fun r3 =>
 Option.bind (laws_toState D (a9, a10)) fun r4 =>
 Option.bind (laws_toMarkS D a11) fun r5 =>
 some (a0, a1, a2, a3, a4, r1.1, r1.2, r2, r3, r4.1, r4.2, r5)
theorem laws_toMsg_raw_eq (D : DFun E) (L : LFun E) (a0 : Int) (a1 : Int) (a2 : Int) (a3 : Int) (a4 : Int) (a5 : List Int) (a6 : Int) (a7 : List Int) (a8 : List Int) (a9 : List XItem) (a10 : List XFloor) (a11 : List XFloor) : laws_toMsg (stepD E D L) (a0, a1, a2, a3, a4, a5, a6, a7, a8, a9, a10, a11) = laws_toMsg_raw D L a0 a1 a2 a3 a4 a5 a6 a7 a8 a9 a10 a11 := by kernel_rfl
theorem laws_toMsg_of (a0 : Int) (a1 : Int) (a2 : Int) (a3 : Int) (a4 : Int) (a5 : List Int) (a6 : Int) (a7 : List Int) (a8 : List Int) (a9 : List XItem) (a10 : List XFloor) (a11 : List XFloor) {o : XMsg} (h : laws_toMsg_raw w wl a0 a1 a2 a3 a4 a5 a6 a7 a8 a9 a10 a11 = some o) : laws_toMsg w (a0, a1, a2, a3, a4, a5, a6, a7, a8, a9, a10, a11) = some o := ap_close _ _ (laws_toMsg_raw_eq w wl a0 a1 a2 a3 a4 a5 a6 a7 a8 a9 a10 a11) h
noncomputable def impl_MsgSize_raw (D : DFun E) (L : LFun E) (a0 : Int) (a1 : Int) (a2 : Int) (a3 : Int) (a4 : Int) (a5 : List Int) (a6 : Int) (a7 : List Int) (a8 : List Int) (a9 : List XItem) (a10 : List XFloor) (a11 : List XFloor) : Option (Int) :=
 Option.bind (impl_MsgBytes D (a0, a1, a2, a3, a4, a5, a6, a7, a8, a9, a10, a11)) fun r1 =>
 some (((List.length r1) : Nat) : Int)
theorem impl_MsgSize_raw_eq (D : DFun E) (L : LFun E) (a0 : Int) (a1 : Int) (a2 : Int) (a3 : Int) (a4 : Int) (a5 : List Int) (a6 : Int) (a7 : List Int) (a8 : List Int) (a9 : List XItem) (a10 : List XFloor) (a11 : List XFloor) : impl_MsgSize (stepD E D L) (a0, a1, a2, a3, a4, a5, a6, a7, a8, a9, a10, a11) = impl_MsgSize_raw D L a0 a1 a2 a3 a4 a5 a6 a7 a8 a9 a10 a11 := by kernel_rfl
theorem impl_MsgSize_of (a0 : Int) (a1 : Int) (a2 : Int) (a3 : Int) (a4 : Int) (a5 : List Int) (a6 : Int) (a7 : List Int) (a8 : List Int) (a9 : List XItem) (a10 : List XFloor) (a11 : List XFloor) {o : Int} (h : impl_MsgSize_raw w wl a0 a1 a2 a3 a4 a5 a6 a7 a8 a9 a10 a11 = some o) : impl_MsgSize w (a0, a1, a2, a3, a4, a5, a6, a7, a8, a9, a10, a11) = some o := ap_close _ _ (impl_MsgSize_raw_eq w wl a0 a1 a2 a3 a4 a5 a6 a7 a8 a9 a10 a11) h
noncomputable def laws_eqMsg_raw (D : DFun E) (L : LFun E) (a0 : Int) (a1 : Int) (a2 : Int) (a3 : Int) (a4 : Int) (a5 : List Int) (a6 : Int) (a7 : List Int) (a8 : List Int) (a9 : List XItem) (a10 : List XFloor) (a11 : List XFloor) (a12 : Int) (a13 : Int) (a14 : Int) (a15 : Int) (a16 : Int) (a17 : List Int) (a18 : Int) (a19 : List Int) (a20 : List Int) (a21 : List XItem) (a22 : List XFloor) (a23 : List XFloor) : Option (Bool) :=
 bif (!decide (a0 = a12)) then (some false)
 else (bif (!decide (a1 = a13)) then (some false)
 else (bif (!decide (a2 = a14)) then (some false)
 else (bif (!decide (a3 = a15)) then (some false)
 else (bif (!decide (a4 = a16)) then (some false)
 else (Option.bind (laws_eqTree D (a5, a6, a17, a18)) fun r1 =>
 bif (!r1) then (some false)
 else (Option.bind (laws_eqIntS D (a7, a19)) fun r2 =>
 bif (!r2) then (some false)
 else (Option.bind (laws_eqIntS D (a8, a20)) fun r3 =>
 bif (!r3) then (some false)
 else (Option.bind (laws_eqState D (a9, a10, a21, a22)) fun r4 =>
 bif (!r4) then (some false)
 else (Option.bind (laws_eqMarkS D (a11, a23)) fun r5 =>
 bif (!r5) then (some false)
 else (some true))))))))))
theorem laws_eqMsg_raw_eq (D : DFun E) (L : LFun E) (a0 : Int) (a1 : Int) (a2 : Int) (a3 : Int) (a4 : Int) (a5 : List Int) (a6 : Int) (a7 : List Int) (a8 : List Int) (a9 : List XItem) (a10 : List XFloor) (a11 : List XFloor) (a12 : Int) (a13 : Int) (a14 : Int) (a15 : Int) (a16 : Int) (a17 : List Int) (a18 : Int) (a19 : List Int) (a20 : List Int) (a21 : List XItem) (a22 : List XFloor) (a23 : List XFloor) : laws_eqMsg (stepD E D L) (a0, a1, a2, a3, a4, a5, a6, a7, a8, a9, a10, a11, a12, a13, a14, a15, a16, a17, a18, a19, a20, a21, a22, a23) = laws_eqMsg_raw D L a0 a1 a2 a3 a4 a5 a6 a7 a8 a9 a10 a11 a12 a13 a14 a15 a16 a17 a18 a19 a20 a21 a22 a23 := by kernel_rfl
theorem laws_eqMsg_of (a0 : Int) (a1 : Int) (a2 : Int) (a3 : Int) (a4 : Int) (a5 : List Int) (a6 : Int) (a7 : List Int) (a8 : List Int) (a9 : List XItem) (a10 : List XFloor) (a11 : List XFloor) (a12 : Int) (a13 : Int) (a14 : Int) (a15 : Int) (a16 : Int) (a17 : List Int) (a18 : Int) (a19 : List Int) (a20 : List Int) (a21 : List XItem) (a22 : List XFloor) (a23 : List XFloor) {o : Bool} (h : laws_eqMsg_raw w wl a0 a1 a2 a3 a4 a5 a6 a7 a8 a9 a10 a11 a12 a13 a14 a15 a16 a17 a18 a19 a20 a21 a22 a23 = some o) : laws_eqMsg w (a0, a1, a2, a3, a4, a5, a6, a7, a8, a9, a10, a11, a12, a13, a14, a15, a16, a17, a18, a19, a20, a21, a22, a23) = some o := ap_close _ _ (laws_eqMsg_raw_eq w wl a0 a1 a2 a3 a4 a5 a6 a7 a8 a9 a10 a11 a12 a13 a14 a15 a16 a17 a18 a19 a20 a21 a22 a23) h
noncomputable def spec_l1In_raw (D : DFun E) (L : LFun E) (a0 : Int) (a1 : Int) (a2 : Int) : Option (Bool) :=
 bif (decide (a1 ≤ a0)) then (some (decide (a0 ≤ a2)))
 else (some false)
theorem spec_l1In_raw_eq (D : DFun E) (L : LFun E) (a0 : Int) (a1 : Int) (a2 : Int) : spec_l1In (stepD E D L) (a0, a1, a2) = spec_l1In_raw D L a0 a1 a2 := by kernel_rfl
theorem spec_l1In_of (a0 : Int) (a1 : Int) (a2 : Int) {o : Bool} (h : spec_l1In_raw w wl a0 a1 a2 = some o) : spec_l1In w (a0, a1, a2) = some o := ap_close _ _ (spec_l1In_raw_eq w wl a0 a1 a2) h
noncomputable def impl_within_raw (D : DFun E) (L : LFun E) (a0 : Int) (a1 : Int) (a2 : Int) : Option (Bool) :=
 bif (decide (a1 ≤ a0)) then (some (decide (a0 ≤ a2)))
 else (some false)
theorem impl_within_raw_eq (D : DFun E) (L : LFun E) (a0 : Int) (a1 : Int) (a2 : Int) : impl_within (stepD E D L) (a0, a1, a2) = impl_within_raw D L a0 a1 a2 := by kernel_rfl
theorem impl_within_of (a0 : Int) (a1 : Int) (a2 : Int) {o : Bool} (h : impl_within_raw w wl a0 a1 a2 = some o) : impl_within w (a0, a1, a2) = some o := ap_close _ _ (impl_within_raw_eq w wl a0 a1 a2) h
noncomputable def laws_szState_raw (D : DFun E) (L : LFun E) (a0 : List XItem) (a1 : List XFloor) (a2 : Int) : Option (Int) :=
 Option.bind (laws_szItemS D (a0, a2)) fun r1 =>
 bif (decide (r1 < 0)) then (some (-1))
 else (Option.bind (laws_szFloorS D (a1, r1)) fun r2 =>
 bif (decide (r2 < 0)) then (some (-1))
 else (some r2))
theorem laws_szState_raw_eq (D : DFun E) (L : LFun E) (a0 : List XItem) (a1 : List XFloor) (a2 : Int) : laws_szState (stepD E D L) (a0, a1, a2) = laws_szState_raw D L a0 a1 a2 := by kernel_rfl
theorem laws_szState_of (a0 : List XItem) (a1 : List XFloor) (a2 : Int) {o : Int} (h : laws_szState_raw w wl a0 a1 a2 = some o) : laws_szState w (a0, a1, a2) = some o := ap_close _ _ (laws_szState_raw_eq w wl a0 a1 a2) h
noncomputable def spec_StateOk_l0 (D : DFun E) (L : LFun E) (y0 : Int) (y1 : List XItem) (y2 : List XFloor) : Option (Bool ⊕ XState) :=
 bif (decide (y0 < (((List.length y1) : Nat) : Int))) then (bif inb y0 (List.length y1) then
 let e1 := (rd1 zItem y1 y0)
 Option.bind (spec_l3Node D e1.1) fun r2 =>
 bif (!r2) then (some (Sum.inl false))
 else (bif (decide (0 < y0)) then (bif inb (IntKind.wrap .i64 (y0 - 1)) (List.length y1) then
 let e3 := (rd1 zItem y1 (IntKind.wrap .i64 (y0 - 1)))
 bif (decide (e1.1 ≤ e3.1)) then (some (Sum.inl false))
 else (Option.bind (spec_EntryOk D (e1.2.1, e1.2.2.1, e1.2.2.2.1, e1.2.2.2.2.1, e1.2.2.2.2.2)) fun r4 =>
 bif (!r4) then (some (Sum.inl false))
 else (Option.bind (spec_FloorOf D (y1, y2, e1.1)) fun r5 =>
 bif (decide (e1.2.1 ≤ r5)) then (some (Sum.inl false))
 else (spec_StateOk_k0 L ((IntKind.wrap .i64 (y0 + 1)), y1, y2)))) else none)
 else (Option.bind (spec_EntryOk D (e1.2.1, e1.2.2.1, e1.2.2.2.1, e1.2.2.2.2.1, e1.2.2.2.2.2)) fun r6 =>
 bif (!r6) then (some (Sum.inl false))
 else (Option.bind (spec_FloorOf D (y1, y2, e1.1)) fun r7 =>
 bif (decide (e1.2.1 ≤ r7)) then (some (Sum.inl false))
 else (spec_StateOk_k0 L ((IntKind.wrap .i64 (y0 + 1)), y1, y2))))) else none)
 else (some (Sum.inr (y1, y2)))
theorem spec_StateOk_l0_eq (D : DFun E) (L : LFun E) (y0 : Int) (y1 : List XItem) (y2 : List XFloor) : spec_StateOk_k0 (stepL E D L) (y0, y1, y2) = spec_StateOk_l0 D L y0 y1 y2 := by kernel_rfl
theorem spec_StateOk_l0_of (y0 : Int) (y1 : List XItem) (y2 : List XFloor) {o : Bool ⊕ XState} (h : spec_StateOk_l0 w wl y0 y1 y2 = some o) : spec_StateOk_k0 wl (y0, y1, y2) = some o := apL_close _ _ (spec_StateOk_l0_eq w wl y0 y1 y2) h
noncomputable def spec_StateOk_l2 (D : DFun E) (L : LFun E) (y0 : Int) (y1 : List XItem) (y2 : List XFloor) : Option (Bool ⊕ Unit) :=
 bif (decide (y0 < (((List.length y2) : Nat) : Int))) then (bif inb y0 (List.length y2) then
 let e11 := (rd1 zFloor y2 y0)
 Option.bind (spec_l3Node D e11.1) fun r12 =>
 bif (!r12) then (some (Sum.inl false))
 else (bif (decide (0 < y0)) then (bif inb (IntKind.wrap .i64 (y0 - 1)) (List.length y2) then
 let e13 := (rd1 zFloor y2 (IntKind.wrap .i64 (y0 - 1)))
 bif (decide (e11.1 ≤ e13.1)) then (some (Sum.inl false))
 else (Option.bind (spec_l1In D (e11.2, 1, 1000)) fun r14 =>
 bif (!r14) then (some (Sum.inl false))
 else (spec_StateOk_k2 L ((IntKind.wrap .i64 (y0 + 1)), y1, y2))) else none)
 else (Option.bind (spec_l1In D (e11.2, 1, 1000)) fun r15 =>
 bif (!r15) then (some (Sum.inl false))
 else (spec_StateOk_k2 L ((IntKind.wrap .i64 (y0 + 1)), y1, y2)))) else none)
 else (some (Sum.inr ()))
theorem spec_StateOk_l2_eq (D : DFun E) (L : LFun E) (y0 : Int) (y1 : List XItem) (y2 : List XFloor) : spec_StateOk_k2 (stepL E D L) (y0, y1, y2) = spec_StateOk_l2 D L y0 y1 y2 := by kernel_rfl
theorem spec_StateOk_l2_of (y0 : Int) (y1 : List XItem) (y2 : List XFloor) {o : Bool ⊕ Unit} (h : spec_StateOk_l2 w wl y0 y1 y2 = some o) : spec_StateOk_k2 wl (y0, y1, y2) = some o := apL_close _ _ (spec_StateOk_l2_eq w wl y0 y1 y2) h
noncomputable def spec_StateOk_raw (D : DFun E) (L : LFun E) (a0 : List XItem) (a1 : List XFloor) : Option (Bool) :=
 Option.bind (spec_StateOk_k0 L (0, a0, a1)) fun z8 =>
 elimS z8 (fun u9 =>
 some u9)
 (fun z10 =>
 Option.bind (spec_StateOk_k2 L (0, z10.1, z10.2)) fun z16 =>
 elimS z16 (fun u17 =>
 some u17)
 (fun z18 =>
 some true))
theorem spec_StateOk_raw_eq (D : DFun E) (L : LFun E) (a0 : List XItem) (a1 : List XFloor) : spec_StateOk (stepD E D L) (a0, a1) = spec_StateOk_raw D L a0 a1 := by kernel_rfl
theorem spec_StateOk_of (a0 : List XItem) (a1 : List XFloor) {o : Bool} (h : spec_StateOk_raw w wl a0 a1 = some o) : spec_StateOk w (a0, a1) = some o := ap_close _ _ (spec_StateOk_raw_eq w wl a0 a1) h
noncomputable def laws_toState_raw (D : DFun E) (L : LFun E) (a0 : List XItem) (a1 : List XFloor) : Option (XState) :=
 Option.bind (laws_toItemS D a0) fun r1 =>
 Option.bind (laws_toFloorS D a1) fun r2 =>
 some (r1, r2)
theorem laws_toState_raw_eq (D : DFun E) (L : LFun E) (a0 : List XItem) (a1 : List XFloor) : laws_toState (stepD E D L) (a0, a1) = laws_toState_raw D L a0 a1 := by kernel_rfl
theorem laws_toState_of (a0 : List XItem) (a1 : List XFloor) {o : XState} (h : laws_toState_raw w wl a0 a1 = some o) : laws_toState w (a0, a1) = some o := ap_close _ _ (laws_toState_raw_eq w wl a0 a1) h
noncomputable def impl_StateOk_l0 (D : DFun E) (L : LFun E) (y0 : List XFloor) (y1 : Int) (y2 : Int) (y3 : List XItem) (y4 : List XFloor) : Option (Bool ⊕ XState) :=
 bif (decide (y2 < y1)) then (bif inb y2 (List.length y0) then
 let e1 := (rd1 zFloor y0 y2)
 Option.bind (impl_isNode D e1.1) fun r2 =>
 bif (!r2) then (some (Sum.inl false))
 else (Option.bind (impl_within D (e1.2, 1, 1000)) fun r3 =>
 bif (!r3) then (some (Sum.inl false))
 else (bif (decide (0 < y2)) then (bif inb (IntKind.wrap .i64 (y2 - 1)) (List.length y4) then
 let e4 := (rd1 zFloor y4 (IntKind.wrap .i64 (y2 - 1)))
 bif (decide (e1.1 ≤ e4.1)) then (some (Sum.inl false))
 else (impl_StateOk_k0 L (y0, y1, (IntKind.wrap .i64 (y2 + 1)), y3, y4)) else none)
 else (impl_StateOk_k0 L (y0, y1, (IntKind.wrap .i64 (y2 + 1)), y3, y4)))) else none)
 else (some (Sum.inr (y3, y4)))
theorem impl_StateOk_l0_eq (D : DFun E) (L : LFun E) (y0 : List XFloor) (y1 : Int) (y2 : Int) (y3 : List XItem) (y4 : List XFloor) : impl_StateOk_k0 (stepL E D L) (y0, y1, y2, y3, y4) = impl_StateOk_l0 D L y0 y1 y2 y3 y4 := by kernel_rfl
theorem impl_StateOk_l0_of (y0 : List XFloor) (y1 : Int) (y2 : Int) (y3 : List XItem) (y4 : List XFloor) {o : Bool ⊕ XState} (h : impl_StateOk_l0 w wl y0 y1 y2 y3 y4 = some o) : impl_StateOk_k0 wl (y0, y1, y2, y3, y4) = some o := apL_close _ _ (impl_StateOk_l0_eq w wl y0 y1 y2 y3 y4) h
noncomputable def impl_StateOk_l2 (D : DFun E) (L : LFun E) (y0 : List XItem) (y1 : Int) (y2 : Int) (y3 : List XItem) (y4 : List XFloor) : Option (Bool ⊕ Unit) :=
 bif (decide (y2 < y1)) then (bif inb y2 (List.length y0) then
 let e8 := (rd1 zItem y0 y2)
 Option.bind (impl_isNode D e8.1) fun r9 =>
 bif (!r9) then (some (Sum.inl false))
 else (Option.bind (impl_EntryOk D (e8.2.1, e8.2.2.1, e8.2.2.2.1, e8.2.2.2.2.1, e8.2.2.2.2.2)) fun r10 =>
 bif (!r10) then (some (Sum.inl false))
 else (Option.bind (impl_FloorOf D (y3, y4, e8.1)) fun r11 =>
 bif (decide (e8.2.1 ≤ r11)) then (some (Sum.inl false))
 else (bif (decide (0 < y2)) then (bif inb (IntKind.wrap .i64 (y2 - 1)) (List.length y3) then
 let e12 := (rd1 zItem y3 (IntKind.wrap .i64 (y2 - 1)))
 bif (decide (e8.1 ≤ e12.1)) then (some (Sum.inl false))
 else (impl_StateOk_k2 L (y0, y1, (IntKind.wrap .i64 (y2 + 1)), y3, y4)) else none)
 else (impl_StateOk_k2 L (y0, y1, (IntKind.wrap .i64 (y2 + 1)), y3, y4))))) else none)
 else (some (Sum.inr ()))
theorem impl_StateOk_l2_eq (D : DFun E) (L : LFun E) (y0 : List XItem) (y1 : Int) (y2 : Int) (y3 : List XItem) (y4 : List XFloor) : impl_StateOk_k2 (stepL E D L) (y0, y1, y2, y3, y4) = impl_StateOk_l2 D L y0 y1 y2 y3 y4 := by kernel_rfl
theorem impl_StateOk_l2_of (y0 : List XItem) (y1 : Int) (y2 : Int) (y3 : List XItem) (y4 : List XFloor) {o : Bool ⊕ Unit} (h : impl_StateOk_l2 w wl y0 y1 y2 y3 y4 = some o) : impl_StateOk_k2 wl (y0, y1, y2, y3, y4) = some o := apL_close _ _ (impl_StateOk_l2_eq w wl y0 y1 y2 y3 y4) h
noncomputable def impl_StateOk_raw (D : DFun E) (L : LFun E) (a0 : List XItem) (a1 : List XFloor) : Option (Bool) :=
 Option.bind (impl_StateOk_k0 L (a1, (((List.length a1) : Nat) : Int), 0, a0, a1)) fun z5 =>
 elimS z5 (fun u6 =>
 some u6)
 (fun z7 =>
 Option.bind (impl_StateOk_k2 L (z7.1, (((List.length z7.1) : Nat) : Int), 0, z7.1, z7.2)) fun z13 =>
 elimS z13 (fun u14 =>
 some u14)
 (fun z15 =>
 some true))
theorem impl_StateOk_raw_eq (D : DFun E) (L : LFun E) (a0 : List XItem) (a1 : List XFloor) : impl_StateOk (stepD E D L) (a0, a1) = impl_StateOk_raw D L a0 a1 := by kernel_rfl
theorem impl_StateOk_of (a0 : List XItem) (a1 : List XFloor) {o : Bool} (h : impl_StateOk_raw w wl a0 a1 = some o) : impl_StateOk w (a0, a1) = some o := ap_close _ _ (impl_StateOk_raw_eq w wl a0 a1) h
noncomputable def laws_eqState_raw (D : DFun E) (L : LFun E) (a0 : List XItem) (a1 : List XFloor) (a2 : List XItem) (a3 : List XFloor) : Option (Bool) :=
 Option.bind (laws_eqItemS D (a0, a2)) fun r1 =>
 bif (!r1) then (some false)
 else (Option.bind (laws_eqFloorS D (a1, a3)) fun r2 =>
 bif (!r2) then (some false)
 else (some true))
theorem laws_eqState_raw_eq (D : DFun E) (L : LFun E) (a0 : List XItem) (a1 : List XFloor) (a2 : List XItem) (a3 : List XFloor) : laws_eqState (stepD E D L) (a0, a1, a2, a3) = laws_eqState_raw D L a0 a1 a2 a3 := by kernel_rfl
theorem laws_eqState_of (a0 : List XItem) (a1 : List XFloor) (a2 : List XItem) (a3 : List XFloor) {o : Bool} (h : laws_eqState_raw w wl a0 a1 a2 a3 = some o) : laws_eqState w (a0, a1, a2, a3) = some o := ap_close _ _ (laws_eqState_raw_eq w wl a0 a1 a2 a3) h
noncomputable def laws_eqItem_raw (D : DFun E) (L : LFun E) (a0 : Int) (a1 : Int) (a2 : Int) (a3 : Int) (a4 : Int) (a5 : ByteArray) (a6 : Int) (a7 : Int) (a8 : Int) (a9 : Int) (a10 : Int) (a11 : ByteArray) : Option (Bool) :=
 bif (!decide (a0 = a6)) then (some false)
 else (Option.bind (laws_eqEntry D (a1, a2, a3, a4, a5, a7, a8, a9, a10, a11)) fun r1 =>
 bif (!r1) then (some false)
 else (some true))
theorem laws_eqItem_raw_eq (D : DFun E) (L : LFun E) (a0 : Int) (a1 : Int) (a2 : Int) (a3 : Int) (a4 : Int) (a5 : ByteArray) (a6 : Int) (a7 : Int) (a8 : Int) (a9 : Int) (a10 : Int) (a11 : ByteArray) : laws_eqItem (stepD E D L) (a0, a1, a2, a3, a4, a5, a6, a7, a8, a9, a10, a11) = laws_eqItem_raw D L a0 a1 a2 a3 a4 a5 a6 a7 a8 a9 a10 a11 := by kernel_rfl
theorem laws_eqItem_of (a0 : Int) (a1 : Int) (a2 : Int) (a3 : Int) (a4 : Int) (a5 : ByteArray) (a6 : Int) (a7 : Int) (a8 : Int) (a9 : Int) (a10 : Int) (a11 : ByteArray) {o : Bool} (h : laws_eqItem_raw w wl a0 a1 a2 a3 a4 a5 a6 a7 a8 a9 a10 a11 = some o) : laws_eqItem w (a0, a1, a2, a3, a4, a5, a6, a7, a8, a9, a10, a11) = some o := ap_close _ _ (laws_eqItem_raw_eq w wl a0 a1 a2 a3 a4 a5 a6 a7 a8 a9 a10 a11) h
noncomputable def laws_szTree_raw (D : DFun E) (L : LFun E) (a0 : List Int) (a1 : Int) (a2 : Int) : Option (Int) :=
 Option.bind (laws_szIntS D (a0, a2)) fun r1 =>
 bif (decide (r1 < 0)) then (some (-1))
 else (some r1)
theorem laws_szTree_raw_eq (D : DFun E) (L : LFun E) (a0 : List Int) (a1 : Int) (a2 : Int) : laws_szTree (stepD E D L) (a0, a1, a2) = laws_szTree_raw D L a0 a1 a2 := by kernel_rfl
theorem laws_szTree_of (a0 : List Int) (a1 : Int) (a2 : Int) {o : Int} (h : laws_szTree_raw w wl a0 a1 a2 = some o) : laws_szTree w (a0, a1, a2) = some o := ap_close _ _ (laws_szTree_raw_eq w wl a0 a1 a2) h
noncomputable def laws_szIntS_raw (D : DFun E) (L : LFun E) (a0 : List Int) (a1 : Int) : Option (Int) :=
 bif (decide ((IntKind.wrap .i64 (a1 - (((List.length a0) : Nat) : Int))) < 0)) then (some (-1))
 else (some (IntKind.wrap .i64 (a1 - (((List.length a0) : Nat) : Int))))
theorem laws_szIntS_raw_eq (D : DFun E) (L : LFun E) (a0 : List Int) (a1 : Int) : laws_szIntS (stepD E D L) (a0, a1) = laws_szIntS_raw D L a0 a1 := by kernel_rfl
theorem laws_szIntS_of (a0 : List Int) (a1 : Int) {o : Int} (h : laws_szIntS_raw w wl a0 a1 = some o) : laws_szIntS w (a0, a1) = some o := ap_close _ _ (laws_szIntS_raw_eq w wl a0 a1) h
noncomputable def laws_szMarkS_raw (D : DFun E) (L : LFun E) (a0 : List XFloor) (a1 : Int) : Option (Int) :=
 bif (decide ((IntKind.wrap .i64 (a1 - (((List.length a0) : Nat) : Int))) < 0)) then (some (-1))
 else (some (IntKind.wrap .i64 (a1 - (((List.length a0) : Nat) : Int))))
theorem laws_szMarkS_raw_eq (D : DFun E) (L : LFun E) (a0 : List XFloor) (a1 : Int) : laws_szMarkS (stepD E D L) (a0, a1) = laws_szMarkS_raw D L a0 a1 := by kernel_rfl
theorem laws_szMarkS_of (a0 : List XFloor) (a1 : Int) {o : Int} (h : laws_szMarkS_raw w wl a0 a1 = some o) : laws_szMarkS w (a0, a1) = some o := ap_close _ _ (laws_szMarkS_raw_eq w wl a0 a1) h
noncomputable def spec_MsgBytes_raw (D : DFun E) (L : LFun E) (a0 : Int) (a1 : Int) (a2 : Int) (a3 : Int) (a4 : Int) (a5 : List Int) (a6 : Int) (a7 : List Int) (a8 : List Int) (a9 : List XItem) (a10 : List XFloor) (a11 : List XFloor) : Option (List Int) :=
 Option.bind (spec_MsgOk D (a0, a1, a2, a3, a4, a5, a6, a7, a8, a9, a10, a11)) fun r1 =>
 bif (!r1) then (some [])
 else (Option.bind (spec_l10Body D (a0, a1, a2, a3, a4, a5, a6, a7, a8, a9, a10, a11)) fun r2 =>
 Option.bind (spec_l10Sum D r2) fun r3 =>
 bif fits (List.length r2 + List.length r3) 1 then
 some (r2 ++ r3) else none)
theorem spec_MsgBytes_raw_eq (D : DFun E) (L : LFun E) (a0 : Int) (a1 : Int) (a2 : Int) (a3 : Int) (a4 : Int) (a5 : List Int) (a6 : Int) (a7 : List Int) (a8 : List Int) (a9 : List XItem) (a10 : List XFloor) (a11 : List XFloor) : spec_MsgBytes (stepD E D L) (a0, a1, a2, a3, a4, a5, a6, a7, a8, a9, a10, a11) = spec_MsgBytes_raw D L a0 a1 a2 a3 a4 a5 a6 a7 a8 a9 a10 a11 := by kernel_rfl
theorem spec_MsgBytes_of (a0 : Int) (a1 : Int) (a2 : Int) (a3 : Int) (a4 : Int) (a5 : List Int) (a6 : Int) (a7 : List Int) (a8 : List Int) (a9 : List XItem) (a10 : List XFloor) (a11 : List XFloor) {o : List Int} (h : spec_MsgBytes_raw w wl a0 a1 a2 a3 a4 a5 a6 a7 a8 a9 a10 a11 = some o) : spec_MsgBytes w (a0, a1, a2, a3, a4, a5, a6, a7, a8, a9, a10, a11) = some o := ap_close _ _ (spec_MsgBytes_raw_eq w wl a0 a1 a2 a3 a4 a5 a6 a7 a8 a9 a10 a11) h
end Go.Proofs.Ytgkobeililjgbaa.M
