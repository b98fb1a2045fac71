/- Plain forms of the functions that FnExactSafe reaches, part 2. No conditions. -/
import Derived.Test.YtgkobeililjgbaaFnExactSafeTab
namespace Go.Proofs.Ytgkobeililjgbaa.M
open Go Go.Eng Go.Proofs
set_option linter.unusedVariables false
noncomputable def laws_toSessS_l0 (D : DFun E) (L : LFun E) (y0 : List XSess) (y1 : Int) (y2 : List XSess) : Option ((List XSess)) :=
 bif (decide (y1 < (((List.length y0) : Nat) : Int))) then (bif inb y1 (List.length y0) then
 let e1 := (rd1 zSess y0 y1)
 Option.bind (laws_toSess D (e1.1, e1.2.1, e1.2.2.1, e1.2.2.2)) fun r2 =>
 bif inb y1 (List.length y2) then
 let l3 := List.set y2 (Int.toNat y1) (r2.1, r2.2.1, r2.2.2.1, r2.2.2.2)
 laws_toSessS_k0 L (y0, (IntKind.wrap .i64 (y1 + 1)), l3) else none else none)
 else (some y2)
theorem laws_toSessS_l0_eq (D : DFun E) (L : LFun E) (y0 : List XSess) (y1 : Int) (y2 : List XSess) : laws_toSessS_k0 (stepL E D L) (y0, y1, y2) = laws_toSessS_l0 D L y0 y1 y2 := by kernel_rfl
theorem laws_toSessS_l0_of (y0 : List XSess) (y1 : Int) (y2 : List XSess) {o : (List XSess)} (h : laws_toSessS_l0 w wl y0 y1 y2 = some o) : laws_toSessS_k0 wl (y0, y1, y2) = some o := apL_close _ _ (laws_toSessS_l0_eq w wl y0 y1 y2) h
noncomputable def laws_toSessS_raw (D : DFun E) (L : LFun E) (a0 : List XSess) : Option (List XSess) :=
 bif (decide ((0 : Int) ≤ (((List.length a0) : Nat) : Int) ∧ ((((List.length a0) : Nat) : Int) : Int) = (((List.length a0) : Nat) : Int)) && fits (Int.toNat (((List.length a0) : Nat) : Int)) 32) then
 Option.bind (laws_toSessS_k0 L (a0, 0, (List.replicate (Int.toNat (((List.length a0) : Nat) : Int)) (0, 0, false, 0)))) fun z4 =>
 some z4 else none
theorem laws_toSessS_raw_eq (D : DFun E) (L : LFun E) (a0 : List XSess) : laws_toSessS (stepD E D L) a0 = laws_toSessS_raw D L a0 := by kernel_rfl
theorem laws_toSessS_of (a0 : List XSess) {o : List XSess} (h : laws_toSessS_raw w wl a0 = some o) : laws_toSessS w a0 = some o := ap_close _ _ (laws_toSessS_raw_eq w wl a0) h
noncomputable def laws_toRiseS_l0 (D : DFun E) (L : LFun E) (y0 : List XRise) (y1 : Int) (y2 : List XRise) : Option ((List XRise)) :=
 bif (decide (y1 < (((List.length y0) : Nat) : Int))) then (bif inb y1 (List.length y0) then
 let e1 := (rd1 zRise y0 y1)
 Option.bind (laws_toRise D (e1.1, e1.2.1, e1.2.2)) fun r2 =>
 bif inb y1 (List.length y2) then
 let l3 := List.set y2 (Int.toNat y1) (r2.1, r2.2.1, r2.2.2)
 laws_toRiseS_k0 L (y0, (IntKind.wrap .i64 (y1 + 1)), l3) else none else none)
 else (some y2)
theorem laws_toRiseS_l0_eq (D : DFun E) (L : LFun E) (y0 : List XRise) (y1 : Int) (y2 : List XRise) : laws_toRiseS_k0 (stepL E D L) (y0, y1, y2) = laws_toRiseS_l0 D L y0 y1 y2 := by kernel_rfl
theorem laws_toRiseS_l0_of (y0 : List XRise) (y1 : Int) (y2 : List XRise) {o : (List XRise)} (h : laws_toRiseS_l0 w wl y0 y1 y2 = some o) : laws_toRiseS_k0 wl (y0, y1, y2) = some o := apL_close _ _ (laws_toRiseS_l0_eq w wl y0 y1 y2) h
noncomputable def laws_toRiseS_raw (D : DFun E) (L : LFun E) (a0 : List XRise) : Option (List XRise) :=
 bif (decide ((0 : Int) ≤ (((List.length a0) : Nat) : Int) ∧ ((((List.length a0) : Nat) : Int) : Int) = (((List.length a0) : Nat) : Int)) && fits (Int.toNat (((List.length a0) : Nat) : Int)) 24) then
 Option.bind (laws_toRiseS_k0 L (a0, 0, (List.replicate (Int.toNat (((List.length a0) : Nat) : Int)) (0, 0, 0)))) fun z4 =>
 some z4 else none
theorem laws_toRiseS_raw_eq (D : DFun E) (L : LFun E) (a0 : List XRise) : laws_toRiseS (stepD E D L) a0 = laws_toRiseS_raw D L a0 := by kernel_rfl
theorem laws_toRiseS_of (a0 : List XRise) {o : List XRise} (h : laws_toRiseS_raw w wl a0 = some o) : laws_toRiseS w a0 = some o := ap_close _ _ (laws_toRiseS_raw_eq w wl a0) h
noncomputable def impl_NodeOk_raw (D : DFun E) (L : LFun E) (a0 : Int) (a1 : Int) (a2 : List XItem) (a3 : List XFloor) (a4 : List Int) (a5 : Int) (a6 : Int) (a7 : Int) (a8 : List XState) (a9 : List Int) (a10 : List Int) (a11 : List (List Int)) (a12 : Int) (a13 : Int) (a14 : List XSess) (a15 : Int) (a16 : Int) (a17 : Int) (a18 : List XRise) : Option (Bool) :=
 Option.bind (impl_within D (a1, 1, 5)) fun r1 =>
 bif (!r1) then (some false)
 else (Option.bind (impl_within D (a0, 0, (IntKind.wrap .i64 (a1 - 1)))) fun r2 =>
 bif (!r2) then (some false)
 else (Option.bind (impl_StateOk D (a2, a3)) fun r3 =>
 bif (!r3) then (some false)
 else (Option.bind (impl_TreeOf D (a2, a3)) fun r4 =>
 Option.bind (impl_treeSame D (a4, a5, r4.1, r4.2)) fun r5 =>
 bif (!r5) then (some false)
 else (Option.bind (impl_LogSeq D (a6, a7, a8)) fun r6 =>
 Option.bind (impl_LogOk D (a6, a7, a8)) fun r7 =>
 bif (!r7) then (some false)
 else (Option.bind (impl_VecOk D (a9, a1)) fun r8 =>
 bif (!r8) then (some false)
 else (Option.bind (impl_VecOk D (a10, a1)) fun r9 =>
 bif (!r9) then (some false)
 else (bif inb a0 (List.length a9) then
 bif (!decide ((rd1 (0 : Int) a9 a0) = r6)) then (some false)
 else (Option.bind (slices_Maxint_int D a10) fun r10 =>
 bif (decide (r6 < r10)) then (some false)
 else (Option.bind (impl_TableOk D (a11, a1)) fun r11 =>
 bif (!r11) then (some false)
 else (Option.bind (impl_within D (a12, 0, 100000)) fun r12 =>
 bif (!r12) then (some false)
 else (Option.bind (impl_within D (a17, 0, 100000)) fun r13 =>
 bif (!r13) then (some false)
 else (Option.bind (impl_within D (a15, 1, 20)) fun r14 =>
 bif r14 then (Option.bind (impl_within D (a16, 1, 50)) fun r15 =>
 bif r15 then (Option.bind (impl_sessOk D (a0, a1, a2, a3, a4, a5, a6, a7, a8, a9, a10, a11, a12, a13, a14, a15, a16, a17, a18)) fun r16 =>
 bif r16 then (Option.bind (impl_risesOk D (a0, a1, a2, a3, a4, a5, a6, a7, a8, a9, a10, a11, a12, a13, a14, a15, a16, a17, a18)) fun r17 =>
 some r17)
 else (some false))
 else (some false))
 else (some false)))))) else none)))))))
theorem impl_NodeOk_raw_eq (D : DFun E) (L : LFun E) (a0 : Int) (a1 : Int) (a2 : List XItem) (a3 : List XFloor) (a4 : List Int) (a5 : Int) (a6 : Int) (a7 : Int) (a8 : List XState) (a9 : List Int) (a10 : List Int) (a11 : List (List Int)) (a12 : Int) (a13 : Int) (a14 : List XSess) (a15 : Int) (a16 : Int) (a17 : Int) (a18 : List XRise) : impl_NodeOk (stepD E D L) (a0, a1, a2, a3, a4, a5, a6, a7, a8, a9, a10, a11, a12, a13, a14, a15, a16, a17, a18) = impl_NodeOk_raw D L a0 a1 a2 a3 a4 a5 a6 a7 a8 a9 a10 a11 a12 a13 a14 a15 a16 a17 a18 := by kernel_rfl
theorem impl_NodeOk_of (a0 : Int) (a1 : Int) (a2 : List XItem) (a3 : List XFloor) (a4 : List Int) (a5 : Int) (a6 : Int) (a7 : Int) (a8 : List XState) (a9 : List Int) (a10 : List Int) (a11 : List (List Int)) (a12 : Int) (a13 : Int) (a14 : List XSess) (a15 : Int) (a16 : Int) (a17 : Int) (a18 : List XRise) {o : Bool} (h : impl_NodeOk_raw w wl a0 a1 a2 a3 a4 a5 a6 a7 a8 a9 a10 a11 a12 a13 a14 a15 a16 a17 a18 = some o) : impl_NodeOk w (a0, a1, a2, a3, a4, a5, a6, a7, a8, a9, a10, a11, a12, a13, a14, a15, a16, a17, a18) = some o := ap_close _ _ (impl_NodeOk_raw_eq w wl a0 a1 a2 a3 a4 a5 a6 a7 a8 a9 a10 a11 a12 a13 a14 a15 a16 a17 a18) h
noncomputable def impl_StateBytes_l0 (D : DFun E) (L : LFun E) (y0 : List XItem) (y1 : Int) (y2 : Int) (y3 : List XItem) (y4 : List XFloor) (y5 : List Int) : Option ((((List XItem) × (List XFloor) × (List Int)))) :=
 bif (decide (y2 < y1)) then (bif inb y2 (List.length y0) then
 let e3 := (rd1 zItem y0 y2)
 Option.bind (impl_PutNum D e3.1) fun r4 =>
 Option.bind (impl_PutNum D e3.2.1) fun r5 =>
 Option.bind (impl_PutNum D e3.2.2.1) fun r6 =>
 Option.bind (impl_PutNum D e3.2.2.2.1) fun r7 =>
 Option.bind (impl_PutNum D e3.2.2.2.2.1) fun r8 =>
 Option.bind (impl_PutText D e3.2.2.2.2.2) fun r9 =>
 Option.bind (impl_joined D [y5, r4, r5, r6, r7, r8, r9]) fun r10 =>
 impl_StateBytes_k0 L (y0, y1, (IntKind.wrap .i64 (y2 + 1)), y3, y4, r10) else none)
 else (some (y3, y4, y5))
theorem impl_StateBytes_l0_eq (D : DFun E) (L : LFun E) (y0 : List XItem) (y1 : Int) (y2 : Int) (y3 : List XItem) (y4 : List XFloor) (y5 : List Int) : impl_StateBytes_k0 (stepL E D L) (y0, y1, y2, y3, y4, y5) = impl_StateBytes_l0 D L y0 y1 y2 y3 y4 y5 := by kernel_rfl
theorem impl_StateBytes_l0_of (y0 : List XItem) (y1 : Int) (y2 : Int) (y3 : List XItem) (y4 : List XFloor) (y5 : List Int) {o : (((List XItem) × (List XFloor) × (List Int)))} (h : impl_StateBytes_l0 w wl y0 y1 y2 y3 y4 y5 = some o) : impl_StateBytes_k0 wl (y0, y1, y2, y3, y4, y5) = some o := apL_close _ _ (impl_StateBytes_l0_eq w wl y0 y1 y2 y3 y4 y5) h
noncomputable def impl_StateBytes_l2 (D : DFun E) (L : LFun E) (y0 : List XFloor) (y1 : Int) (y2 : Int) (y3 : List Int) : Option ((List Int)) :=
 bif (decide (y2 < y1)) then (bif inb y2 (List.length y0) then
 let e14 := (rd1 zFloor y0 y2)
 Option.bind (impl_PutNum D e14.1) fun r15 =>
 Option.bind (impl_PutNum D e14.2) fun r16 =>
 Option.bind (impl_joined D [y3, r15, r16]) fun r17 =>
 impl_StateBytes_k2 L (y0, y1, (IntKind.wrap .i64 (y2 + 1)), r17) else none)
 else (some y3)
theorem impl_StateBytes_l2_eq (D : DFun E) (L : LFun E) (y0 : List XFloor) (y1 : Int) (y2 : Int) (y3 : List Int) : impl_StateBytes_k2 (stepL E D L) (y0, y1, y2, y3) = impl_StateBytes_l2 D L y0 y1 y2 y3 := by kernel_rfl
theorem impl_StateBytes_l2_of (y0 : List XFloor) (y1 : Int) (y2 : Int) (y3 : List Int) {o : (List Int)} (h : impl_StateBytes_l2 w wl y0 y1 y2 y3 = some o) : impl_StateBytes_k2 wl (y0, y1, y2, y3) = some o := apL_close _ _ (impl_StateBytes_l2_eq w wl y0 y1 y2 y3) h
noncomputable def impl_StateBytes_raw (D : DFun E) (L : LFun E) (a0 : List XItem) (a1 : List XFloor) : Option (List Int) :=
 Option.bind (impl_StateOk D (a0, a1)) fun r1 =>
 bif (!r1) then (some [])
 else (Option.bind (impl_PutNum D (((List.length a0) : Nat) : Int)) fun r2 =>
 Option.bind (impl_StateBytes_k0 L (a0, (((List.length a0) : Nat) : Int), 0, a0, a1, r2)) fun z11 =>
 Option.bind (impl_PutNum D (((List.length z11.2.1) : Nat) : Int)) fun r12 =>
 Option.bind (impl_joined D [z11.2.2, r12]) fun r13 =>
 Option.bind (impl_StateBytes_k2 L (z11.2.1, (((List.length z11.2.1) : Nat) : Int), 0, r13)) fun z18 =>
 some z18)
theorem impl_StateBytes_raw_eq (D : DFun E) (L : LFun E) (a0 : List XItem) (a1 : List XFloor) : impl_StateBytes (stepD E D L) (a0, a1) = impl_StateBytes_raw D L a0 a1 := by kernel_rfl
theorem impl_StateBytes_of (a0 : List XItem) (a1 : List XFloor) {o : List Int} (h : impl_StateBytes_raw w wl a0 a1 = some o) : impl_StateBytes w (a0, a1) = some o := ap_close _ _ (impl_StateBytes_raw_eq w wl a0 a1) h
noncomputable def laws_eqLog_raw (D : DFun E) (L : LFun E) (a0 : Int) (a1 : Int) (a2 : List XState) (a3 : Int) (a4 : Int) (a5 : List XState) : Option (Bool) :=
 bif (!decide (a0 = a3)) then (some false)
 else (bif (!decide (a1 = a4)) then (some false)
 else (Option.bind (laws_eqStateS D (a2, a5)) fun r1 =>
 bif (!r1) then (some false)
 else (some true)))
theorem laws_eqLog_raw_eq (D : DFun E) (L : LFun E) (a0 : Int) (a1 : Int) (a2 : List XState) (a3 : Int) (a4 : Int) (a5 : List XState) : laws_eqLog (stepD E D L) (a0, a1, a2, a3, a4, a5) = laws_eqLog_raw D L a0 a1 a2 a3 a4 a5 := by kernel_rfl
theorem laws_eqLog_of (a0 : Int) (a1 : Int) (a2 : List XState) (a3 : Int) (a4 : Int) (a5 : List XState) {o : Bool} (h : laws_eqLog_raw w wl a0 a1 a2 a3 a4 a5 = some o) : laws_eqLog w (a0, a1, a2, a3, a4, a5) = some o := ap_close _ _ (laws_eqLog_raw_eq w wl a0 a1 a2 a3 a4 a5) h
noncomputable def laws_eqIntSS_l0 (D : DFun E) (L : LFun E) (y0 : List (List Int)) (y1 : List (List Int)) (y2 : Int) : Option (Bool ⊕ Unit) :=
 bif (decide (y2 < (((List.length y0) : Nat) : Int))) then (bif inb y2 (List.length y0) then
 bif inb y2 (List.length y1) then
 Option.bind (laws_eqIntS D ((rd1 ([] : List Int) y0 y2), (rd1 ([] : List Int) y1 y2))) fun r1 =>
 bif (!r1) then (some (Sum.inl false))
 else (laws_eqIntSS_k0 L (y0, y1, (IntKind.wrap .i64 (y2 + 1)))) else none else none)
 else (some (Sum.inr ()))
theorem laws_eqIntSS_l0_eq (D : DFun E) (L : LFun E) (y0 : List (List Int)) (y1 : List (List Int)) (y2 : Int) : laws_eqIntSS_k0 (stepL E D L) (y0, y1, y2) = laws_eqIntSS_l0 D L y0 y1 y2 := by kernel_rfl
theorem laws_eqIntSS_l0_of (y0 : List (List Int)) (y1 : List (List Int)) (y2 : Int) {o : Bool ⊕ Unit} (h : laws_eqIntSS_l0 w wl y0 y1 y2 = some o) : laws_eqIntSS_k0 wl (y0, y1, y2) = some o := apL_close _ _ (laws_eqIntSS_l0_eq w wl y0 y1 y2) h
noncomputable def laws_eqIntSS_raw (D : DFun E) (L : LFun E) (a0 : List (List Int)) (a1 : List (List Int)) : Option (Bool) :=
 bif (!decide ((((List.length a0) : Nat) : Int) = (((List.length a1) : Nat) : Int))) then (some false)
 else (Option.bind (laws_eqIntSS_k0 L (a0, a1, 0)) fun z2 =>
 elimS z2 (fun u3 =>
 some u3)
 (fun z4 =>
 some true))
theorem laws_eqIntSS_raw_eq (D : DFun E) (L : LFun E) (a0 : List (List Int)) (a1 : List (List Int)) : laws_eqIntSS (stepD E D L) (a0, a1) = laws_eqIntSS_raw D L a0 a1 := by kernel_rfl
theorem laws_eqIntSS_of (a0 : List (List Int)) (a1 : List (List Int)) {o : Bool} (h : laws_eqIntSS_raw w wl a0 a1 = some o) : laws_eqIntSS w (a0, a1) = some o := ap_close _ _ (laws_eqIntSS_raw_eq w wl a0 a1) h
noncomputable def laws_eqSessS_l0 (D : DFun E) (L : LFun E) (y0 : List XSess) (y1 : List XSess) (y2 : Int) : Option (Bool ⊕ Unit) :=
 bif (decide (y2 < (((List.length y0) : Nat) : Int))) then (bif inb y2 (List.length y0) then
 let e1 := (rd1 zSess y0 y2)
 bif inb y2 (List.length y1) then
 let e2 := (rd1 zSess y1 y2)
 Option.bind (laws_eqSess D (e1.1, e1.2.1, e1.2.2.1, e1.2.2.2, e2.1, e2.2.1, e2.2.2.1, e2.2.2.2)) fun r3 =>
 bif (!r3) then (some (Sum.inl false))
 else (laws_eqSessS_k0 L (y0, y1, (IntKind.wrap .i64 (y2 + 1)))) else none else none)
 else (some (Sum.inr ()))
theorem laws_eqSessS_l0_eq (D : DFun E) (L : LFun E) (y0 : List XSess) (y1 : List XSess) (y2 : Int) : laws_eqSessS_k0 (stepL E D L) (y0, y1, y2) = laws_eqSessS_l0 D L y0 y1 y2 := by kernel_rfl
theorem laws_eqSessS_l0_of (y0 : List XSess) (y1 : List XSess) (y2 : Int) {o : Bool ⊕ Unit} (h : laws_eqSessS_l0 w wl y0 y1 y2 = some o) : laws_eqSessS_k0 wl (y0, y1, y2) = some o := apL_close _ _ (laws_eqSessS_l0_eq w wl y0 y1 y2) h
noncomputable def laws_eqSessS_raw (D : DFun E) (L : LFun E) (a0 : List XSess) (a1 : List XSess) : Option (Bool) :=
 bif (!decide ((((List.length a0) : Nat) : Int) = (((List.length a1) : Nat) : Int))) then (some false)
 else (Option.bind (laws_eqSessS_k0 L (a0, a1, 0)) fun z4 =>
 elimS z4 (fun u5 =>
 some u5)
 (fun z6 =>
 some true))
theorem laws_eqSessS_raw_eq (D : DFun E) (L : LFun E) (a0 : List XSess) (a1 : List XSess) : laws_eqSessS (stepD E D L) (a0, a1) = laws_eqSessS_raw D L a0 a1 := by kernel_rfl
theorem laws_eqSessS_of (a0 : List XSess) (a1 : List XSess) {o : Bool} (h : laws_eqSessS_raw w wl a0 a1 = some o) : laws_eqSessS w (a0, a1) = some o := ap_close _ _ (laws_eqSessS_raw_eq w wl a0 a1) h
noncomputable def laws_eqRiseS_l0 (D : DFun E) (L : LFun E) (y0 : List XRise) (y1 : List XRise) (y2 : Int) : Option (Bool ⊕ Unit) :=
 bif (decide (y2 < (((List.length y0) : Nat) : Int))) then (bif inb y2 (List.length y0) then
 let e1 := (rd1 zRise y0 y2)
 bif inb y2 (List.length y1) then
 let e2 := (rd1 zRise y1 y2)
 Option.bind (laws_eqRise D (e1.1, e1.2.1, e1.2.2, e2.1, e2.2.1, e2.2.2)) fun r3 =>
 bif (!r3) then (some (Sum.inl false))
 else (laws_eqRiseS_k0 L (y0, y1, (IntKind.wrap .i64 (y2 + 1)))) else none else none)
 else (some (Sum.inr ()))
theorem laws_eqRiseS_l0_eq (D : DFun E) (L : LFun E) (y0 : List XRise) (y1 : List XRise) (y2 : Int) : laws_eqRiseS_k0 (stepL E D L) (y0, y1, y2) = laws_eqRiseS_l0 D L y0 y1 y2 := by kernel_rfl
theorem laws_eqRiseS_l0_of (y0 : List XRise) (y1 : List XRise) (y2 : Int) {o : Bool ⊕ Unit} (h : laws_eqRiseS_l0 w wl y0 y1 y2 = some o) : laws_eqRiseS_k0 wl (y0, y1, y2) = some o := apL_close _ _ (laws_eqRiseS_l0_eq w wl y0 y1 y2) h
noncomputable def laws_eqRiseS_raw (D : DFun E) (L : LFun E) (a0 : List XRise) (a1 : List XRise) : Option (Bool) :=
 bif (!decide ((((List.length a0) : Nat) : Int) = (((List.length a1) : Nat) : Int))) then (some false)
 else (Option.bind (laws_eqRiseS_k0 L (a0, a1, 0)) fun z4 =>
 elimS z4 (fun u5 =>
 some u5)
 (fun z6 =>
 some true))
theorem laws_eqRiseS_raw_eq (D : DFun E) (L : LFun E) (a0 : List XRise) (a1 : List XRise) : laws_eqRiseS (stepD E D L) (a0, a1) = laws_eqRiseS_raw D L a0 a1 := by kernel_rfl
theorem laws_eqRiseS_of (a0 : List XRise) (a1 : List XRise) {o : Bool} (h : laws_eqRiseS_raw w wl a0 a1 = some o) : laws_eqRiseS w (a0, a1) = some o := ap_close _ _ (laws_eqRiseS_raw_eq w wl a0 a1) h
noncomputable def spec_LogSeq_raw (D : DFun E) (L : LFun E) (a0 : Int) (a1 : Int) (a2 : List XState) : Option (Int) :=
 Option.bind (spec_LogOk D (a0, a1, a2)) fun r1 =>
 bif (!r1) then (some 0)
 else (some (IntKind.wrap .i64 (a1 + (((List.length a2) : Nat) : Int))))
theorem spec_LogSeq_raw_eq (D : DFun E) (L : LFun E) (a0 : Int) (a1 : Int) (a2 : List XState) : spec_LogSeq (stepD E D L) (a0, a1, a2) = spec_LogSeq_raw D L a0 a1 a2 := by kernel_rfl
theorem spec_LogSeq_of (a0 : Int) (a1 : Int) (a2 : List XState) {o : Int} (h : spec_LogSeq_raw w wl a0 a1 a2 = some o) : spec_LogSeq w (a0, a1, a2) = some o := ap_close _ _ (spec_LogSeq_raw_eq w wl a0 a1 a2) h
noncomputable def spec_l1Min_raw (D : DFun E) (L : LFun E) (a0 : Int) (a1 : Int) : Option (Int) :=
 bif (decide (a0 < a1)) then (some a0)
 else (some a1)
theorem spec_l1Min_raw_eq (D : DFun E) (L : LFun E) (a0 : Int) (a1 : Int) : spec_l1Min (stepD E D L) (a0, a1) = spec_l1Min_raw D L a0 a1 := by kernel_rfl
theorem spec_l1Min_of (a0 : Int) (a1 : Int) {o : Int} (h : spec_l1Min_raw w wl a0 a1 = some o) : spec_l1Min w (a0, a1) = some o := ap_close _ _ (spec_l1Min_raw_eq w wl a0 a1) h
noncomputable def impl_LogSeq_raw (D : DFun E) (L : LFun E) (a0 : Int) (a1 : Int) (a2 : List XState) : Option (Int) :=
 Option.bind (impl_LogOk D (a0, a1, a2)) fun r1 =>
 bif (!r1) then (some 0)
 else (some (IntKind.wrap .i64 (a1 + (((List.length a2) : Nat) : Int))))
theorem impl_LogSeq_raw_eq (D : DFun E) (L : LFun E) (a0 : Int) (a1 : Int) (a2 : List XState) : impl_LogSeq (stepD E D L) (a0, a1, a2) = impl_LogSeq_raw D L a0 a1 a2 := by kernel_rfl
theorem impl_LogSeq_of (a0 : Int) (a1 : Int) (a2 : List XState) {o : Int} (h : impl_LogSeq_raw w wl a0 a1 a2 = some o) : impl_LogSeq w (a0, a1, a2) = some o := ap_close _ _ (impl_LogSeq_raw_eq w wl a0 a1 a2) h
noncomputable def slices_Indexint_int_l0 (D : DFun E) (L : LFun E) (y0 : List Int) (y1 : Int) (y2 : Int) (y3 : Int) : Option (Int ⊕ Unit) :=
 bif (decide (y3 < y2)) then (bif inb y3 (List.length y0) then
 bif (decide (y1 = (rd1 (0 : Int) y0 y3))) then (some (Sum.inl y3))
 else (slices_Indexint_int_k0 L (y0, y1, y2, (IntKind.wrap .i64 (y3 + 1)))) else none)
 else (some (Sum.inr ()))
theorem slices_Indexint_int_l0_eq (D : DFun E) (L : LFun E) (y0 : List Int) (y1 : Int) (y2 : Int) (y3 : Int) : slices_Indexint_int_k0 (stepL E D L) (y0, y1, y2, y3) = slices_Indexint_int_l0 D L y0 y1 y2 y3 := by kernel_rfl
theorem slices_Indexint_int_l0_of (y0 : List Int) (y1 : Int) (y2 : Int) (y3 : Int) {o : Int ⊕ Unit} (h : slices_Indexint_int_l0 w wl y0 y1 y2 y3 = some o) : slices_Indexint_int_k0 wl (y0, y1, y2, y3) = some o := apL_close _ _ (slices_Indexint_int_l0_eq w wl y0 y1 y2 y3) h
noncomputable def slices_Indexint_int_raw (D : DFun E) (L : LFun E) (a0 : List Int) (a1 : Int) : Option (Int) :=
 Option.bind (slices_Indexint_int_k0 L (a0, a1, (((List.length a0) : Nat) : Int), 0)) fun z1 =>
 elimS z1 (fun u2 =>
 some u2)
 (fun z3 =>
 some (-1))
theorem slices_Indexint_int_raw_eq (D : DFun E) (L : LFun E) (a0 : List Int) (a1 : Int) : slices_Indexint_int (stepD E D L) (a0, a1) = slices_Indexint_int_raw D L a0 a1 := by kernel_rfl
theorem slices_Indexint_int_of (a0 : List Int) (a1 : Int) {o : Int} (h : slices_Indexint_int_raw w wl a0 a1 = some o) : slices_Indexint_int w (a0, a1) = some o := ap_close _ _ (slices_Indexint_int_raw_eq w wl a0 a1) h
noncomputable def laws_szItemS_l0 (D : DFun E) (L : LFun E) (y0 : List XItem) (y1 : Int) (y2 : Int) : Option (Int ⊕ Int) :=
 bif (decide (y2 < (((List.length y0) : Nat) : Int))) then (bif inb y2 (List.length y0) then
 let e1 := (rd1 zItem y0 y2)
 Option.bind (laws_szItem D (e1.1, e1.2.1, e1.2.2.1, e1.2.2.2.1, e1.2.2.2.2.1, e1.2.2.2.2.2, y1)) fun r2 =>
 bif (decide (r2 < 0)) then (some (Sum.inl (-1)))
 else (laws_szItemS_k0 L (y0, r2, (IntKind.wrap .i64 (y2 + 1)))) else none)
 else (some (Sum.inr y1))
theorem laws_szItemS_l0_eq (D : DFun E) (L : LFun E) (y0 : List XItem) (y1 : Int) (y2 : Int) : laws_szItemS_k0 (stepL E D L) (y0, y1, y2) = laws_szItemS_l0 D L y0 y1 y2 := by kernel_rfl
theorem laws_szItemS_l0_of (y0 : List XItem) (y1 : Int) (y2 : Int) {o : Int ⊕ Int} (h : laws_szItemS_l0 w wl y0 y1 y2 = some o) : laws_szItemS_k0 wl (y0, y1, y2) = some o := apL_close _ _ (laws_szItemS_l0_eq w wl y0 y1 y2) h
noncomputable def laws_szItemS_raw (D : DFun E) (L : LFun E) (a0 : List XItem) (a1 : Int) : Option (Int) :=
 bif (decide ((IntKind.wrap .i64 (a1 - (((List.length a0) : Nat) : Int))) < 0)) then (some (-1))
 else (Option.bind (laws_szItemS_k0 L (a0, (IntKind.wrap .i64 (a1 - (((List.length a0) : Nat) : Int))), 0)) fun z3 =>
 elimS z3 (fun u4 =>
 some u4)
 (fun z5 =>
 some z5))
theorem laws_szItemS_raw_eq (D : DFun E) (L : LFun E) (a0 : List XItem) (a1 : Int) : laws_szItemS (stepD E D L) (a0, a1) = laws_szItemS_raw D L a0 a1 := by kernel_rfl
theorem laws_szItemS_of (a0 : List XItem) (a1 : Int) {o : Int} (h : laws_szItemS_raw w wl a0 a1 = some o) : laws_szItemS w (a0, a1) = some o := ap_close _ _ (laws_szItemS_raw_eq w wl a0 a1) h
noncomputable def laws_szFloorS_raw (D : DFun E) (L : LFun E) (a0 : List XFloor) (a1 : Int) : Option (Int) :=
 bif (decide ((IntKind.wrap .i64 (a1 - (((List.length a0) : Nat) : Int))) < 0)) then (some (-1))
 else (some (IntKind.wrap .i64 (a1 - (((List.length a0) : Nat) : Int))))
theorem laws_szFloorS_raw_eq (D : DFun E) (L : LFun E) (a0 : List XFloor) (a1 : Int) : laws_szFloorS (stepD E D L) (a0, a1) = laws_szFloorS_raw D L a0 a1 := by kernel_rfl
theorem laws_szFloorS_of (a0 : List XFloor) (a1 : Int) {o : Int} (h : laws_szFloorS_raw w wl a0 a1 = some o) : laws_szFloorS w (a0, a1) = some o := ap_close _ _ (laws_szFloorS_raw_eq w wl a0 a1) h
noncomputable def spec_l3Node_raw (D : DFun E) (L : LFun E) (a0 : Int) : Option (Bool) :=
 Option.bind (spec_l1In D (a0, 0, 4)) fun r1 =>
 some r1
theorem spec_l3Node_raw_eq (D : DFun E) (L : LFun E) (a0 : Int) : spec_l3Node (stepD E D L) a0 = spec_l3Node_raw D L a0 := by kernel_rfl
theorem spec_l3Node_of (a0 : Int) {o : Bool} (h : spec_l3Node_raw w wl a0 = some o) : spec_l3Node w a0 = some o := ap_close _ _ (spec_l3Node_raw_eq w wl a0) h
noncomputable def spec_EntryOk_raw (D : DFun E) (L : LFun E) (a0 : Int) (a1 : Int) (a2 : Int) (a3 : Int) (a4 : ByteArray) : Option (Bool) :=
 Option.bind (spec_l1In D (a0, 1, 1000)) fun r1 =>
 bif r1 then (Option.bind (spec_l1In D (a1, 0, 1)) fun r2 =>
 bif r2 then (Option.bind (spec_l1In D (a2, 0, 100000)) fun r3 =>
 bif r3 then (Option.bind (spec_l1In D (a3, 0, 1000)) fun r4 =>
 bif r4 then (some (decide ((((ByteArray.size a4) : Nat) : Int) ≤ 8)))
 else (some false))
 else (some false))
 else (some false))
 else (some false)
theorem spec_EntryOk_raw_eq (D : DFun E) (L : LFun E) (a0 : Int) (a1 : Int) (a2 : Int) (a3 : Int) (a4 : ByteArray) : spec_EntryOk (stepD E D L) (a0, a1, a2, a3, a4) = spec_EntryOk_raw D L a0 a1 a2 a3 a4 := by kernel_rfl
theorem spec_EntryOk_of (a0 : Int) (a1 : Int) (a2 : Int) (a3 : Int) (a4 : ByteArray) {o : Bool} (h : spec_EntryOk_raw w wl a0 a1 a2 a3 a4 = some o) : spec_EntryOk w (a0, a1, a2, a3, a4) = some o := ap_close _ _ (spec_EntryOk_raw_eq w wl a0 a1 a2 a3 a4) h
noncomputable def spec_FloorOf_l0 (D : DFun E) (L : LFun E) (y0 : Int) (y1 : Int) (y2 : List XItem) (y3 : List XFloor) : Option (Int ⊕ Unit) :=
 bif (decide (y1 < (((List.length y3) : Nat) : Int))) then (bif inb y1 (List.length y3) then
 let e1 := (rd1 zFloor y3 y1)
 bif (decide (e1.1 = y0)) then (bif inb y1 (List.length y3) then
 let e2 := (rd1 zFloor y3 y1)
 some (Sum.inl e2.2) else none)
 else (spec_FloorOf_k0 L (y0, (IntKind.wrap .i64 (y1 + 1)), y2, y3)) else none)
 else (some (Sum.inr ()))
theorem spec_FloorOf_l0_eq (D : DFun E) (L : LFun E) (y0 : Int) (y1 : Int) (y2 : List XItem) (y3 : List XFloor) : spec_FloorOf_k0 (stepL E D L) (y0, y1, y2, y3) = spec_FloorOf_l0 D L y0 y1 y2 y3 := by kernel_rfl
theorem spec_FloorOf_l0_of (y0 : Int) (y1 : Int) (y2 : List XItem) (y3 : List XFloor) {o : Int ⊕ Unit} (h : spec_FloorOf_l0 w wl y0 y1 y2 y3 = some o) : spec_FloorOf_k0 wl (y0, y1, y2, y3) = some o := apL_close _ _ (spec_FloorOf_l0_eq w wl y0 y1 y2 y3) h
noncomputable def spec_FloorOf_raw (D : DFun E) (L : LFun E) (a0 : List XItem) (a1 : List XFloor) (a2 : Int) : Option (Int) :=
 Option.bind (spec_FloorOf_k0 L (a2, 0, a0, a1)) fun z3 =>
 elimS z3 (fun u4 =>
 some u4)
 (fun z5 =>
 some 0)
theorem spec_FloorOf_raw_eq (D : DFun E) (L : LFun E) (a0 : List XItem) (a1 : List XFloor) (a2 : Int) : spec_FloorOf (stepD E D L) (a0, a1, a2) = spec_FloorOf_raw D L a0 a1 a2 := by kernel_rfl
theorem spec_FloorOf_of (a0 : List XItem) (a1 : List XFloor) (a2 : Int) {o : Int} (h : spec_FloorOf_raw w wl a0 a1 a2 = some o) : spec_FloorOf w (a0, a1, a2) = some o := ap_close _ _ (spec_FloorOf_raw_eq w wl a0 a1 a2) h
noncomputable def laws_toItemS_l0 (D : DFun E) (L : LFun E) (y0 : List XItem) (y1 : Int) (y2 : List XItem) : Option ((List XItem)) :=
 bif (decide (y1 < (((List.length y0) : Nat) : Int))) then (bif inb y1 (List.length y0) then
 let e1 := (rd1 zItem y0 y1)
 Option.bind (laws_toItem D (e1.1, e1.2.1, e1.2.2.1, e1.2.2.2.1, e1.2.2.2.2.1, e1.2.2.2.2.2)) fun r2 =>
 bif inb y1 (List.length y2) then
 let l3 := List.set y2 (Int.toNat y1) (r2.1, r2.2.1, r2.2.2.1, r2.2.2.2.1, r2.2.2.2.2.1, r2.2.2.2.2.2)
 laws_toItemS_k0 L (y0, (IntKind.wrap .i64 (y1 + 1)), l3) else none else none)
 else (some y2)
theorem laws_toItemS_l0_eq (D : DFun E) (L : LFun E) (y0 : List XItem) (y1 : Int) (y2 : List XItem) : laws_toItemS_k0 (stepL E D L) (y0, y1, y2) = laws_toItemS_l0 D L y0 y1 y2 := by kernel_rfl
theorem laws_toItemS_l0_of (y0 : List XItem) (y1 : Int) (y2 : List XItem) {o : (List XItem)} (h : laws_toItemS_l0 w wl y0 y1 y2 = some o) : laws_toItemS_k0 wl (y0, y1, y2) = some o := apL_close _ _ (laws_toItemS_l0_eq w wl y0 y1 y2) h
noncomputable def laws_toItemS_raw (D : DFun E) (L : LFun E) (a0 : List XItem) : Option (List XItem) :=
 bif (decide ((0 : Int) ≤ (((List.length a0) : Nat) : Int) ∧ ((((List.length a0) : Nat) : Int) : Int) = (((List.length a0) : Nat) : Int)) && fits (Int.toNat (((List.length a0) : Nat) : Int)) 56) then
 Option.bind (laws_toItemS_k0 L (a0, 0, (List.replicate (Int.toNat (((List.length a0) : Nat) : Int)) (0, 0, 0, 0, 0, ByteArray.empty)))) fun z4 =>
 some z4 else none
theorem laws_toItemS_raw_eq (D : DFun E) (L : LFun E) (a0 : List XItem) : laws_toItemS (stepD E D L) a0 = laws_toItemS_raw D L a0 := by kernel_rfl
theorem laws_toItemS_of (a0 : List XItem) {o : List XItem} (h : laws_toItemS_raw w wl a0 = some o) : laws_toItemS w a0 = some o := ap_close _ _ (laws_toItemS_raw_eq w wl a0) h
noncomputable def laws_toFloorS_l0 (D : DFun E) (L : LFun E) (y0 : List XFloor) (y1 : Int) (y2 : List XFloor) : Option ((List XFloor)) :=
 bif (decide (y1 < (((List.length y0) : Nat) : Int))) then (bif inb y1 (List.length y0) then
 let e1 := (rd1 zFloor y0 y1)
 Option.bind (laws_toFloor D (e1.1, e1.2)) fun r2 =>
 bif inb y1 (List.length y2) then
 let l3 := List.set y2 (Int.toNat y1) (r2.1, r2.2)
 laws_toFloorS_k0 L (y0, (IntKind.wrap .i64 (y1 + 1)), l3) else none else none)
 else (some y2)
theorem laws_toFloorS_l0_eq (D : DFun E) (L : LFun E) (y0 : List XFloor) (y1 : Int) (y2 : List XFloor) : laws_toFloorS_k0 (stepL E D L) (y0, y1, y2) = laws_toFloorS_l0 D L y0 y1 y2 := by kernel_rfl
theorem laws_toFloorS_l0_of (y0 : List XFloor) (y1 : Int) (y2 : List XFloor) {o : (List XFloor)} (h : laws_toFloorS_l0 w wl y0 y1 y2 = some o) : laws_toFloorS_k0 wl (y0, y1, y2) = some o := apL_close _ _ (laws_toFloorS_l0_eq w wl y0 y1 y2) h
noncomputable def laws_toFloorS_raw (D : DFun E) (L : LFun E) (a0 : List XFloor) : Option (List XFloor) :=
 bif (decide ((0 : Int) ≤ (((List.length a0) : Nat) : Int) ∧ ((((List.length a0) : Nat) : Int) : Int) = (((List.length a0) : Nat) : Int)) && fits (Int.toNat (((List.length a0) : Nat) : Int)) 16) then
 Option.bind (laws_toFloorS_k0 L (a0, 0, (List.replicate (Int.toNat (((List.length a0) : Nat) : Int)) (0, 0)))) fun z4 =>
 some z4 else none
theorem laws_toFloorS_raw_eq (D : DFun E) (L : LFun E) (a0 : List XFloor) : laws_toFloorS (stepD E D L) a0 = laws_toFloorS_raw D L a0 := by kernel_rfl
theorem laws_toFloorS_of (a0 : List XFloor) {o : List XFloor} (h : laws_toFloorS_raw w wl a0 = some o) : laws_toFloorS w a0 = some o := ap_close _ _ (laws_toFloorS_raw_eq w wl a0) h
noncomputable def impl_isNode_raw (D : DFun E) (L : LFun E) (a0 : Int) : Option (Bool) :=
 Option.bind (impl_within D (a0, 0, 4)) fun r1 =>
 some r1
theorem impl_isNode_raw_eq (D : DFun E) (L : LFun E) (a0 : Int) : impl_isNode (stepD E D L) a0 = impl_isNode_raw D L a0 := by kernel_rfl
theorem impl_isNode_of (a0 : Int) {o : Bool} (h : impl_isNode_raw w wl a0 = some o) : impl_isNode w a0 = some o := ap_close _ _ (impl_isNode_raw_eq w wl a0) h
noncomputable def impl_EntryOk_raw (D : DFun E) (L : LFun E) (a0 : Int) (a1 : Int) (a2 : Int) (a3 : Int) (a4 : ByteArray) : Option (Bool) :=
 Option.bind (impl_within D (a0, 1, 1000)) fun r1 =>
 bif r1 then (Option.bind (impl_within D (a1, 0, 1)) fun r2 =>
 bif r2 then (Option.bind (impl_within D (a2, 0, 100000)) fun r3 =>
 bif r3 then (Option.bind (impl_within D (a3, 0, 1000)) fun r4 =>
 bif r4 then (some (decide ((((ByteArray.size a4) : Nat) : Int) ≤ 8)))
 else (some false))
 else (some false))
 else (some false))
 else (some false)
theorem impl_EntryOk_raw_eq (D : DFun E) (L : LFun E) (a0 : Int) (a1 : Int) (a2 : Int) (a3 : Int) (a4 : ByteArray) : impl_EntryOk (stepD E D L) (a0, a1, a2, a3, a4) = impl_EntryOk_raw D L a0 a1 a2 a3 a4 := by kernel_rfl
theorem impl_EntryOk_of (a0 : Int) (a1 : Int) (a2 : Int) (a3 : Int) (a4 : ByteArray) {o : Bool} (h : impl_EntryOk_raw w wl a0 a1 a2 a3 a4 = some o) : impl_EntryOk w (a0, a1, a2, a3, a4) = some o := ap_close _ _ (impl_EntryOk_raw_eq w wl a0 a1 a2 a3 a4) h
noncomputable def impl_FloorOf_l0 (D : DFun E) (L : LFun E) (y0 : Int) (y1 : List XFloor) (y2 : Int) (y3 : Int) : Option (Int ⊕ Unit) :=
 bif (decide (y3 < y2)) then (bif inb y3 (List.length y1) then
 let e1 := (rd1 zFloor y1 y3)
 bif (decide (e1.1 = y0)) then (some (Sum.inl e1.2))
 else (impl_FloorOf_k0 L (y0, y1, y2, (IntKind.wrap .i64 (y3 + 1)))) else none)
 else (some (Sum.inr ()))
theorem impl_FloorOf_l0_eq (D : DFun E) (L : LFun E) (y0 : Int) (y1 : List XFloor) (y2 : Int) (y3 : Int) : impl_FloorOf_k0 (stepL E D L) (y0, y1, y2, y3) = impl_FloorOf_l0 D L y0 y1 y2 y3 := by kernel_rfl
theorem impl_FloorOf_l0_of (y0 : Int) (y1 : List XFloor) (y2 : Int) (y3 : Int) {o : Int ⊕ Unit} (h : impl_FloorOf_l0 w wl y0 y1 y2 y3 = some o) : impl_FloorOf_k0 wl (y0, y1, y2, y3) = some o := apL_close _ _ (impl_FloorOf_l0_eq w wl y0 y1 y2 y3) h
noncomputable def impl_FloorOf_raw (D : DFun E) (L : LFun E) (a0 : List XItem) (a1 : List XFloor) (a2 : Int) : Option (Int) :=
 Option.bind (impl_FloorOf_k0 L (a2, a1, (((List.length a1) : Nat) : Int), 0)) fun z2 =>
 elimS z2 (fun u3 =>
 some u3)
 (fun z4 =>
 some 0)
theorem impl_FloorOf_raw_eq (D : DFun E) (L : LFun E) (a0 : List XItem) (a1 : List XFloor) (a2 : Int) : impl_FloorOf (stepD E D L) (a0, a1, a2) = impl_FloorOf_raw D L a0 a1 a2 := by kernel_rfl
theorem impl_FloorOf_of (a0 : List XItem) (a1 : List XFloor) (a2 : Int) {o : Int} (h : impl_FloorOf_raw w wl a0 a1 a2 = some o) : impl_FloorOf w (a0, a1, a2) = some o := ap_close _ _ (impl_FloorOf_raw_eq w wl a0 a1 a2) h
end Go.Proofs.Ytgkobeililjgbaa.M
