/- Plain forms of the functions that FnExactPlain reaches, part 2. No conditions. -/
import Derived.Test.YtgkobeililjgbaaFnExactPlainTab
namespace Go.Proofs.Ytgkobeililjgbaa.M
open Go Go.Eng Go.Proofs
set_option linter.unusedVariables false
noncomputable def impl_EntryCmp_raw (D : DFun E) (L : LFun E) (a0 : Int) (a1 : Int) (a2 : Int) (a3 : Int) (a4 : ByteArray) (a5 : Int) (a6 : Int) (a7 : Int) (a8 : Int) (a9 : ByteArray) : Option (Int) :=
 Option.bind (cmp_Compare D (a0, a5)) fun r1 =>
 Option.bind (cmp_Compare D (a1, a6)) fun r2 =>
 Option.bind (cmp_Compare D (a2, a7)) fun r3 =>
 Option.bind (cmp_Compare D (a3, a8)) fun r4 =>
 Option.bind (strings_Compare D (a4, a9)) fun r5 =>
 Option.bind (cmp_Or D [r1, r2, r3, r4, r5]) fun r6 =>
 some r6
theorem impl_EntryCmp_raw_eq (D : DFun E) (L : LFun E) (a0 : Int) (a1 : Int) (a2 : Int) (a3 : Int) (a4 : ByteArray) (a5 : Int) (a6 : Int) (a7 : Int) (a8 : Int) (a9 : ByteArray) : impl_EntryCmp (stepD E D L) (a0, a1, a2, a3, a4, a5, a6, a7, a8, a9) = impl_EntryCmp_raw D L a0 a1 a2 a3 a4 a5 a6 a7 a8 a9 := by kernel_rfl
theorem impl_EntryCmp_of (a0 : Int) (a1 : Int) (a2 : Int) (a3 : Int) (a4 : ByteArray) (a5 : Int) (a6 : Int) (a7 : Int) (a8 : Int) (a9 : ByteArray) {o : Int} (h : impl_EntryCmp_raw w wl a0 a1 a2 a3 a4 a5 a6 a7 a8 a9 = some o) : impl_EntryCmp w (a0, a1, a2, a3, a4, a5, a6, a7, a8, a9) = some o := ap_close _ _ (impl_EntryCmp_raw_eq w wl a0 a1 a2 a3 a4 a5 a6 a7 a8 a9) h
noncomputable def laws_eqEntry_raw (D : DFun E) (L : LFun E) (a0 : Int) (a1 : Int) (a2 : Int) (a3 : Int) (a4 : ByteArray) (a5 : Int) (a6 : Int) (a7 : Int) (a8 : Int) (a9 : ByteArray) : Option (Bool) :=
 bif (!decide (a0 = a5)) then (some false)
 else (bif (!decide (a1 = a6)) then (some false)
 else (bif (!decide (a2 = a7)) then (some false)
 else (bif (!decide (a3 = a8)) then (some false)
 else (bif (!beqS a4 a9) then (some false)
 else (some true)))))
theorem laws_eqEntry_raw_eq (D : DFun E) (L : LFun E) (a0 : Int) (a1 : Int) (a2 : Int) (a3 : Int) (a4 : ByteArray) (a5 : Int) (a6 : Int) (a7 : Int) (a8 : Int) (a9 : ByteArray) : laws_eqEntry (stepD E D L) (a0, a1, a2, a3, a4, a5, a6, a7, a8, a9) = laws_eqEntry_raw D L a0 a1 a2 a3 a4 a5 a6 a7 a8 a9 := by kernel_rfl
theorem laws_eqEntry_of (a0 : Int) (a1 : Int) (a2 : Int) (a3 : Int) (a4 : ByteArray) (a5 : Int) (a6 : Int) (a7 : Int) (a8 : Int) (a9 : ByteArray) {o : Bool} (h : laws_eqEntry_raw w wl a0 a1 a2 a3 a4 a5 a6 a7 a8 a9 = some o) : laws_eqEntry w (a0, a1, a2, a3, a4, a5, a6, a7, a8, a9) = some o := ap_close _ _ (laws_eqEntry_raw_eq w wl a0 a1 a2 a3 a4 a5 a6 a7 a8 a9) h
noncomputable def laws_szItem_raw (D : DFun E) (L : LFun E) (a0 : Int) (a1 : Int) (a2 : Int) (a3 : Int) (a4 : Int) (a5 : ByteArray) (a6 : Int) : Option (Int) :=
 Option.bind (laws_szEntry D (a1, a2, a3, a4, a5, a6)) fun r1 =>
 bif (decide (r1 < 0)) then (some (-1))
 else (some r1)
theorem laws_szItem_raw_eq (D : DFun E) (L : LFun E) (a0 : Int) (a1 : Int) (a2 : Int) (a3 : Int) (a4 : Int) (a5 : ByteArray) (a6 : Int) : laws_szItem (stepD E D L) (a0, a1, a2, a3, a4, a5, a6) = laws_szItem_raw D L a0 a1 a2 a3 a4 a5 a6 := by kernel_rfl
theorem laws_szItem_of (a0 : Int) (a1 : Int) (a2 : Int) (a3 : Int) (a4 : Int) (a5 : ByteArray) (a6 : Int) {o : Int} (h : laws_szItem_raw w wl a0 a1 a2 a3 a4 a5 a6 = some o) : laws_szItem w (a0, a1, a2, a3, a4, a5, a6) = some o := ap_close _ _ (laws_szItem_raw_eq w wl a0 a1 a2 a3 a4 a5 a6) h
noncomputable def laws_toItem_raw (D : DFun E) (L : LFun E) (a0 : Int) (a1 : Int) (a2 : Int) (a3 : Int) (a4 : Int) (a5 : ByteArray) : Option (XItem) :=
 Option.bind (laws_toEntry D (a1, a2, a3, a4, a5)) fun r1 =>
 some (a0, r1.1, r1.2.1, r1.2.2.1, r1.2.2.2.1, r1.2.2.2.2)
theorem laws_toItem_raw_eq (D : DFun E) (L : LFun E) (a0 : Int) (a1 : Int) (a2 : Int) (a3 : Int) (a4 : Int) (a5 : ByteArray) : laws_toItem (stepD E D L) (a0, a1, a2, a3, a4, a5) = laws_toItem_raw D L a0 a1 a2 a3 a4 a5 := by kernel_rfl
theorem laws_toItem_of (a0 : Int) (a1 : Int) (a2 : Int) (a3 : Int) (a4 : Int) (a5 : ByteArray) {o : XItem} (h : laws_toItem_raw w wl a0 a1 a2 a3 a4 a5 = some o) : laws_toItem w (a0, a1, a2, a3, a4, a5) = some o := ap_close _ _ (laws_toItem_raw_eq w wl a0 a1 a2 a3 a4 a5) h
noncomputable def laws_toFloor_raw (D : DFun E) (L : LFun E) (a0 : Int) (a1 : Int) : Option (XFloor) :=
 some (a0, a1)
theorem laws_toFloor_raw_eq (D : DFun E) (L : LFun E) (a0 : Int) (a1 : Int) : laws_toFloor (stepD E D L) (a0, a1) = laws_toFloor_raw D L a0 a1 := by kernel_rfl
theorem laws_toFloor_of (a0 : Int) (a1 : Int) {o : XFloor} (h : laws_toFloor_raw w wl a0 a1 = some o) : laws_toFloor w (a0, a1) = some o := ap_close _ _ (laws_toFloor_raw_eq w wl a0 a1) h
noncomputable def laws_eqFloor_raw (D : DFun E) (L : LFun E) (a0 : Int) (a1 : Int) (a2 : Int) (a3 : Int) : Option (Bool) :=
 bif (!decide (a0 = a2)) then (some false)
 else (bif (!decide (a1 = a3)) then (some false)
 else (some true))
theorem laws_eqFloor_raw_eq (D : DFun E) (L : LFun E) (a0 : Int) (a1 : Int) (a2 : Int) (a3 : Int) : laws_eqFloor (stepD E D L) (a0, a1, a2, a3) = laws_eqFloor_raw D L a0 a1 a2 a3 := by kernel_rfl
theorem laws_eqFloor_of (a0 : Int) (a1 : Int) (a2 : Int) (a3 : Int) {o : Bool} (h : laws_eqFloor_raw w wl a0 a1 a2 a3 = some o) : laws_eqFloor w (a0, a1, a2, a3) = some o := ap_close _ _ (laws_eqFloor_raw_eq w wl a0 a1 a2 a3) h
noncomputable def spec_l2Cmp_raw (D : DFun E) (L : LFun E) (a0 : Int) (a1 : Int) : Option (Int) :=
 bif (decide (a0 < a1)) then (some (-1))
 else (Option.bind (spec_l1Bit D (decide (a1 < a0))) fun r1 =>
 some r1)
theorem spec_l2Cmp_raw_eq (D : DFun E) (L : LFun E) (a0 : Int) (a1 : Int) : spec_l2Cmp (stepD E D L) (a0, a1) = spec_l2Cmp_raw D L a0 a1 := by kernel_rfl
theorem spec_l2Cmp_of (a0 : Int) (a1 : Int) {o : Int} (h : spec_l2Cmp_raw w wl a0 a1 = some o) : spec_l2Cmp w (a0, a1) = some o := ap_close _ _ (spec_l2Cmp_raw_eq w wl a0 a1) h
noncomputable def spec_l1Bit_raw (D : DFun E) (L : LFun E) (a0 : Bool) : Option (Int) :=
 bif a0 then (some 1)
 else (some 0)
theorem spec_l1Bit_raw_eq (D : DFun E) (L : LFun E) (a0 : Bool) : spec_l1Bit (stepD E D L) a0 = spec_l1Bit_raw D L a0 := by kernel_rfl
theorem spec_l1Bit_of (a0 : Bool) {o : Int} (h : spec_l1Bit_raw w wl a0 = some o) : spec_l1Bit w a0 = some o := ap_close _ _ (spec_l1Bit_raw_eq w wl a0) h
noncomputable def cmp_Or_l0 (D : DFun E) (L : LFun E) (y0 : Int) (y1 : List Int) (y2 : Int) (y3 : Int) : Option (Int ⊕ Int) :=
 bif (decide (y3 < y2)) then (bif inb y3 (List.length y1) then
 bif (!decide ((rd1 (0 : Int) y1 y3) = y0)) then (some (Sum.inl (rd1 (0 : Int) y1 y3)))
 else (cmp_Or_k0 L (y0, y1, y2, (IntKind.wrap .i64 (y3 + 1)))) else none)
 else (some (Sum.inr y0))
theorem cmp_Or_l0_eq (D : DFun E) (L : LFun E) (y0 : Int) (y1 : List Int) (y2 : Int) (y3 : Int) : cmp_Or_k0 (stepL E D L) (y0, y1, y2, y3) = cmp_Or_l0 D L y0 y1 y2 y3 := by kernel_rfl
theorem cmp_Or_l0_of (y0 : Int) (y1 : List Int) (y2 : Int) (y3 : Int) {o : Int ⊕ Int} (h : cmp_Or_l0 w wl y0 y1 y2 y3 = some o) : cmp_Or_k0 wl (y0, y1, y2, y3) = some o := apL_close _ _ (cmp_Or_l0_eq w wl y0 y1 y2 y3) h
noncomputable def cmp_Or_raw (D : DFun E) (L : LFun E) (a0 : List Int) : Option (Int) :=
 Option.bind (cmp_Or_k0 L (0, a0, (((List.length a0) : Nat) : Int), 0)) fun z1 =>
 elimS z1 (fun u2 =>
 some u2)
 (fun z3 =>
 some z3)
theorem cmp_Or_raw_eq (D : DFun E) (L : LFun E) (a0 : List Int) : cmp_Or (stepD E D L) a0 = cmp_Or_raw D L a0 := by kernel_rfl
theorem cmp_Or_of (a0 : List Int) {o : Int} (h : cmp_Or_raw w wl a0 = some o) : cmp_Or w a0 = some o := ap_close _ _ (cmp_Or_raw_eq w wl a0) h
noncomputable def cmp_Compare_raw (D : DFun E) (L : LFun E) (a0 : Int) (a1 : Int) : Option (Int) :=
 Option.bind (cmp_isNaN D a0) fun r1 =>
 Option.bind (cmp_isNaN D a1) fun r2 =>
 bif r1 then (bif r2 then (some 0)
 else (some (-1)))
 else (bif r2 then (some 1)
 else (bif (decide (a0 < a1)) then (some (-1))
 else (bif (decide (a1 < a0)) then (some 1)
 else (some 0))))
theorem cmp_Compare_raw_eq (D : DFun E) (L : LFun E) (a0 : Int) (a1 : Int) : cmp_Compare (stepD E D L) (a0, a1) = cmp_Compare_raw D L a0 a1 := by kernel_rfl
theorem cmp_Compare_of (a0 : Int) (a1 : Int) {o : Int} (h : cmp_Compare_raw w wl a0 a1 = some o) : cmp_Compare w (a0, a1) = some o := ap_close _ _ (cmp_Compare_raw_eq w wl a0 a1) h
noncomputable def strings_Compare_raw (D : DFun E) (L : LFun E) (a0 : ByteArray) (a1 : ByteArray) : Option (Int) :=
 Option.bind (internal_bytealg_CompareString D (a0, a1)) fun r1 =>
 some r1
theorem strings_Compare_raw_eq (D : DFun E) (L : LFun E) (a0 : ByteArray) (a1 : ByteArray) : strings_Compare (stepD E D L) (a0, a1) = strings_Compare_raw D L a0 a1 := by kernel_rfl
theorem strings_Compare_of (a0 : ByteArray) (a1 : ByteArray) {o : Int} (h : strings_Compare_raw w wl a0 a1 = some o) : strings_Compare w (a0, a1) = some o := ap_close _ _ (strings_Compare_raw_eq w wl a0 a1) h
noncomputable def laws_szEntry_raw (D : DFun E) (L : LFun E) (a0 : Int) (a1 : Int) (a2 : Int) (a3 : Int) (a4 : ByteArray) (a5 : Int) : Option (Int) :=
 bif (decide ((IntKind.wrap .i64 (a5 - (((ByteArray.size a4) : Nat) : Int))) < 0)) then (some (-1))
 else (some (IntKind.wrap .i64 (a5 - (((ByteArray.size a4) : Nat) : Int))))
theorem laws_szEntry_raw_eq (D : DFun E) (L : LFun E) (a0 : Int) (a1 : Int) (a2 : Int) (a3 : Int) (a4 : ByteArray) (a5 : Int) : laws_szEntry (stepD E D L) (a0, a1, a2, a3, a4, a5) = laws_szEntry_raw D L a0 a1 a2 a3 a4 a5 := by kernel_rfl
theorem laws_szEntry_of (a0 : Int) (a1 : Int) (a2 : Int) (a3 : Int) (a4 : ByteArray) (a5 : Int) {o : Int} (h : laws_szEntry_raw w wl a0 a1 a2 a3 a4 a5 = some o) : laws_szEntry w (a0, a1, a2, a3, a4, a5) = some o := ap_close _ _ (laws_szEntry_raw_eq w wl a0 a1 a2 a3 a4 a5) h
noncomputable def laws_toEntry_raw (D : DFun E) (L : LFun E) (a0 : Int) (a1 : Int) (a2 : Int) (a3 : Int) (a4 : ByteArray) : Option (XEntry) :=
 some (a0, a1, a2, a3, a4)
theorem laws_toEntry_raw_eq (D : DFun E) (L : LFun E) (a0 : Int) (a1 : Int) (a2 : Int) (a3 : Int) (a4 : ByteArray) : laws_toEntry (stepD E D L) (a0, a1, a2, a3, a4) = laws_toEntry_raw D L a0 a1 a2 a3 a4 := by kernel_rfl
theorem laws_toEntry_of (a0 : Int) (a1 : Int) (a2 : Int) (a3 : Int) (a4 : ByteArray) {o : XEntry} (h : laws_toEntry_raw w wl a0 a1 a2 a3 a4 = some o) : laws_toEntry w (a0, a1, a2, a3, a4) = some o := ap_close _ _ (laws_toEntry_raw_eq w wl a0 a1 a2 a3 a4) h
noncomputable def cmp_isNaN_raw (D : DFun E) (L : LFun E) (a0 : Int) : Option (Bool) :=
 some (!decide (a0 = a0))
theorem cmp_isNaN_raw_eq (D : DFun E) (L : LFun E) (a0 : Int) : cmp_isNaN (stepD E D L) a0 = cmp_isNaN_raw D L a0 := by kernel_rfl
theorem cmp_isNaN_of (a0 : Int) {o : Bool} (h : cmp_isNaN_raw w wl a0 = some o) : cmp_isNaN w a0 = some o := ap_close _ _ (cmp_isNaN_raw_eq w wl a0) h
theorem internal_bytealg_CompareString_ext (D : DFun E) (L : LFun E) (a : (ByteArray × ByteArray)) : internal_bytealg_CompareString (stepD E D L) a = cmpX a := by kernel_rfl
theorem internal_bytealg_CompareString_of (a : (ByteArray × ByteArray)) {o : Int} (h : cmpX a = some o) : internal_bytealg_CompareString w a = some o := ap_close _ _ (internal_bytealg_CompareString_ext w wl a) h
end Go.Proofs.Ytgkobeililjgbaa.M
