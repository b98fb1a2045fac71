/- Plain forms of the functions that FnExactTrim reaches, part 0. No conditions. -/
import Derived.Test.YtjenicbpdklpbaaGreatFnExactTrimTab
set_option linter.all false
namespace Go.Proofs.YtjenicbpdklpbaaGreat.M
open Go Go.Eng Go.Proofs
set_option linter.unusedVariables false
noncomputable section
def laws_FnExactTrim_raw : RT XNode Bool := fun D L (a0, a1, a2, a3, a4, a5, a6, a7, a8, a9, a10, a11, a12, a13, a14, a15, a16, a17, a18) =>
 (laws_szNode D (a0, a1, a2, a3, a4, a5, a6, a7, a8, a9, a10, a11, a12, a13, a14, a15, a16, a17, a18, 1048576)).bind fun r1 =>
 bif (decide (r1 < 0)) then (some true)
 else ((laws_toNode D (a0, a1, a2, a3, a4, a5, a6, a7, a8, a9, a10, a11, a12, a13, a14, a15, a16, a17, a18)).bind fun r2 =>
 (spec_Trim D r2).bind fun r3 =>
 (laws_toNode D (a0, a1, a2, a3, a4, a5, a6, a7, a8, a9, a10, a11, a12, a13, a14, a15, a16, a17, a18)).bind fun r4 =>
 (impl_Trim D r4).bind fun r5 =>
 (laws_eqNode D (r5.1, r5.2.1, r5.2.2.1, r5.2.2.2.1, r5.2.2.2.2.1, r5.2.2.2.2.2.1, r5.2.2.2.2.2.2.1, r5.2.2.2.2.2.2.2.1, r5.2.2.2.2.2.2.2.2.1, r5.2.2.2.2.2.2.2.2.2.1, r5.2.2.2.2.2.2.2.2.2.2.1, r5.2.2.2.2.2.2.2.2.2.2.2.1, r5.2.2.2.2.2.2.2.2.2.2.2.2.1, r5.2.2.2.2.2.2.2.2.2.2.2.2.2.1, r5.2.2.2.2.2.2.2.2.2.2.2.2.2.2.1, r5.2.2.2.2.2.2.2.2.2.2.2.2.2.2.2.1, r5.2.2.2.2.2.2.2.2.2.2.2.2.2.2.2.2.1, r5.2.2.2.2.2.2.2.2.2.2.2.2.2.2.2.2.2.1, r5.2.2.2.2.2.2.2.2.2.2.2.2.2.2.2.2.2.2, r3)).bind fun r6 =>
 bif (!r6) then (some false)
 else ((laws_toNode D (a0, a1, a2, a3, a4, a5, a6, a7, a8, a9, a10, a11, a12, a13, a14, a15, a16, a17, a18)).bind fun r7 =>
 (laws_eqNode D (r4.1, r4.2.1, r4.2.2.1, r4.2.2.2.1, r4.2.2.2.2.1, r4.2.2.2.2.2.1, r4.2.2.2.2.2.2.1, r4.2.2.2.2.2.2.2.1, r4.2.2.2.2.2.2.2.2.1, r4.2.2.2.2.2.2.2.2.2.1, r4.2.2.2.2.2.2.2.2.2.2.1, r4.2.2.2.2.2.2.2.2.2.2.2.1, r4.2.2.2.2.2.2.2.2.2.2.2.2.1, r4.2.2.2.2.2.2.2.2.2.2.2.2.2.1, r4.2.2.2.2.2.2.2.2.2.2.2.2.2.2.1, r4.2.2.2.2.2.2.2.2.2.2.2.2.2.2.2.1, r4.2.2.2.2.2.2.2.2.2.2.2.2.2.2.2.2.1, r4.2.2.2.2.2.2.2.2.2.2.2.2.2.2.2.2.2.1, r4.2.2.2.2.2.2.2.2.2.2.2.2.2.2.2.2.2.2, r7)).bind fun r8 =>
 bif (!r8) then (some false)
 else ((laws_markNode D (r4.1, r4.2.1, r4.2.2.1, r4.2.2.2.1, r4.2.2.2.2.1, r4.2.2.2.2.2.1, r4.2.2.2.2.2.2.1, r4.2.2.2.2.2.2.2.1, r4.2.2.2.2.2.2.2.2.1, r4.2.2.2.2.2.2.2.2.2.1, r4.2.2.2.2.2.2.2.2.2.2.1, r4.2.2.2.2.2.2.2.2.2.2.2.1, r4.2.2.2.2.2.2.2.2.2.2.2.2.1, r4.2.2.2.2.2.2.2.2.2.2.2.2.2.1, r4.2.2.2.2.2.2.2.2.2.2.2.2.2.2.1, r4.2.2.2.2.2.2.2.2.2.2.2.2.2.2.2.1, r4.2.2.2.2.2.2.2.2.2.2.2.2.2.2.2.2.1, r4.2.2.2.2.2.2.2.2.2.2.2.2.2.2.2.2.2.1, r4.2.2.2.2.2.2.2.2.2.2.2.2.2.2.2.2.2.2, 1)).bind fun r9 =>
 bif (decide (r9.1 < 0)) then (some false)
 else ((laws_eqNode D (r5.1, r5.2.1, r5.2.2.1, r5.2.2.2.1, r5.2.2.2.2.1, r5.2.2.2.2.2.1, r5.2.2.2.2.2.2.1, r5.2.2.2.2.2.2.2.1, r5.2.2.2.2.2.2.2.2.1, r5.2.2.2.2.2.2.2.2.2.1, r5.2.2.2.2.2.2.2.2.2.2.1, r5.2.2.2.2.2.2.2.2.2.2.2.1, r5.2.2.2.2.2.2.2.2.2.2.2.2.1, r5.2.2.2.2.2.2.2.2.2.2.2.2.2.1, r5.2.2.2.2.2.2.2.2.2.2.2.2.2.2.1, r5.2.2.2.2.2.2.2.2.2.2.2.2.2.2.2.1, r5.2.2.2.2.2.2.2.2.2.2.2.2.2.2.2.2.1, r5.2.2.2.2.2.2.2.2.2.2.2.2.2.2.2.2.2.1, r5.2.2.2.2.2.2.2.2.2.2.2.2.2.2.2.2.2.2, r3)).bind fun r10 =>
 bif (!r10) then (some false)
 else ((laws_markNode D (r5.1, r5.2.1, r5.2.2.1, r5.2.2.2.1, r5.2.2.2.2.1, r5.2.2.2.2.2.1, r5.2.2.2.2.2.2.1, r5.2.2.2.2.2.2.2.1, r5.2.2.2.2.2.2.2.2.1, r5.2.2.2.2.2.2.2.2.2.1, r5.2.2.2.2.2.2.2.2.2.2.1, r5.2.2.2.2.2.2.2.2.2.2.2.1, r5.2.2.2.2.2.2.2.2.2.2.2.2.1, r5.2.2.2.2.2.2.2.2.2.2.2.2.2.1, r5.2.2.2.2.2.2.2.2.2.2.2.2.2.2.1, r5.2.2.2.2.2.2.2.2.2.2.2.2.2.2.2.1, r5.2.2.2.2.2.2.2.2.2.2.2.2.2.2.2.2.1, r5.2.2.2.2.2.2.2.2.2.2.2.2.2.2.2.2.2.1, r5.2.2.2.2.2.2.2.2.2.2.2.2.2.2.2.2.2.2, 1)).bind fun r11 =>
 (laws_heldNode D (r5.1, r5.2.1, r11.2.1, r11.2.2.1, r11.2.2.2.1, r5.2.2.2.2.2.1, r5.2.2.2.2.2.2.1, r5.2.2.2.2.2.2.2.1, r11.2.2.2.2.1, r11.2.2.2.2.2.1, r11.2.2.2.2.2.2.1, r11.2.2.2.2.2.2.2.1, r5.2.2.2.2.2.2.2.2.2.2.2.2.1, r5.2.2.2.2.2.2.2.2.2.2.2.2.2.1, r11.2.2.2.2.2.2.2.2.1, r5.2.2.2.2.2.2.2.2.2.2.2.2.2.2.2.1, r5.2.2.2.2.2.2.2.2.2.2.2.2.2.2.2.2.1, r5.2.2.2.2.2.2.2.2.2.2.2.2.2.2.2.2.2.1, r11.2.2.2.2.2.2.2.2.2, 1)).bind fun r12 =>
 bif (decide (r12 < 0)) then (some false)
 else (bif (!decide (r12 = r11.1)) then (some false)
 else ((laws_toNode D (a0, a1, a2, a3, a4, a5, a6, a7, a8, a9, a10, a11, a12, a13, a14, a15, a16, a17, a18)).bind fun r13 =>
 (impl_Trim D r13).bind fun r14 =>
 (laws_eqNode D (r14.1, r14.2.1, r14.2.2.1, r14.2.2.2.1, r14.2.2.2.2.1, r14.2.2.2.2.2.1, r14.2.2.2.2.2.2.1, r14.2.2.2.2.2.2.2.1, r14.2.2.2.2.2.2.2.2.1, r14.2.2.2.2.2.2.2.2.2.1, r14.2.2.2.2.2.2.2.2.2.2.1, r14.2.2.2.2.2.2.2.2.2.2.2.1, r14.2.2.2.2.2.2.2.2.2.2.2.2.1, r14.2.2.2.2.2.2.2.2.2.2.2.2.2.1, r14.2.2.2.2.2.2.2.2.2.2.2.2.2.2.1, r14.2.2.2.2.2.2.2.2.2.2.2.2.2.2.2.1, r14.2.2.2.2.2.2.2.2.2.2.2.2.2.2.2.2.1, r14.2.2.2.2.2.2.2.2.2.2.2.2.2.2.2.2.2.1, r14.2.2.2.2.2.2.2.2.2.2.2.2.2.2.2.2.2.2, r3)).bind fun r15 =>
 bif (!r15) then (some false)
 else ((laws_heldNode D (r5.1, r5.2.1, r11.2.1, r11.2.2.1, r11.2.2.2.1, r5.2.2.2.2.2.1, r5.2.2.2.2.2.2.1, r5.2.2.2.2.2.2.2.1, r11.2.2.2.2.1, r11.2.2.2.2.2.1, r11.2.2.2.2.2.2.1, r11.2.2.2.2.2.2.2.1, r5.2.2.2.2.2.2.2.2.2.2.2.2.1, r5.2.2.2.2.2.2.2.2.2.2.2.2.2.1, r11.2.2.2.2.2.2.2.2.1, r5.2.2.2.2.2.2.2.2.2.2.2.2.2.2.2.1, r5.2.2.2.2.2.2.2.2.2.2.2.2.2.2.2.2.1, r5.2.2.2.2.2.2.2.2.2.2.2.2.2.2.2.2.2.1, r11.2.2.2.2.2.2.2.2.2, 1)).bind fun r16 =>
 bif (decide (r16 < 0)) then (some false)
 else (bif (!decide (r16 = r11.1)) then (some false)
 else (some true))))))))))
theorem laws_FnExactTrim_of : OfF laws_FnExactTrim laws_FnExactTrim_raw := ofF 8 fun _ _ _ => by kernel_rfl
def laws_szNode_raw : RT (Int × Int × (List XItem) × (List XFloor) × (List Int) × Int × Int × Int × (List XState) × (List Int) × (List Int) × (List (List Int)) × Int × Int × (List XSess) × Int × Int × Int × (List XRise) × Int) Int := fun D L (a0, a1, a2, a3, a4, a5, a6, a7, a8, a9, a10, a11, a12, a13, a14, a15, a16, a17, a18, a19) =>
 (laws_szState D (a2, a3, a19)).bind fun r1 =>
 bif (decide (r1 < 0)) then (some (-1))
 else ((laws_szTree D (a4, a5, r1)).bind fun r2 =>
 bif (decide (r2 < 0)) then (some (-1))
 else ((laws_szLog D (a6, a7, a8, r2)).bind fun r3 =>
 bif (decide (r3 < 0)) then (some (-1))
 else ((laws_szIntS D (a9, r3)).bind fun r4 =>
 bif (decide (r4 < 0)) then (some (-1))
 else ((laws_szIntS D (a10, r4)).bind fun r5 =>
 bif (decide (r5 < 0)) then (some (-1))
 else ((laws_szIntSS D (a11, r5)).bind fun r6 =>
 bif (decide (r6 < 0)) then (some (-1))
 else ((laws_szSessS D (a14, r6)).bind fun r7 =>
 bif (decide (r7 < 0)) then (some (-1))
 else ((laws_szRiseS D (a18, r7)).bind fun r8 =>
 bif (decide (r8 < 0)) then (some (-1))
 else (some r8))))))))
theorem laws_szNode_of : OfF laws_szNode laws_szNode_raw := ofF 28 fun _ _ _ => by kernel_rfl
def spec_Trim_raw : RT XNode XNode := fun D L (a0, a1, a2, a3, a4, a5, a6, a7, a8, a9, a10, a11, a12, a13, a14, a15, a16, a17, a18) =>
 (spec_l11Copy D (a0, a1, a2, a3, a4, a5, a6, a7, a8, a9, a10, a11, a12, a13, a14, a15, a16, a17, a18)).bind fun r1 =>
 (spec_NodeOk D (a0, a1, a2, a3, a4, a5, a6, a7, a8, a9, a10, a11, a12, a13, a14, a15, a16, a17, a18)).bind fun r2 =>
 bif r2 then ((spec_Safe D (a0, a1, a2, a3, a4, a5, a6, a7, a8, a9, a10, a11, a12, a13, a14, a15, a16, a17, a18)).bind fun r3 =>
 (spec_LogDrop D (a6, a7, a8, r3)).bind fun r4 =>
 some (r1.1, r1.2.1, r1.2.2.1, r1.2.2.2.1, r1.2.2.2.2.1, r1.2.2.2.2.2.1, r4.1, r4.2.1, r4.2.2, r1.2.2.2.2.2.2.2.2.2))
 else (some r1)
theorem spec_Trim_of : OfF spec_Trim spec_Trim_raw := ofF 29 fun _ _ _ => by kernel_rfl
def laws_toNode_raw : RT XNode XNode := fun D L (a0, a1, a2, a3, a4, a5, a6, a7, a8, a9, a10, a11, a12, a13, a14, a15, a16, a17, a18) =>
 (laws_toState D (a2, a3)).bind fun r1 =>
 (laws_toTree D (a4, a5)).bind fun r2 =>
 (laws_toLog D (a6, a7, a8)).bind fun r3 =>
 (laws_toIntS D a9).bind fun r4 =>
 (laws_toIntS D a10).bind fun r5 =>
 (laws_toIntSS D a11).bind fun r6 =>
 (laws_toSessS D a14).bind fun r7 =>
 (laws_toRiseS D a18).bind fun r8 =>
 some (a0, a1, r1.1, r1.2, r2.1, r2.2, r3.1, r3.2.1, r3.2.2, r4, r5, r6, a12, a13, r7, a15, a16, a17, r8)
theorem laws_toNode_of : OfF laws_toNode laws_toNode_raw := ofF 30 fun _ _ _ => by kernel_rfl
def impl_Trim_raw : RT XNode XNode := fun D L (a0, a1, a2, a3, a4, a5, a6, a7, a8, a9, a10, a11, a12, a13, a14, a15, a16, a17, a18) =>
 (impl_copyNode D (a0, a1, a2, a3, a4, a5, a6, a7, a8, a9, a10, a11, a12, a13, a14, a15, a16, a17, a18)).bind fun r1 =>
 (impl_Safe D (a0, a1, a2, a3, a4, a5, a6, a7, a8, a9, a10, a11, a12, a13, a14, a15, a16, a17, a18)).bind fun r2 =>
 (impl_NodeOk D (a0, a1, a2, a3, a4, a5, a6, a7, a8, a9, a10, a11, a12, a13, a14, a15, a16, a17, a18)).bind fun r3 =>
 bif r3 then (bif (decide (a7 ≤ r2)) then ((impl_LogDrop D (a6, a7, a8, r2)).bind fun r4 =>
 some (r1.1, r1.2.1, r1.2.2.1, r1.2.2.2.1, r1.2.2.2.2.1, r1.2.2.2.2.2.1, r4.1, r4.2.1, r4.2.2, r1.2.2.2.2.2.2.2.2.2))
 else (some r1))
 else (some r1)
theorem impl_Trim_of : OfF impl_Trim impl_Trim_raw := ofF 31 fun _ _ _ => by kernel_rfl
def laws_eqNode_raw : RT (Int × Int × (List XItem) × (List XFloor) × (List Int) × Int × Int × Int × (List XState) × (List Int) × (List Int) × (List (List Int)) × Int × Int × (List XSess) × Int × Int × Int × (List XRise) × Int × Int × (List XItem) × (List XFloor) × (List Int) × Int × Int × Int × (List XState) × (List Int) × (List Int) × (List (List Int)) × Int × Int × (List XSess) × Int × Int × Int × (List XRise)) Bool := fun D L (a0, a1, a2, a3, a4, a5, a6, a7, a8, a9, a10, a11, a12, a13, a14, a15, a16, a17, a18, a19, a20, a21, a22, a23, a24, a25, a26, a27, a28, a29, a30, a31, a32, a33, a34, a35, a36, a37) =>
 bif (!decide (a0 = a19)) then (some false)
 else (bif (!decide (a1 = a20)) then (some false)
 else ((laws_eqState D (a2, a3, a21, a22)).bind fun r1 =>
 bif (!r1) then (some false)
 else ((laws_eqTree D (a4, a5, a23, a24)).bind fun r2 =>
 bif (!r2) then (some false)
 else ((laws_eqLog D (a6, a7, a8, a25, a26, a27)).bind fun r3 =>
 bif (!r3) then (some false)
 else ((laws_eqIntS D (a9, a28)).bind fun r4 =>
 bif (!r4) then (some false)
 else ((laws_eqIntS D (a10, a29)).bind fun r5 =>
 bif (!r5) then (some false)
 else ((laws_eqIntSS D (a11, a30)).bind fun r6 =>
 bif (!r6) then (some false)
 else (bif (!decide (a12 = a31)) then (some false)
 else (bif (!decide (a13 = a32)) then (some false)
 else ((laws_eqSessS D (a14, a33)).bind fun r7 =>
 bif (!r7) then (some false)
 else (bif (!decide (a15 = a34)) then (some false)
 else (bif (!decide (a16 = a35)) then (some false)
 else (bif (!decide (a17 = a36)) then (some false)
 else ((laws_eqRiseS D (a18, a37)).bind fun r8 =>
 bif (!r8) then (some false)
 else (some true)))))))))))))))
theorem laws_eqNode_of : OfF laws_eqNode laws_eqNode_raw := ofF 32 fun _ _ _ => by kernel_rfl
def laws_markNode_raw : RT (Int × Int × (List XItem) × (List XFloor) × (List Int) × Int × Int × Int × (List XState) × (List Int) × (List Int) × (List (List Int)) × Int × Int × (List XSess) × Int × Int × Int × (List XRise) × Int) (Int × (List XItem) × (List XFloor) × (List Int) × (List XState) × (List Int) × (List Int) × (List (List Int)) × (List XSess) × (List XRise)) := fun D L (a0, a1, a2, a3, a4, a5, a6, a7, a8, a9, a10, a11, a12, a13, a14, a15, a16, a17, a18, a19) =>
 (laws_markState D (a2, a3, a19)).bind fun r1 =>
 (laws_markTree D (a4, a5, r1.1)).bind fun r2 =>
 (laws_markLog D (a6, a7, a8, r2.1)).bind fun r3 =>
 (laws_markIntS D (a9, r3.1)).bind fun r4 =>
 (laws_markIntS D (a10, r4.1)).bind fun r5 =>
 (laws_markIntSS D (a11, r5.1)).bind fun r6 =>
 (laws_markSessS D (a14, r6.1)).bind fun r7 =>
 (laws_markRiseS D (a18, r7.1)).bind fun r8 =>
 some (r8.1, r1.2.1, r1.2.2, r2.2, r3.2, r4.2, r5.2, r6.2, r7.2, r8.2)
theorem laws_markNode_of : OfF laws_markNode laws_markNode_raw := ofF 33 fun _ _ _ => by kernel_rfl
def laws_heldNode_raw : RT (Int × Int × (List XItem) × (List XFloor) × (List Int) × Int × Int × Int × (List XState) × (List Int) × (List Int) × (List (List Int)) × Int × Int × (List XSess) × Int × Int × Int × (List XRise) × Int) Int := fun D L (a0, a1, a2, a3, a4, a5, a6, a7, a8, a9, a10, a11, a12, a13, a14, a15, a16, a17, a18, a19) =>
 (laws_heldState D (a2, a3, a19)).bind fun r1 =>
 bif (decide (r1 < 0)) then (some (-1))
 else ((laws_heldTree D (a4, a5, r1)).bind fun r2 =>
 bif (decide (r2 < 0)) then (some (-1))
 else ((laws_heldLog D (a6, a7, a8, r2)).bind fun r3 =>
 bif (decide (r3 < 0)) then (some (-1))
 else ((laws_heldIntS D (a9, r3)).bind fun r4 =>
 bif (decide (r4 < 0)) then (some (-1))
 else ((laws_heldIntS D (a10, r4)).bind fun r5 =>
 bif (decide (r5 < 0)) then (some (-1))
 else ((laws_heldIntSS D (a11, r5)).bind fun r6 =>
 bif (decide (r6 < 0)) then (some (-1))
 else ((laws_heldSessS D (a14, r6)).bind fun r7 =>
 bif (decide (r7 < 0)) then (some (-1))
 else ((laws_heldRiseS D (a18, r7)).bind fun r8 =>
 bif (decide (r8 < 0)) then (some (-1))
 else (some r8))))))))
theorem laws_heldNode_of : OfF laws_heldNode laws_heldNode_raw := ofF 34 fun _ _ _ => by kernel_rfl
def laws_eqItemS_l0 : RT ((List XItem) × (List XItem) × Int) (Bool ⊕ Unit) := fun D L (y0, y1, y2) =>
 bif (decide (y2 < (y0.length : Int))) then (bif inb y2 y0.length then
 let e1 := (rd1 zItem y0 y2);
 bif inb y2 y1.length then
 let e2 := (rd1 zItem y1 y2);
 (laws_eqItem D (e1.1, e1.2.1, e1.2.2.1, e1.2.2.2.1, e1.2.2.2.2.1, e1.2.2.2.2.2, e2)).bind fun r3 =>
 bif (!r3) then (some (Sum.inl false))
 else (laws_eqItemS_k0 L (y0, y1, (IntKind.wrap .i64 (y2 + 1)))) else none else none)
 else (some (Sum.inr ()))
theorem laws_eqItemS_l0_of : OfL laws_eqItemS_k0 laws_eqItemS_l0 := ofL 37 0 fun _ _ _ => by kernel_rfl
def laws_eqItemS_raw : RT ((List XItem) × (List XItem)) Bool := fun D L (a0, a1) =>
 bif (!decide ((a0.length : Int) = (a1.length : Int))) then (some false)
 else ((laws_eqItemS_k0 L (a0, a1, 0)).bind fun z4 =>
 elimS z4 (fun u5 =>
 some u5)
 (fun z6 =>
 some true))
theorem laws_eqItemS_of : OfF laws_eqItemS laws_eqItemS_raw := ofF 37 fun _ _ _ => by kernel_rfl
def laws_markItemS_l0 : RT (Int × Int × (List XItem)) ((Int × (List XItem))) := fun D L (y0, y1, y2) =>
 bif (decide (y1 < (y2.length : Int))) then (bif inb y1 y2.length then
 let e1 := (rd1 zItem y2 y1);
 let l2 := List.set y2 (Int.toNat y1) (y0, e1.2);
 bif inb y1 l2.length then
 let e3 := (rd1 zItem l2 y1);
 let l4 := List.set l2 (Int.toNat y1) (e3.1, (IntKind.wrap .i64 (y0 + 1)), e3.2.2);
 bif inb y1 l4.length then
 let e5 := (rd1 zItem l4 y1);
 let l6 := List.set l4 (Int.toNat y1) (e5.1, e5.2.1, (IntKind.wrap .i64 ((IntKind.wrap .i64 (y0 + 1)) + 1)), e5.2.2.2);
 bif inb y1 l6.length then
 let e7 := (rd1 zItem l6 y1);
 let l8 := List.set l6 (Int.toNat y1) (e7.1, e7.2.1, e7.2.2.1, (IntKind.wrap .i64 ((IntKind.wrap .i64 ((IntKind.wrap .i64 (y0 + 1)) + 1)) + 1)), e7.2.2.2.2);
 bif inb y1 l8.length then
 let e9 := (rd1 zItem l8 y1);
 let l10 := List.set l8 (Int.toNat y1) (e9.1, e9.2.1, e9.2.2.1, e9.2.2.2.1, (IntKind.wrap .i64 ((IntKind.wrap .i64 ((IntKind.wrap .i64 ((IntKind.wrap .i64 (y0 + 1)) + 1)) + 1)) + 1)), e9.2.2.2.2.2);
 (laws_markText D (IntKind.wrap .i64 ((IntKind.wrap .i64 ((IntKind.wrap .i64 ((IntKind.wrap .i64 ((IntKind.wrap .i64 (y0 + 1)) + 1)) + 1)) + 1)) + 1))).bind fun r11 =>
 bif inb y1 l10.length then
 let e12 := (rd1 zItem l10 y1);
 let l13 := List.set l10 (Int.toNat y1) (e12.1, e12.2.1, e12.2.2.1, e12.2.2.2.1, e12.2.2.2.2.1, r11);
 laws_markItemS_k0 L ((IntKind.wrap .i64 ((IntKind.wrap .i64 ((IntKind.wrap .i64 ((IntKind.wrap .i64 ((IntKind.wrap .i64 ((IntKind.wrap .i64 (y0 + 1)) + 1)) + 1)) + 1)) + 1)) + 1)), (IntKind.wrap .i64 (y1 + 1)), l13) else none else none else none else none else none else none)
 else (some (y0, y2))
theorem laws_markItemS_l0_of : OfL laws_markItemS_k0 laws_markItemS_l0 := ofL 39 0 fun _ _ _ => by kernel_rfl
def laws_markItemS_raw : RT ((List XItem) × Int) (Int × (List XItem)) := fun D L (a0, a1) =>
 (laws_markItemS_k0 L (a1, 0, a0)).bind fun z14 =>
 some z14
theorem laws_markItemS_of : OfF laws_markItemS laws_markItemS_raw := ofF 39 fun _ _ _ => by kernel_rfl
def laws_heldItemS_l0 : RT ((List XItem) × Int × Int) (Int ⊕ Int) := fun D L (y0, y1, y2) =>
 bif (decide (y2 < (y0.length : Int))) then (bif inb y2 y0.length then
 let e1 := (rd1 zItem y0 y2);
 bif (!decide (e1.1 = y1)) then (some (Sum.inl (-1)))
 else (bif inb y2 y0.length then
 let e2 := (rd1 zItem y0 y2);
 bif (!decide (e2.2.1 = (IntKind.wrap .i64 (y1 + 1)))) then (some (Sum.inl (-1)))
 else (bif inb y2 y0.length then
 let e3 := (rd1 zItem y0 y2);
 bif (!decide (e3.2.2.1 = (IntKind.wrap .i64 ((IntKind.wrap .i64 (y1 + 1)) + 1)))) then (some (Sum.inl (-1)))
 else (bif inb y2 y0.length then
 let e4 := (rd1 zItem y0 y2);
 bif (!decide (e4.2.2.2.1 = (IntKind.wrap .i64 ((IntKind.wrap .i64 ((IntKind.wrap .i64 (y1 + 1)) + 1)) + 1)))) then (some (Sum.inl (-1)))
 else (bif inb y2 y0.length then
 let e5 := (rd1 zItem y0 y2);
 bif (!decide (e5.2.2.2.2.1 = (IntKind.wrap .i64 ((IntKind.wrap .i64 ((IntKind.wrap .i64 ((IntKind.wrap .i64 (y1 + 1)) + 1)) + 1)) + 1)))) then (some (Sum.inl (-1)))
 else (bif inb y2 y0.length then
 let e6 := (rd1 zItem y0 y2);
 (laws_markText D (IntKind.wrap .i64 ((IntKind.wrap .i64 ((IntKind.wrap .i64 ((IntKind.wrap .i64 ((IntKind.wrap .i64 (y1 + 1)) + 1)) + 1)) + 1)) + 1))).bind fun r7 =>
 bif (!beqS e6.2.2.2.2.2 r7) then (some (Sum.inl (-1)))
 else (laws_heldItemS_k0 L (y0, (IntKind.wrap .i64 ((IntKind.wrap .i64 ((IntKind.wrap .i64 ((IntKind.wrap .i64 ((IntKind.wrap .i64 ((IntKind.wrap .i64 (y1 + 1)) + 1)) + 1)) + 1)) + 1)) + 1)), (IntKind.wrap .i64 (y2 + 1)))) else none) else none) else none) else none) else none) else none)
 else (some (Sum.inr y1))
theorem laws_heldItemS_l0_of : OfL laws_heldItemS_k0 laws_heldItemS_l0 := ofL 40 0 fun _ _ _ => by kernel_rfl
def laws_heldItemS_raw : RT ((List XItem) × Int) Int := fun D L (a0, a1) =>
 (laws_heldItemS_k0 L (a0, a1, 0)).bind fun z8 =>
 elimS z8 (fun u9 =>
 some u9)
 (fun z10 =>
 some z10)
theorem laws_heldItemS_of : OfF laws_heldItemS laws_heldItemS_raw := ofF 40 fun _ _ _ => by kernel_rfl
def laws_eqIntS_l0 : RT ((List Int) × (List Int) × Int) (Bool ⊕ Unit) := fun D L (y0, y1, y2) =>
 bif (decide (y2 < (y0.length : Int))) then (bif inb y2 y0.length then
 bif inb y2 y1.length then
 bif (!decide ((rd1 (0 : Int) y0 y2) = (rd1 (0 : Int) y1 y2))) then (some (Sum.inl false))
 else (laws_eqIntS_k0 L (y0, y1, (IntKind.wrap .i64 (y2 + 1)))) else none else none)
 else (some (Sum.inr ()))
theorem laws_eqIntS_l0_of : OfL laws_eqIntS_k0 laws_eqIntS_l0 := ofL 43 0 fun _ _ _ => by kernel_rfl
def laws_eqIntS_raw : RT ((List Int) × (List Int)) Bool := fun D L (a0, a1) =>
 bif (!decide ((a0.length : Int) = (a1.length : Int))) then (some false)
 else ((laws_eqIntS_k0 L (a0, a1, 0)).bind fun z1 =>
 elimS z1 (fun u2 =>
 some u2)
 (fun z3 =>
 some true))
theorem laws_eqIntS_of : OfF laws_eqIntS laws_eqIntS_raw := ofF 43 fun _ _ _ => by kernel_rfl
def laws_markIntS_l0 : RT (Int × Int × (List Int)) ((Int × (List Int))) := fun D L (y0, y1, y2) =>
 bif (decide (y1 < (y2.length : Int))) then (bif inb y1 y2.length then
 let l1 := List.set y2 (Int.toNat y1) y0;
 laws_markIntS_k0 L ((IntKind.wrap .i64 (y0 + 1)), (IntKind.wrap .i64 (y1 + 1)), l1) else none)
 else (some (y0, y2))
theorem laws_markIntS_l0_of : OfL laws_markIntS_k0 laws_markIntS_l0 := ofL 44 0 fun _ _ _ => by kernel_rfl
def laws_markIntS_raw : RT XTree (Int × (List Int)) := fun D L (a0, a1) =>
 (laws_markIntS_k0 L (a1, 0, a0)).bind fun z2 =>
 some z2
theorem laws_markIntS_of : OfF laws_markIntS laws_markIntS_raw := ofF 44 fun _ _ _ => by kernel_rfl
def laws_heldIntS_l0 : RT ((List Int) × Int × Int) (Int ⊕ Int) := fun D L (y0, y1, y2) =>
 bif (decide (y2 < (y0.length : Int))) then (bif inb y2 y0.length then
 bif (!decide ((rd1 (0 : Int) y0 y2) = y1)) then (some (Sum.inl (-1)))
 else (laws_heldIntS_k0 L (y0, (IntKind.wrap .i64 (y1 + 1)), (IntKind.wrap .i64 (y2 + 1)))) else none)
 else (some (Sum.inr y1))
theorem laws_heldIntS_l0_of : OfL laws_heldIntS_k0 laws_heldIntS_l0 := ofL 45 0 fun _ _ _ => by kernel_rfl
def laws_heldIntS_raw : RT XTree Int := fun D L (a0, a1) =>
 (laws_heldIntS_k0 L (a0, a1, 0)).bind fun z1 =>
 elimS z1 (fun u2 =>
 some u2)
 (fun z3 =>
 some z3)
theorem laws_heldIntS_of : OfF laws_heldIntS laws_heldIntS_raw := ofF 45 fun _ _ _ => by kernel_rfl
def spec_LogSeq_raw : RT XLog Int := fun D L (a0, a1, a2) =>
 (spec_LogOk D (a0, a1, a2)).bind fun r1 =>
 bif (!r1) then (some 0)
 else (some (IntKind.wrap .i64 (a1 + (a2.length : Int))))
theorem spec_LogSeq_of : OfF spec_LogSeq spec_LogSeq_raw := ofF 59 fun _ _ _ => by kernel_rfl
def impl_LogSeq_raw : RT XLog Int := fun D L (a0, a1, a2) =>
 (impl_LogOk D (a0, a1, a2)).bind fun r1 =>
 bif (!r1) then (some 0)
 else (some (IntKind.wrap .i64 (a1 + (a2.length : Int))))
theorem impl_LogSeq_of : OfF impl_LogSeq impl_LogSeq_raw := ofF 65 fun _ _ _ => by kernel_rfl
def laws_szState_raw : RT ((List XItem) × (List XFloor) × Int) Int := fun D L (a0, a1, a2) =>
 (laws_szItemS D (a0, a2)).bind fun r1 =>
 bif (decide (r1 < 0)) then (some (-1))
 else ((laws_szFloorS D (a1, r1)).bind fun r2 =>
 bif (decide (r2 < 0)) then (some (-1))
 else (some r2))
theorem laws_szState_of : OfF laws_szState laws_szState_raw := ofF 70 fun _ _ _ => by kernel_rfl
def laws_szTree_raw : RT ((List Int) × Int × Int) Int := fun D L (a0, a1, a2) =>
 (laws_szIntS D (a0, a2)).bind fun r1 =>
 bif (decide (r1 < 0)) then (some (-1))
 else (some r1)
theorem laws_szTree_of : OfF laws_szTree laws_szTree_raw := ofF 71 fun _ _ _ => by kernel_rfl
def laws_szLog_raw : RT (Int × Int × (List XState) × Int) Int := fun D L (a0, a1, a2, a3) =>
 (laws_szStateS D (a2, a3)).bind fun r1 =>
 bif (decide (r1 < 0)) then (some (-1))
 else (some r1)
theorem laws_szLog_of : OfF laws_szLog laws_szLog_raw := ofF 72 fun _ _ _ => by kernel_rfl
def laws_szIntS_raw : RT XTree Int := fun D L (a0, a1) =>
 bif (decide ((IntKind.wrap .i64 (a1 - (a0.length : Int))) < 0)) then (some (-1))
 else (some (IntKind.wrap .i64 (a1 - (a0.length : Int))))
theorem laws_szIntS_of : OfF laws_szIntS laws_szIntS_raw := ofF 73 fun _ _ _ => by kernel_rfl
def laws_szIntSS_l0 : RT ((List (List Int)) × Int × Int) (Int ⊕ Int) := fun D L (y0, y1, y2) =>
 bif (decide (y2 < (y0.length : Int))) then (bif inb y2 y0.length then
 (laws_szIntS D ((rd1 ([] : List Int) y0 y2), y1)).bind fun r1 =>
 bif (decide (r1 < 0)) then (some (Sum.inl (-1)))
 else (laws_szIntSS_k0 L (y0, r1, (IntKind.wrap .i64 (y2 + 1)))) else none)
 else (some (Sum.inr y1))
theorem laws_szIntSS_l0_of : OfL laws_szIntSS_k0 laws_szIntSS_l0 := ofL 74 0 fun _ _ _ => by kernel_rfl
def laws_szIntSS_raw : RT ((List (List Int)) × Int) Int := fun D L (a0, a1) =>
 bif (decide ((IntKind.wrap .i64 (a1 - (a0.length : Int))) < 0)) then (some (-1))
 else ((laws_szIntSS_k0 L (a0, (IntKind.wrap .i64 (a1 - (a0.length : Int))), 0)).bind fun z2 =>
 elimS z2 (fun u3 =>
 some u3)
 (fun z4 =>
 some z4))
theorem laws_szIntSS_of : OfF laws_szIntSS laws_szIntSS_raw := ofF 74 fun _ _ _ => by kernel_rfl
def laws_szSessS_raw : RT ((List XSess) × Int) Int := fun D L (a0, a1) =>
 bif (decide ((IntKind.wrap .i64 (a1 - (a0.length : Int))) < 0)) then (some (-1))
 else (some (IntKind.wrap .i64 (a1 - (a0.length : Int))))
theorem laws_szSessS_of : OfF laws_szSessS laws_szSessS_raw := ofF 75 fun _ _ _ => by kernel_rfl
def laws_szRiseS_raw : RT ((List XRise) × Int) Int := fun D L (a0, a1) =>
 bif (decide ((IntKind.wrap .i64 (a1 - (a0.length : Int))) < 0)) then (some (-1))
 else (some (IntKind.wrap .i64 (a1 - (a0.length : Int))))
theorem laws_szRiseS_of : OfF laws_szRiseS laws_szRiseS_raw := ofF 76 fun _ _ _ => by kernel_rfl
def spec_l11Copy_raw : RT XNode XNode := fun D L (a0, a1, a2, a3, a4, a5, a6, a7, a8, a9, a10, a11, a12, a13, a14, a15, a16, a17, a18) =>
 (spec_l3Copy D (a2, a3)).bind fun r1 =>
 (spec_l6Copy D (a4, a5)).bind fun r2 =>
 (spec_l7Copy D (a6, a7, a8)).bind fun r3 =>
 bif fits (List.length ([] : List Int) + List.length a9) 8 then
 bif fits (List.length ([] : List Int) + List.length a10) 8 then
 (spec_l9Copy D a11).bind fun r4 =>
 bif fits (List.length ([] : List XSess) + List.length a14) 32 then
 bif fits (List.length ([] : List XRise) + List.length a18) 24 then
 some (a0, a1, r1.1, r1.2, r2.1, r2.2, r3.1, r3.2.1, r3.2.2, (([] : List Int) ++ a9), (([] : List Int) ++ a10), r4, a12, a13, (([] : List XSess) ++ a14), a15, a16, a17, (([] : List XRise) ++ a18)) else none else none else none else none
theorem spec_l11Copy_of : OfF spec_l11Copy spec_l11Copy_raw := ofF 77 fun _ _ _ => by kernel_rfl
def spec_NodeOk_l0 : RT (Int × Int × Int × (List XItem) × (List XFloor) × (List Int) × Int × Int × Int × (List XState) × (List Int) × (List Int) × (List (List Int)) × Int × Int × (List XSess) × Int × Int × Int × (List XRise)) (Bool ⊕ XNode) := fun D L (y0, y1, y2, y3, y4, y5, y6, y7, y8, y9, y10, y11, y12, y13, y14, y15, y16, y17, y18, y19) =>
 bif (decide (y0 < y2)) then (bif inb y0 y11.length then
 (spec_LogSeq D (y7, y8, y9)).bind fun r11 =>
 bif (decide (r11 < (rd1 (0 : Int) y11 y0))) then (some (Sum.inl false))
 else (spec_NodeOk_k0 L ((IntKind.wrap .i64 (y0 + 1)), y1, y2, y3, y4, y5, y6, y7, y8, y9, y10, y11, y12, y13, y14, y15, y16, y17, y18, y19)) else none)
 else (some (Sum.inr (y1, y2, y3, y4, y5, y6, y7, y8, y9, y10, y11, y12, y13, y14, y15, y16, y17, y18, y19)))
theorem spec_NodeOk_l0_of : OfL spec_NodeOk_k0 spec_NodeOk_l0 := ofL 78 0 fun _ _ _ => by kernel_rfl
def spec_NodeOk_l2 : RT (Int × Int × Int × (List XItem) × (List XFloor) × (List Int) × Int × Int × Int × (List XState) × (List Int) × (List Int) × (List (List Int)) × Int × Int × (List XSess) × Int × Int × Int × (List XRise)) (Bool ⊕ XNode) := fun D L (y0, y1, y2, y3, y4, y5, y6, y7, y8, y9, y10, y11, y12, y13, y14, y15, y16, y17, y18, y19) =>
 bif (decide (y0 < 5)) then (bif inb y0 y19.length then
 let e20 := (rd1 zRise y19 y0);
 (spec_l1In D (e20.1, 0, 1000)).bind fun r21 =>
 bif (!r21) then (some (Sum.inl false))
 else ((spec_l1In D (e20.2.1, 0, 100000)).bind fun r22 =>
 bif (!r22) then (some (Sum.inl false))
 else ((spec_l1In D (e20.2.2, 0, y18)).bind fun r23 =>
 bif (!r23) then (some (Sum.inl false))
 else (spec_NodeOk_k2 L ((IntKind.wrap .i64 (y0 + 1)), y1, y2, y3, y4, y5, y6, y7, y8, y9, y10, y11, y12, y13, y14, y15, y16, y17, y18, y19)))) else none)
 else (some (Sum.inr (y1, y2, y3, y4, y5, y6, y7, y8, y9, y10, y11, y12, y13, y14, y15, y16, y17, y18, y19)))
theorem spec_NodeOk_l2_of : OfL spec_NodeOk_k2 spec_NodeOk_l2 := ofL 78 2 fun _ _ _ => by kernel_rfl
def spec_NodeOk_raw : RT XNode Bool := fun D L (a0, a1, a2, a3, a4, a5, a6, a7, a8, a9, a10, a11, a12, a13, a14, a15, a16, a17, a18) =>
 (spec_l1In D (a1, 1, 5)).bind fun r1 =>
 bif (!r1) then (some false)
 else ((spec_l1In D (a0, 0, (IntKind.wrap .i64 (a1 - 1)))).bind fun r2 =>
 bif (!r2) then (some false)
 else ((spec_StateOk D (a2, a3)).bind fun r3 =>
 bif (!r3) then (some false)
 else ((spec_TreeOf D (a2, a3)).bind fun r4 =>
 (spec_l11Tree D (a4, a5, r4)).bind fun r5 =>
 bif (!r5) then (some false)
 else ((spec_LogOk D (a6, a7, a8)).bind fun r6 =>
 bif (!r6) then (some false)
 else ((spec_VecOk D (a9, a1)).bind fun r7 =>
 bif (!r7) then (some false)
 else ((spec_VecOk D (a10, a1)).bind fun r8 =>
 bif (!r8) then (some false)
 else (bif inb a0 a9.length then
 (spec_LogSeq D (a6, a7, a8)).bind fun r9 =>
 bif (!decide ((rd1 (0 : Int) a9 a0) = r9)) then (some false)
 else ((spec_TableOk D (a11, a1)).bind fun r10 =>
 bif (!r10) then (some false)
 else ((spec_NodeOk_k0 L (0, a0, a1, a2, a3, a4, a5, a6, a7, a8, a9, a10, a11, a12, a13, a14, a15, a16, a17, a18)).bind fun z12 =>
 elimS z12 (fun u13 =>
 some u13)
 (fun z14 =>
 (spec_l1In D (z14.2.2.2.2.2.2.2.2.2.2.2.2.1, 0, 100000)).bind fun r15 =>
 bif (!r15) then (some false)
 else ((spec_l1In D (z14.2.2.2.2.2.2.2.2.2.2.2.2.2.2.2.2.2.1, 0, 100000)).bind fun r16 =>
 bif (!r16) then (some false)
 else ((spec_l1In D (z14.2.2.2.2.2.2.2.2.2.2.2.2.2.1, 1, 4)).bind fun r17 =>
 bif (!r17) then (some false)
 else ((spec_l1In D (z14.2.2.2.2.2.2.2.2.2.2.2.2.2.2.2.1, 1, 20)).bind fun r18 =>
 bif (!r18) then (some false)
 else ((spec_l1In D (z14.2.2.2.2.2.2.2.2.2.2.2.2.2.2.2.2.1, 1, 50)).bind fun r19 =>
 bif (!r19) then (some false)
 else (bif (!decide ((z14.2.2.2.2.2.2.2.2.2.2.2.2.2.2.2.2.2.2.length : Int) = 5)) then (some false)
 else ((spec_NodeOk_k2 L (0, z14)).bind fun z24 =>
 elimS z24 (fun u25 =>
 some u25)
 (fun z26 =>
 (spec_l11Sess D z26).bind fun r27 =>
 some r27)))))))))) else none)))))))
theorem spec_NodeOk_of : OfF spec_NodeOk spec_NodeOk_raw := ofF 78 fun _ _ _ => by kernel_rfl
def spec_LogDrop_raw : RT (Int × Int × (List XState) × Int) XLog := fun D L (a0, a1, a2, a3) =>
 (spec_l7Copy D (a0, a1, a2)).bind fun r1 =>
 (spec_LogOk D (a0, a1, a2)).bind fun r2 =>
 bif (!r2) then (some r1)
 else ((spec_l1In D (a3, a1, (IntKind.wrap .i64 (a1 + (a2.length : Int))))).bind fun r3 =>
 bif (!r3) then (some r1)
 else (bif decide ((0 : Int) ≤ (IntKind.wrap .i64 (a3 - a1)) ∧ (IntKind.wrap .i64 (a3 - a1)) ≤ ((r1.2.2.length : Int) : Int) ∧ (r1.2.2.length : Int) ≤ (r1.2.2.length : Int)) then
 bif fits (List.length ([] : List XState) + List.length (List.take (Int.toNat ((r1.2.2.length : Int) - (IntKind.wrap .i64 (a3 - a1)))) (List.drop (Int.toNat (IntKind.wrap .i64 (a3 - a1))) r1.2.2))) 48 then
 some (r1.1, a3, (([] : List XState) ++ List.take (Int.toNat ((r1.2.2.length : Int) - (IntKind.wrap .i64 (a3 - a1)))) (List.drop (Int.toNat (IntKind.wrap .i64 (a3 - a1))) r1.2.2))) else none else none))
theorem spec_LogDrop_of : OfF spec_LogDrop spec_LogDrop_raw := ofF 79 fun _ _ _ => by kernel_rfl
def spec_Safe_l0 : RT (Int × Int × Int × Int × (List XItem) × (List XFloor) × (List Int) × Int × Int × Int × (List XState) × (List Int) × (List Int) × (List (List Int)) × Int × Int × (List XSess) × Int × Int × Int × (List XRise)) Int := fun D L (y0, y1, y2, y3, y4, y5, y6, y7, y8, y9, y10, y11, y12, y13, y14, y15, y16, y17, y18, y19, y20) =>
 bif (decide (y1 < y3)) then (bif (!decide (y1 = y2)) then (bif inb y1 y12.length then
 (spec_l1Min D (y0, (rd1 (0 : Int) y12 y1))).bind fun r3 =>
 spec_Safe_k0 L (r3, (IntKind.wrap .i64 (y1 + 1)), y2, y3, y4, y5, y6, y7, y8, y9, y10, y11, y12, y13, y14, y15, y16, y17, y18, y19, y20) else none)
 else (spec_Safe_k0 L (y0, (IntKind.wrap .i64 (y1 + 1)), y2, y3, y4, y5, y6, y7, y8, y9, y10, y11, y12, y13, y14, y15, y16, y17, y18, y19, y20)))
 else (some y0)
theorem spec_Safe_l0_of : OfL spec_Safe_k0 spec_Safe_l0 := ofL 80 0 fun _ _ _ => by kernel_rfl
def spec_Safe_raw : RT XNode Int := fun D L (a0, a1, a2, a3, a4, a5, a6, a7, a8, a9, a10, a11, a12, a13, a14, a15, a16, a17, a18) =>
 (spec_NodeOk D (a0, a1, a2, a3, a4, a5, a6, a7, a8, a9, a10, a11, a12, a13, a14, a15, a16, a17, a18)).bind fun r1 =>
 bif (!r1) then (some 0)
 else ((spec_LogSeq D (a6, a7, a8)).bind fun r2 =>
 (spec_Safe_k0 L (r2, 0, a0, a1, a2, a3, a4, a5, a6, a7, a8, a9, a10, a11, a12, a13, a14, a15, a16, a17, a18)).bind fun z4 =>
 some z4)
theorem spec_Safe_of : OfF spec_Safe spec_Safe_raw := ofF 80 fun _ _ _ => by kernel_rfl
end
end Go.Proofs.YtjenicbpdklpbaaGreat.M
