/- Plain forms of the functions that FnExactPlainWhen reaches, part 1. No conditions. -/
import Derived.Test.YtjenicbpdklpbaaGreatFnExactPlainWhenTab
set_option linter.all false
namespace Go.Proofs.YtjenicbpdklpbaaGreat.M
open Go Go.Eng Go.Proofs
set_option linter.unusedVariables false
noncomputable section
def laws_szState_raw : RT ((List XItem) × (List XFloor) × Int) Int := fun D L (a0, a1, a2) =>
 (laws_szItemS D (a0, a2)).bind fun r1 =>
 bif (decide (r1 < 0)) then (some (-1))
 else ((laws_szFloorS D (a1, r1)).bind fun r2 =>
 bif (decide (r2 < 0)) then (some (-1))
 else (some r2))
theorem laws_szState_of : OfF laws_szState laws_szState_raw := ofF 70 fun _ _ _ => by kernel_rfl
def laws_szTree_raw : RT ((List Int) × Int × Int) Int := fun D L (a0, a1, a2) =>
 (laws_szIntS D (a0, a2)).bind fun r1 =>
 bif (decide (r1 < 0)) then (some (-1))
 else (some r1)
theorem laws_szTree_of : OfF laws_szTree laws_szTree_raw := ofF 71 fun _ _ _ => by kernel_rfl
def laws_szLog_raw : RT (Int × Int × (List XState) × Int) Int := fun D L (a0, a1, a2, a3) =>
 (laws_szStateS D (a2, a3)).bind fun r1 =>
 bif (decide (r1 < 0)) then (some (-1))
 else (some r1)
theorem laws_szLog_of : OfF laws_szLog laws_szLog_raw := ofF 72 fun _ _ _ => by kernel_rfl
def laws_szIntS_raw : RT XTree Int := fun D L (a0, a1) =>
 bif (decide ((IntKind.wrap .i64 (a1 - (a0.length : Int))) < 0)) then (some (-1))
 else (some (IntKind.wrap .i64 (a1 - (a0.length : Int))))
theorem laws_szIntS_of : OfF laws_szIntS laws_szIntS_raw := ofF 73 fun _ _ _ => by kernel_rfl
def laws_szIntSS_l0 : RT ((List (List Int)) × Int × Int) (Int ⊕ Int) := fun D L (y0, y1, y2) =>
 bif (decide (y2 < (y0.length : Int))) then (bif inb y2 y0.length then
 (laws_szIntS D ((rd1 ([] : List Int) y0 y2), y1)).bind fun r1 =>
 bif (decide (r1 < 0)) then (some (Sum.inl (-1)))
 else (laws_szIntSS_k0 L (y0, r1, (IntKind.wrap .i64 (y2 + 1)))) else none)
 else (some (Sum.inr y1))
theorem laws_szIntSS_l0_of : OfL laws_szIntSS_k0 laws_szIntSS_l0 := ofL 74 0 fun _ _ _ => by kernel_rfl
def laws_szIntSS_raw : RT ((List (List Int)) × Int) Int := fun D L (a0, a1) =>
 bif (decide ((IntKind.wrap .i64 (a1 - (a0.length : Int))) < 0)) then (some (-1))
 else ((laws_szIntSS_k0 L (a0, (IntKind.wrap .i64 (a1 - (a0.length : Int))), 0)).bind fun z2 =>
 elimS z2 (fun u3 =>
 some u3)
 (fun z4 =>
 some z4))
theorem laws_szIntSS_of : OfF laws_szIntSS laws_szIntSS_raw := ofF 74 fun _ _ _ => by kernel_rfl
def laws_szSessS_raw : RT ((List XSess) × Int) Int := fun D L (a0, a1) =>
 bif (decide ((IntKind.wrap .i64 (a1 - (a0.length : Int))) < 0)) then (some (-1))
 else (some (IntKind.wrap .i64 (a1 - (a0.length : Int))))
theorem laws_szSessS_of : OfF laws_szSessS laws_szSessS_raw := ofF 75 fun _ _ _ => by kernel_rfl
def laws_szRiseS_raw : RT ((List XRise) × Int) Int := fun D L (a0, a1) =>
 bif (decide ((IntKind.wrap .i64 (a1 - (a0.length : Int))) < 0)) then (some (-1))
 else (some (IntKind.wrap .i64 (a1 - (a0.length : Int))))
theorem laws_szRiseS_of : OfF laws_szRiseS laws_szRiseS_raw := ofF 76 fun _ _ _ => by kernel_rfl
def spec_NodeOk_l0 : RT (Int × Int × Int × (List XItem) × (List XFloor) × (List Int) × Int × Int × Int × (List XState) × (List Int) × (List Int) × (List (List Int)) × Int × Int × (List XSess) × Int × Int × Int × (List XRise)) (Bool ⊕ XNode) := fun D L (y0, y1, y2, y3, y4, y5, y6, y7, y8, y9, y10, y11, y12, y13, y14, y15, y16, y17, y18, y19) =>
 bif (decide (y0 < y2)) then (bif inb y0 y11.length then
 (spec_LogSeq D (y7, y8, y9)).bind fun r11 =>
 bif (decide (r11 < (rd1 (0 : Int) y11 y0))) then (some (Sum.inl false))
 else (spec_NodeOk_k0 L ((IntKind.wrap .i64 (y0 + 1)), y1, y2, y3, y4, y5, y6, y7, y8, y9, y10, y11, y12, y13, y14, y15, y16, y17, y18, y19)) else none)
 else (some (Sum.inr (y1, y2, y3, y4, y5, y6, y7, y8, y9, y10, y11, y12, y13, y14, y15, y16, y17, y18, y19)))
theorem spec_NodeOk_l0_of : OfL spec_NodeOk_k0 spec_NodeOk_l0 := ofL 78 0 fun _ _ _ => by kernel_rfl
def spec_NodeOk_l2 : RT (Int × Int × Int × (List XItem) × (List XFloor) × (List Int) × Int × Int × Int × (List XState) × (List Int) × (List Int) × (List (List Int)) × Int × Int × (List XSess) × Int × Int × Int × (List XRise)) (Bool ⊕ XNode) := fun D L (y0, y1, y2, y3, y4, y5, y6, y7, y8, y9, y10, y11, y12, y13, y14, y15, y16, y17, y18, y19) =>
 bif (decide (y0 < 5)) then (bif inb y0 y19.length then
 let e20 := (rd1 zRise y19 y0);
 (spec_l1In D (e20.1, 0, 1000)).bind fun r21 =>
 bif (!r21) then (some (Sum.inl false))
 else ((spec_l1In D (e20.2.1, 0, 100000)).bind fun r22 =>
 bif (!r22) then (some (Sum.inl false))
 else ((spec_l1In D (e20.2.2, 0, y18)).bind fun r23 =>
 bif (!r23) then (some (Sum.inl false))
 else (spec_NodeOk_k2 L ((IntKind.wrap .i64 (y0 + 1)), y1, y2, y3, y4, y5, y6, y7, y8, y9, y10, y11, y12, y13, y14, y15, y16, y17, y18, y19)))) else none)
 else (some (Sum.inr (y1, y2, y3, y4, y5, y6, y7, y8, y9, y10, y11, y12, y13, y14, y15, y16, y17, y18, y19)))
theorem spec_NodeOk_l2_of : OfL spec_NodeOk_k2 spec_NodeOk_l2 := ofL 78 2 fun _ _ _ => by kernel_rfl
def spec_NodeOk_raw : RT XNode Bool := fun D L (a0, a1, a2, a3, a4, a5, a6, a7, a8, a9, a10, a11, a12, a13, a14, a15, a16, a17, a18) =>
 (spec_l1In D (a1, 1, 5)).bind fun r1 =>
 bif (!r1) then (some false)
 else ((spec_l1In D (a0, 0, (IntKind.wrap .i64 (a1 - 1)))).bind fun r2 =>
 bif (!r2) then (some false)
 else ((spec_StateOk D (a2, a3)).bind fun r3 =>
 bif (!r3) then (some false)
 else ((spec_TreeOf D (a2, a3)).bind fun r4 =>
 (spec_l11Tree D (a4, a5, r4)).bind fun r5 =>
 bif (!r5) then (some false)
 else ((spec_LogOk D (a6, a7, a8)).bind fun r6 =>
 bif (!r6) then (some false)
 else ((spec_VecOk D (a9, a1)).bind fun r7 =>
 bif (!r7) then (some false)
 else ((spec_VecOk D (a10, a1)).bind fun r8 =>
 bif (!r8) then (some false)
 else (bif inb a0 a9.length then
 (spec_LogSeq D (a6, a7, a8)).bind fun r9 =>
 bif (!decide ((rd1 (0 : Int) a9 a0) = r9)) then (some false)
 else ((spec_TableOk D (a11, a1)).bind fun r10 =>
 bif (!r10) then (some false)
 else ((spec_NodeOk_k0 L (0, a0, a1, a2, a3, a4, a5, a6, a7, a8, a9, a10, a11, a12, a13, a14, a15, a16, a17, a18)).bind fun z12 =>
 elimS z12 (fun u13 =>
 some u13)
 (fun z14 =>
 (spec_l1In D (z14.2.2.2.2.2.2.2.2.2.2.2.2.1, 0, 100000)).bind fun r15 =>
 bif (!r15) then (some false)
 else ((spec_l1In D (z14.2.2.2.2.2.2.2.2.2.2.2.2.2.2.2.2.2.1, 0, 100000)).bind fun r16 =>
 bif (!r16) then (some false)
 else ((spec_l1In D (z14.2.2.2.2.2.2.2.2.2.2.2.2.2.1, 1, 4)).bind fun r17 =>
 bif (!r17) then (some false)
 else ((spec_l1In D (z14.2.2.2.2.2.2.2.2.2.2.2.2.2.2.2.1, 1, 20)).bind fun r18 =>
 bif (!r18) then (some false)
 else ((spec_l1In D (z14.2.2.2.2.2.2.2.2.2.2.2.2.2.2.2.2.1, 1, 50)).bind fun r19 =>
 bif (!r19) then (some false)
 else (bif (!decide ((z14.2.2.2.2.2.2.2.2.2.2.2.2.2.2.2.2.2.2.length : Int) = 5)) then (some false)
 else ((spec_NodeOk_k2 L (0, z14)).bind fun z24 =>
 elimS z24 (fun u25 =>
 some u25)
 (fun z26 =>
 (spec_l11Sess D z26).bind fun r27 =>
 some r27)))))))))) else none)))))))
theorem spec_NodeOk_of : OfF spec_NodeOk spec_NodeOk_raw := ofF 78 fun _ _ _ => by kernel_rfl
def laws_toState_raw : RT XState XState := fun D L (a0, a1) =>
 (laws_toItemS D a0).bind fun r1 =>
 (laws_toFloorS D a1).bind fun r2 =>
 some (r1, r2)
theorem laws_toState_of : OfF laws_toState laws_toState_raw := ofF 81 fun _ _ _ => by kernel_rfl
def laws_toTree_raw : RT XTree XTree := fun D L (a0, a1) =>
 (laws_toIntS D a0).bind fun r1 =>
 some (r1, a1)
theorem laws_toTree_of : OfF laws_toTree laws_toTree_raw := ofF 82 fun _ _ _ => by kernel_rfl
def laws_toLog_raw : RT XLog XLog := fun D L (a0, a1, a2) =>
 (laws_toStateS D a2).bind fun r1 =>
 some (a0, a1, r1)
theorem laws_toLog_of : OfF laws_toLog laws_toLog_raw := ofF 83 fun _ _ _ => by kernel_rfl
def laws_toIntS_l0 : RT ((List Int) × Int × (List Int)) (List Int) := fun D L (y0, y1, y2) =>
 bif (decide (y1 < (y0.length : Int))) then (bif inb y1 y0.length then
 bif inb y1 y2.length then
 let l1 := List.set y2 (Int.toNat y1) (rd1 (0 : Int) y0 y1);
 laws_toIntS_k0 L (y0, (IntKind.wrap .i64 (y1 + 1)), l1) else none else none)
 else (some y2)
theorem laws_toIntS_l0_of : OfL laws_toIntS_k0 laws_toIntS_l0 := ofL 84 0 fun _ _ _ => by kernel_rfl
def laws_toIntS_raw : RT (List Int) (List Int) := fun D L a0 =>
 bif (decide ((0 : Int) ≤ (a0.length : Int) ∧ ((a0.length : Int) : Int) = (a0.length : Int)) && fits (Int.toNat (a0.length : Int)) 8) then
 (laws_toIntS_k0 L (a0, 0, (List.replicate (Int.toNat (a0.length : Int)) 0))).bind fun z2 =>
 some z2 else none
theorem laws_toIntS_of : OfF laws_toIntS laws_toIntS_raw := ofF 84 fun _ _ _ => by kernel_rfl
def laws_toIntSS_l0 : RT ((List (List Int)) × Int × (List (List Int))) (List (List Int)) := fun D L (y0, y1, y2) =>
 bif (decide (y1 < (y0.length : Int))) then (bif inb y1 y0.length then
 (laws_toIntS D (rd1 ([] : List Int) y0 y1)).bind fun r1 =>
 bif inb y1 y2.length then
 let l2 := List.set y2 (Int.toNat y1) r1;
 laws_toIntSS_k0 L (y0, (IntKind.wrap .i64 (y1 + 1)), l2) else none else none)
 else (some y2)
theorem laws_toIntSS_l0_of : OfL laws_toIntSS_k0 laws_toIntSS_l0 := ofL 85 0 fun _ _ _ => by kernel_rfl
def laws_toIntSS_raw : RT (List (List Int)) (List (List Int)) := fun D L a0 =>
 bif (decide ((0 : Int) ≤ (a0.length : Int) ∧ ((a0.length : Int) : Int) = (a0.length : Int)) && fits (Int.toNat (a0.length : Int)) 24) then
 (laws_toIntSS_k0 L (a0, 0, (List.replicate (Int.toNat (a0.length : Int)) []))).bind fun z3 =>
 some z3 else none
theorem laws_toIntSS_of : OfF laws_toIntSS laws_toIntSS_raw := ofF 85 fun _ _ _ => by kernel_rfl
def laws_toSessS_l0 : RT ((List XSess) × Int × (List XSess)) (List XSess) := fun D L (y0, y1, y2) =>
 bif (decide (y1 < (y0.length : Int))) then (bif inb y1 y0.length then
 let e1 := (rd1 zSess y0 y1);
 (laws_toSess D e1).bind fun r2 =>
 bif inb y1 y2.length then
 let l3 := List.set y2 (Int.toNat y1) r2;
 laws_toSessS_k0 L (y0, (IntKind.wrap .i64 (y1 + 1)), l3) else none else none)
 else (some y2)
theorem laws_toSessS_l0_of : OfL laws_toSessS_k0 laws_toSessS_l0 := ofL 86 0 fun _ _ _ => by kernel_rfl
def laws_toSessS_raw : RT (List XSess) (List XSess) := fun D L a0 =>
 bif (decide ((0 : Int) ≤ (a0.length : Int) ∧ ((a0.length : Int) : Int) = (a0.length : Int)) && fits (Int.toNat (a0.length : Int)) 32) then
 (laws_toSessS_k0 L (a0, 0, (List.replicate (Int.toNat (a0.length : Int)) (0, 0, false, 0)))).bind fun z4 =>
 some z4 else none
theorem laws_toSessS_of : OfF laws_toSessS laws_toSessS_raw := ofF 86 fun _ _ _ => by kernel_rfl
def laws_toRiseS_l0 : RT ((List XRise) × Int × (List XRise)) (List XRise) := fun D L (y0, y1, y2) =>
 bif (decide (y1 < (y0.length : Int))) then (bif inb y1 y0.length then
 let e1 := (rd1 zRise y0 y1);
 (laws_toRise D e1).bind fun r2 =>
 bif inb y1 y2.length then
 let l3 := List.set y2 (Int.toNat y1) r2;
 laws_toRiseS_k0 L (y0, (IntKind.wrap .i64 (y1 + 1)), l3) else none else none)
 else (some y2)
theorem laws_toRiseS_l0_of : OfL laws_toRiseS_k0 laws_toRiseS_l0 := ofL 87 0 fun _ _ _ => by kernel_rfl
def laws_toRiseS_raw : RT (List XRise) (List XRise) := fun D L a0 =>
 bif (decide ((0 : Int) ≤ (a0.length : Int) ∧ ((a0.length : Int) : Int) = (a0.length : Int)) && fits (Int.toNat (a0.length : Int)) 24) then
 (laws_toRiseS_k0 L (a0, 0, (List.replicate (Int.toNat (a0.length : Int)) (0, 0, 0)))).bind fun z4 =>
 some z4 else none
theorem laws_toRiseS_of : OfF laws_toRiseS laws_toRiseS_raw := ofF 87 fun _ _ _ => by kernel_rfl
def impl_NodeOk_raw : RT XNode Bool := fun D L (a0, a1, a2, a3, a4, a5, a6, a7, a8, a9, a10, a11, a12, a13, a14, a15, a16, a17, a18) =>
 (impl_within D (a1, 1, 5)).bind fun r1 =>
 bif (!r1) then (some false)
 else ((impl_within D (a0, 0, (IntKind.wrap .i64 (a1 - 1)))).bind fun r2 =>
 bif (!r2) then (some false)
 else ((impl_StateOk D (a2, a3)).bind fun r3 =>
 bif (!r3) then (some false)
 else ((impl_TreeOf D (a2, a3)).bind fun r4 =>
 (impl_treeSame D (a4, a5, r4)).bind fun r5 =>
 bif (!r5) then (some false)
 else ((impl_LogSeq D (a6, a7, a8)).bind fun r6 =>
 (impl_LogOk D (a6, a7, a8)).bind fun r7 =>
 bif (!r7) then (some false)
 else ((impl_VecOk D (a9, a1)).bind fun r8 =>
 bif (!r8) then (some false)
 else ((impl_VecOk D (a10, a1)).bind fun r9 =>
 bif (!r9) then (some false)
 else (bif inb a0 a9.length then
 bif (!decide ((rd1 (0 : Int) a9 a0) = r6)) then (some false)
 else ((slices_Maxint_int D a10).bind fun r10 =>
 bif (decide (r6 < r10)) then (some false)
 else ((impl_TableOk D (a11, a1)).bind fun r11 =>
 bif (!r11) then (some false)
 else ((impl_within D (a12, 0, 100000)).bind fun r12 =>
 bif (!r12) then (some false)
 else ((impl_within D (a17, 0, 100000)).bind fun r13 =>
 bif (!r13) then (some false)
 else ((impl_within D (a15, 1, 20)).bind fun r14 =>
 bif r14 then ((impl_within D (a16, 1, 50)).bind fun r15 =>
 bif r15 then ((impl_sessOk D (a0, a1, a2, a3, a4, a5, a6, a7, a8, a9, a10, a11, a12, a13, a14, a15, a16, a17, a18)).bind fun r16 =>
 bif r16 then ((impl_risesOk D (a0, a1, a2, a3, a4, a5, a6, a7, a8, a9, a10, a11, a12, a13, a14, a15, a16, a17, a18)).bind fun r17 =>
 some r17)
 else (some false))
 else (some false))
 else (some false)))))) else none)))))))
theorem impl_NodeOk_of : OfF impl_NodeOk impl_NodeOk_raw := ofF 90 fun _ _ _ => by kernel_rfl
def laws_eqState_raw : RT ((List XItem) × (List XFloor) × (List XItem) × (List XFloor)) Bool := fun D L (a0, a1, a2, a3) =>
 (laws_eqItemS D (a0, a2)).bind fun r1 =>
 bif (!r1) then (some false)
 else ((laws_eqFloorS D (a1, a3)).bind fun r2 =>
 bif (!r2) then (some false)
 else (some true))
theorem laws_eqState_of : OfF laws_eqState laws_eqState_raw := ofF 92 fun _ _ _ => by kernel_rfl
def laws_eqTree_raw : RT ((List Int) × Int × (List Int) × Int) Bool := fun D L (a0, a1, a2, a3) =>
 (laws_eqIntS D (a0, a2)).bind fun r1 =>
 bif (!r1) then (some false)
 else (bif (!decide (a1 = a3)) then (some false)
 else (some true))
theorem laws_eqTree_of : OfF laws_eqTree laws_eqTree_raw := ofF 93 fun _ _ _ => by kernel_rfl
def laws_eqLog_raw : RT (Int × Int × (List XState) × Int × Int × (List XState)) Bool := fun D L (a0, a1, a2, a3, a4, a5) =>
 bif (!decide (a0 = a3)) then (some false)
 else (bif (!decide (a1 = a4)) then (some false)
 else ((laws_eqStateS D (a2, a5)).bind fun r1 =>
 bif (!r1) then (some false)
 else (some true)))
theorem laws_eqLog_of : OfF laws_eqLog laws_eqLog_raw := ofF 94 fun _ _ _ => by kernel_rfl
def laws_eqIntSS_l0 : RT ((List (List Int)) × (List (List Int)) × Int) (Bool ⊕ Unit) := fun D L (y0, y1, y2) =>
 bif (decide (y2 < (y0.length : Int))) then (bif inb y2 y0.length then
 bif inb y2 y1.length then
 (laws_eqIntS D ((rd1 ([] : List Int) y0 y2), (rd1 ([] : List Int) y1 y2))).bind fun r1 =>
 bif (!r1) then (some (Sum.inl false))
 else (laws_eqIntSS_k0 L (y0, y1, (IntKind.wrap .i64 (y2 + 1)))) else none else none)
 else (some (Sum.inr ()))
theorem laws_eqIntSS_l0_of : OfL laws_eqIntSS_k0 laws_eqIntSS_l0 := ofL 95 0 fun _ _ _ => by kernel_rfl
def laws_eqIntSS_raw : RT ((List (List Int)) × (List (List Int))) Bool := fun D L (a0, a1) =>
 bif (!decide ((a0.length : Int) = (a1.length : Int))) then (some false)
 else ((laws_eqIntSS_k0 L (a0, a1, 0)).bind fun z2 =>
 elimS z2 (fun u3 =>
 some u3)
 (fun z4 =>
 some true))
theorem laws_eqIntSS_of : OfF laws_eqIntSS laws_eqIntSS_raw := ofF 95 fun _ _ _ => by kernel_rfl
def laws_eqSessS_l0 : RT ((List XSess) × (List XSess) × Int) (Bool ⊕ Unit) := fun D L (y0, y1, y2) =>
 bif (decide (y2 < (y0.length : Int))) then (bif inb y2 y0.length then
 let e1 := (rd1 zSess y0 y2);
 bif inb y2 y1.length then
 let e2 := (rd1 zSess y1 y2);
 (laws_eqSess D (e1.1, e1.2.1, e1.2.2.1, e1.2.2.2, e2)).bind fun r3 =>
 bif (!r3) then (some (Sum.inl false))
 else (laws_eqSessS_k0 L (y0, y1, (IntKind.wrap .i64 (y2 + 1)))) else none else none)
 else (some (Sum.inr ()))
theorem laws_eqSessS_l0_of : OfL laws_eqSessS_k0 laws_eqSessS_l0 := ofL 96 0 fun _ _ _ => by kernel_rfl
def laws_eqSessS_raw : RT ((List XSess) × (List XSess)) Bool := fun D L (a0, a1) =>
 bif (!decide ((a0.length : Int) = (a1.length : Int))) then (some false)
 else ((laws_eqSessS_k0 L (a0, a1, 0)).bind fun z4 =>
 elimS z4 (fun u5 =>
 some u5)
 (fun z6 =>
 some true))
theorem laws_eqSessS_of : OfF laws_eqSessS laws_eqSessS_raw := ofF 96 fun _ _ _ => by kernel_rfl
def laws_eqRiseS_l0 : RT ((List XRise) × (List XRise) × Int) (Bool ⊕ Unit) := fun D L (y0, y1, y2) =>
 bif (decide (y2 < (y0.length : Int))) then (bif inb y2 y0.length then
 let e1 := (rd1 zRise y0 y2);
 bif inb y2 y1.length then
 let e2 := (rd1 zRise y1 y2);
 (laws_eqRise D (e1.1, e1.2.1, e1.2.2, e2)).bind fun r3 =>
 bif (!r3) then (some (Sum.inl false))
 else (laws_eqRiseS_k0 L (y0, y1, (IntKind.wrap .i64 (y2 + 1)))) else none else none)
 else (some (Sum.inr ()))
theorem laws_eqRiseS_l0_of : OfL laws_eqRiseS_k0 laws_eqRiseS_l0 := ofL 97 0 fun _ _ _ => by kernel_rfl
def laws_eqRiseS_raw : RT ((List XRise) × (List XRise)) Bool := fun D L (a0, a1) =>
 bif (!decide ((a0.length : Int) = (a1.length : Int))) then (some false)
 else ((laws_eqRiseS_k0 L (a0, a1, 0)).bind fun z4 =>
 elimS z4 (fun u5 =>
 some u5)
 (fun z6 =>
 some true))
theorem laws_eqRiseS_of : OfF laws_eqRiseS laws_eqRiseS_raw := ofF 97 fun _ _ _ => by kernel_rfl
def laws_markIntSS_l0 : RT (Int × Int × (List (List Int))) ((Int × (List (List Int)))) := fun D L (y0, y1, y2) =>
 bif (decide (y1 < (y2.length : Int))) then (bif inb y1 y2.length then
 (laws_markIntS D ((rd1 ([] : List Int) y2 y1), y0)).bind fun r1 =>
 let l2 := List.set y2 (Int.toNat y1) r1.2;
 laws_markIntSS_k0 L (r1.1, (IntKind.wrap .i64 (y1 + 1)), l2) else none)
 else (some (y0, y2))
theorem laws_markIntSS_l0_of : OfL laws_markIntSS_k0 laws_markIntSS_l0 := ofL 101 0 fun _ _ _ => by kernel_rfl
def laws_markIntSS_raw : RT ((List (List Int)) × Int) (Int × (List (List Int))) := fun D L (a0, a1) =>
 (laws_markIntSS_k0 L (a1, 0, a0)).bind fun z3 =>
 some z3
theorem laws_markIntSS_of : OfF laws_markIntSS laws_markIntSS_raw := ofF 101 fun _ _ _ => by kernel_rfl
def laws_markSessS_l0 : RT (Int × Int × (List XSess)) ((Int × (List XSess))) := fun D L (y0, y1, y2) =>
 bif (decide (y1 < (y2.length : Int))) then (bif inb y1 y2.length then
 let e1 := (rd1 zSess y2 y1);
 let l2 := List.set y2 (Int.toNat y1) (y0, e1.2);
 bif inb y1 l2.length then
 let e3 := (rd1 zSess l2 y1);
 let l4 := List.set l2 (Int.toNat y1) (e3.1, (IntKind.wrap .i64 (y0 + 1)), e3.2.2);
 bif decide ((3 : Int) ≠ 0) then
 bif inb y1 l4.length then
 let e5 := (rd1 zSess l4 y1);
 let l6 := List.set l4 (Int.toNat y1) (e5.1, e5.2.1, (decide ((Int.tmod (IntKind.wrap .i64 ((IntKind.wrap .i64 (y0 + 1)) + 1)) 3) = 0)), e5.2.2.2);
 bif inb y1 l6.length then
 let e7 := (rd1 zSess l6 y1);
 let l8 := List.set l6 (Int.toNat y1) (e7.1, e7.2.1, e7.2.2.1, (IntKind.wrap .i64 ((IntKind.wrap .i64 ((IntKind.wrap .i64 (y0 + 1)) + 1)) + 1)));
 laws_markSessS_k0 L ((IntKind.wrap .i64 ((IntKind.wrap .i64 ((IntKind.wrap .i64 ((IntKind.wrap .i64 (y0 + 1)) + 1)) + 1)) + 1)), (IntKind.wrap .i64 (y1 + 1)), l8) else none else none else none else none else none)
 else (some (y0, y2))
theorem laws_markSessS_l0_of : OfL laws_markSessS_k0 laws_markSessS_l0 := ofL 102 0 fun _ _ _ => by kernel_rfl
def laws_markSessS_raw : RT ((List XSess) × Int) (Int × (List XSess)) := fun D L (a0, a1) =>
 (laws_markSessS_k0 L (a1, 0, a0)).bind fun z9 =>
 some z9
theorem laws_markSessS_of : OfF laws_markSessS laws_markSessS_raw := ofF 102 fun _ _ _ => by kernel_rfl
def laws_markRiseS_l0 : RT (Int × Int × (List XRise)) ((Int × (List XRise))) := fun D L (y0, y1, y2) =>
 bif (decide (y1 < (y2.length : Int))) then (bif inb y1 y2.length then
 let e1 := (rd1 zRise y2 y1);
 let l2 := List.set y2 (Int.toNat y1) (y0, e1.2);
 bif inb y1 l2.length then
 let e3 := (rd1 zRise l2 y1);
 let l4 := List.set l2 (Int.toNat y1) (e3.1, (IntKind.wrap .i64 (y0 + 1)), e3.2.2);
 bif inb y1 l4.length then
 let e5 := (rd1 zRise l4 y1);
 let l6 := List.set l4 (Int.toNat y1) (e5.1, e5.2.1, (IntKind.wrap .i64 ((IntKind.wrap .i64 (y0 + 1)) + 1)));
 laws_markRiseS_k0 L ((IntKind.wrap .i64 ((IntKind.wrap .i64 ((IntKind.wrap .i64 (y0 + 1)) + 1)) + 1)), (IntKind.wrap .i64 (y1 + 1)), l6) else none else none else none)
 else (some (y0, y2))
theorem laws_markRiseS_l0_of : OfL laws_markRiseS_k0 laws_markRiseS_l0 := ofL 103 0 fun _ _ _ => by kernel_rfl
def laws_markRiseS_raw : RT ((List XRise) × Int) (Int × (List XRise)) := fun D L (a0, a1) =>
 (laws_markRiseS_k0 L (a1, 0, a0)).bind fun z7 =>
 some z7
theorem laws_markRiseS_of : OfF laws_markRiseS laws_markRiseS_raw := ofF 103 fun _ _ _ => by kernel_rfl
def spec_l1In_raw : RT XRise Bool := fun D L (a0, a1, a2) =>
 bif (decide (a1 ≤ a0)) then (some (decide (a0 ≤ a2)))
 else (some false)
theorem spec_l1In_of : OfF spec_l1In spec_l1In_raw := ofF 110 fun _ _ _ => by kernel_rfl
def laws_eqItem_raw : RT (Int × Int × Int × Int × Int × ByteArray × Int × Int × Int × Int × Int × ByteArray) Bool := fun D L (a0, a1, a2, a3, a4, a5, a6, a7, a8, a9, a10, a11) =>
 bif (!decide (a0 = a6)) then (some false)
 else ((laws_eqEntry D (a1, a2, a3, a4, a5, a7, a8, a9, a10, a11)).bind fun r1 =>
 bif (!r1) then (some false)
 else (some true))
theorem laws_eqItem_of : OfF laws_eqItem laws_eqItem_raw := ofF 113 fun _ _ _ => by kernel_rfl
def laws_markNodeS_l0 : RT (Int × Int × (List XNode)) ((Int × (List XNode))) := fun D L (y0, y1, y2) =>
 bif (decide (y1 < (y2.length : Int))) then (bif inb y1 y2.length then
 let e1 := (rd1 zNode y2 y1);
 let l2 := List.set y2 (Int.toNat y1) (y0, e1.2);
 bif inb y1 l2.length then
 let e3 := (rd1 zNode l2 y1);
 let l4 := List.set l2 (Int.toNat y1) (e3.1, (IntKind.wrap .i64 (y0 + 1)), e3.2.2);
 bif inb y1 l4.length then
 let e5 := (rd1 zNode l4 y1);
 (laws_markItemS D ((rd1 zNode l4 y1).2.2.1, (IntKind.wrap .i64 ((IntKind.wrap .i64 (y0 + 1)) + 1)))).bind fun r6 =>
 let e7 := (rd1 zNode l4 y1);
 let l8 := List.set l4 (Int.toNat y1) (e7.1, e7.2.1, r6.2, e7.2.2.2);
 bif inb y1 l8.length then
 let e9 := (rd1 zNode l8 y1);
 (laws_markFloorS D ((rd1 zNode l8 y1).2.2.2.1, r6.1)).bind fun r10 =>
 let e11 := (rd1 zNode l8 y1);
 let l12 := List.set l8 (Int.toNat y1) (e11.1, e11.2.1, e11.2.2.1, r10.2, e11.2.2.2.2);
 bif inb y1 l12.length then
 let e13 := (rd1 zNode l12 y1);
 (laws_markIntS D ((rd1 zNode l12 y1).2.2.2.2.1, r10.1)).bind fun r14 =>
 let e15 := (rd1 zNode l12 y1);
 let l16 := List.set l12 (Int.toNat y1) (e15.1, e15.2.1, e15.2.2.1, e15.2.2.2.1, r14.2, e15.2.2.2.2.2);
 bif inb y1 l16.length then
 let e17 := (rd1 zNode l16 y1);
 let l18 := List.set l16 (Int.toNat y1) (e17.1, e17.2.1, e17.2.2.1, e17.2.2.2.1, e17.2.2.2.2.1, r14.1, e17.2.2.2.2.2.2);
 bif inb y1 l18.length then
 let e19 := (rd1 zNode l18 y1);
 let l20 := List.set l18 (Int.toNat y1) (e19.1, e19.2.1, e19.2.2.1, e19.2.2.2.1, e19.2.2.2.2.1, e19.2.2.2.2.2.1, (IntKind.wrap .i64 (r14.1 + 1)), e19.2.2.2.2.2.2.2);
 bif inb y1 l20.length then
 let e21 := (rd1 zNode l20 y1);
 let l22 := List.set l20 (Int.toNat y1) (e21.1, e21.2.1, e21.2.2.1, e21.2.2.2.1, e21.2.2.2.2.1, e21.2.2.2.2.2.1, e21.2.2.2.2.2.2.1, (IntKind.wrap .i64 ((IntKind.wrap .i64 (r14.1 + 1)) + 1)), e21.2.2.2.2.2.2.2.2);
 bif inb y1 l22.length then
 let e23 := (rd1 zNode l22 y1);
 (laws_markStateS D ((rd1 zNode l22 y1).2.2.2.2.2.2.2.2.1, (IntKind.wrap .i64 ((IntKind.wrap .i64 ((IntKind.wrap .i64 (r14.1 + 1)) + 1)) + 1)))).bind fun r24 =>
 let e25 := (rd1 zNode l22 y1);
 let l26 := List.set l22 (Int.toNat y1) (e25.1, e25.2.1, e25.2.2.1, e25.2.2.2.1, e25.2.2.2.2.1, e25.2.2.2.2.2.1, e25.2.2.2.2.2.2.1, e25.2.2.2.2.2.2.2.1, r24.2, e25.2.2.2.2.2.2.2.2.2);
 bif inb y1 l26.length then
 let e27 := (rd1 zNode l26 y1);
 (laws_markIntS D ((rd1 zNode l26 y1).2.2.2.2.2.2.2.2.2.1, r24.1)).bind fun r28 =>
 let e29 := (rd1 zNode l26 y1);
 let l30 := List.set l26 (Int.toNat y1) (e29.1, e29.2.1, e29.2.2.1, e29.2.2.2.1, e29.2.2.2.2.1, e29.2.2.2.2.2.1, e29.2.2.2.2.2.2.1, e29.2.2.2.2.2.2.2.1, e29.2.2.2.2.2.2.2.2.1, r28.2, e29.2.2.2.2.2.2.2.2.2.2);
 bif inb y1 l30.length then
 let e31 := (rd1 zNode l30 y1);
 (laws_markIntS D ((rd1 zNode l30 y1).2.2.2.2.2.2.2.2.2.2.1, r28.1)).bind fun r32 =>
 let e33 := (rd1 zNode l30 y1);
 let l34 := List.set l30 (Int.toNat y1) (e33.1, e33.2.1, e33.2.2.1, e33.2.2.2.1, e33.2.2.2.2.1, e33.2.2.2.2.2.1, e33.2.2.2.2.2.2.1, e33.2.2.2.2.2.2.2.1, e33.2.2.2.2.2.2.2.2.1, e33.2.2.2.2.2.2.2.2.2.1, r32.2, e33.2.2.2.2.2.2.2.2.2.2.2);
 bif inb y1 l34.length then
 let e35 := (rd1 zNode l34 y1);
 (laws_markIntSS D ((rd1 zNode l34 y1).2.2.2.2.2.2.2.2.2.2.2.1, r32.1)).bind fun r36 =>
 let e37 := (rd1 zNode l34 y1);
 let l38 := List.set l34 (Int.toNat y1) (e37.1, e37.2.1, e37.2.2.1, e37.2.2.2.1, e37.2.2.2.2.1, e37.2.2.2.2.2.1, e37.2.2.2.2.2.2.1, e37.2.2.2.2.2.2.2.1, e37.2.2.2.2.2.2.2.2.1, e37.2.2.2.2.2.2.2.2.2.1, e37.2.2.2.2.2.2.2.2.2.2.1, r36.2, e37.2.2.2.2.2.2.2.2.2.2.2.2);
 bif inb y1 l38.length then
 let e39 := (rd1 zNode l38 y1);
 let l40 := List.set l38 (Int.toNat y1) (e39.1, e39.2.1, e39.2.2.1, e39.2.2.2.1, e39.2.2.2.2.1, e39.2.2.2.2.2.1, e39.2.2.2.2.2.2.1, e39.2.2.2.2.2.2.2.1, e39.2.2.2.2.2.2.2.2.1, e39.2.2.2.2.2.2.2.2.2.1, e39.2.2.2.2.2.2.2.2.2.2.1, e39.2.2.2.2.2.2.2.2.2.2.2.1, r36.1, e39.2.2.2.2.2.2.2.2.2.2.2.2.2);
 bif inb y1 l40.length then
 let e41 := (rd1 zNode l40 y1);
 let l42 := List.set l40 (Int.toNat y1) (e41.1, e41.2.1, e41.2.2.1, e41.2.2.2.1, e41.2.2.2.2.1, e41.2.2.2.2.2.1, e41.2.2.2.2.2.2.1, e41.2.2.2.2.2.2.2.1, e41.2.2.2.2.2.2.2.2.1, e41.2.2.2.2.2.2.2.2.2.1, e41.2.2.2.2.2.2.2.2.2.2.1, e41.2.2.2.2.2.2.2.2.2.2.2.1, e41.2.2.2.2.2.2.2.2.2.2.2.2.1, (IntKind.wrap .i64 (r36.1 + 1)), e41.2.2.2.2.2.2.2.2.2.2.2.2.2.2);
 bif inb y1 l42.length then
 let e43 := (rd1 zNode l42 y1);
 (laws_markSessS D ((rd1 zNode l42 y1).2.2.2.2.2.2.2.2.2.2.2.2.2.2.1, (IntKind.wrap .i64 ((IntKind.wrap .i64 (r36.1 + 1)) + 1)))).bind fun r44 =>
 let e45 := (rd1 zNode l42 y1);
 let l46 := List.set l42 (Int.toNat y1) (e45.1, e45.2.1, e45.2.2.1, e45.2.2.2.1, e45.2.2.2.2.1, e45.2.2.2.2.2.1, e45.2.2.2.2.2.2.1, e45.2.2.2.2.2.2.2.1, e45.2.2.2.2.2.2.2.2.1, e45.2.2.2.2.2.2.2.2.2.1, e45.2.2.2.2.2.2.2.2.2.2.1, e45.2.2.2.2.2.2.2.2.2.2.2.1, e45.2.2.2.2.2.2.2.2.2.2.2.2.1, e45.2.2.2.2.2.2.2.2.2.2.2.2.2.1, r44.2, e45.2.2.2.2.2.2.2.2.2.2.2.2.2.2.2);
 bif inb y1 l46.length then
 let e47 := (rd1 zNode l46 y1);
 let l48 := List.set l46 (Int.toNat y1) (e47.1, e47.2.1, e47.2.2.1, e47.2.2.2.1, e47.2.2.2.2.1, e47.2.2.2.2.2.1, e47.2.2.2.2.2.2.1, e47.2.2.2.2.2.2.2.1, e47.2.2.2.2.2.2.2.2.1, e47.2.2.2.2.2.2.2.2.2.1, e47.2.2.2.2.2.2.2.2.2.2.1, e47.2.2.2.2.2.2.2.2.2.2.2.1, e47.2.2.2.2.2.2.2.2.2.2.2.2.1, e47.2.2.2.2.2.2.2.2.2.2.2.2.2.1, e47.2.2.2.2.2.2.2.2.2.2.2.2.2.2.1, r44.1, e47.2.2.2.2.2.2.2.2.2.2.2.2.2.2.2.2);
 bif inb y1 l48.length then
 let e49 := (rd1 zNode l48 y1);
 let l50 := List.set l48 (Int.toNat y1) (e49.1, e49.2.1, e49.2.2.1, e49.2.2.2.1, e49.2.2.2.2.1, e49.2.2.2.2.2.1, e49.2.2.2.2.2.2.1, e49.2.2.2.2.2.2.2.1, e49.2.2.2.2.2.2.2.2.1, e49.2.2.2.2.2.2.2.2.2.1, e49.2.2.2.2.2.2.2.2.2.2.1, e49.2.2.2.2.2.2.2.2.2.2.2.1, e49.2.2.2.2.2.2.2.2.2.2.2.2.1, e49.2.2.2.2.2.2.2.2.2.2.2.2.2.1, e49.2.2.2.2.2.2.2.2.2.2.2.2.2.2.1, e49.2.2.2.2.2.2.2.2.2.2.2.2.2.2.2.1, (IntKind.wrap .i64 (r44.1 + 1)), e49.2.2.2.2.2.2.2.2.2.2.2.2.2.2.2.2.2);
 bif inb y1 l50.length then
 let e51 := (rd1 zNode l50 y1);
 let l52 := List.set l50 (Int.toNat y1) (e51.1, e51.2.1, e51.2.2.1, e51.2.2.2.1, e51.2.2.2.2.1, e51.2.2.2.2.2.1, e51.2.2.2.2.2.2.1, e51.2.2.2.2.2.2.2.1, e51.2.2.2.2.2.2.2.2.1, e51.2.2.2.2.2.2.2.2.2.1, e51.2.2.2.2.2.2.2.2.2.2.1, e51.2.2.2.2.2.2.2.2.2.2.2.1, e51.2.2.2.2.2.2.2.2.2.2.2.2.1, e51.2.2.2.2.2.2.2.2.2.2.2.2.2.1, e51.2.2.2.2.2.2.2.2.2.2.2.2.2.2.1, e51.2.2.2.2.2.2.2.2.2.2.2.2.2.2.2.1, e51.2.2.2.2.2.2.2.2.2.2.2.2.2.2.2.2.1, (IntKind.wrap .i64 ((IntKind.wrap .i64 (r44.1 + 1)) + 1)), e51.2.2.2.2.2.2.2.2.2.2.2.2.2.2.2.2.2.2);
 bif inb y1 l52.length then
 let e53 := (rd1 zNode l52 y1);
 (laws_markRiseS D ((rd1 zNode l52 y1).2.2.2.2.2.2.2.2.2.2.2.2.2.2.2.2.2.2, (IntKind.wrap .i64 ((IntKind.wrap .i64 ((IntKind.wrap .i64 (r44.1 + 1)) + 1)) + 1)))).bind fun r54 =>
 let e55 := (rd1 zNode l52 y1);
 let l56 := List.set l52 (Int.toNat y1) (e55.1, e55.2.1, e55.2.2.1, e55.2.2.2.1, e55.2.2.2.2.1, e55.2.2.2.2.2.1, e55.2.2.2.2.2.2.1, e55.2.2.2.2.2.2.2.1, e55.2.2.2.2.2.2.2.2.1, e55.2.2.2.2.2.2.2.2.2.1, e55.2.2.2.2.2.2.2.2.2.2.1, e55.2.2.2.2.2.2.2.2.2.2.2.1, e55.2.2.2.2.2.2.2.2.2.2.2.2.1, e55.2.2.2.2.2.2.2.2.2.2.2.2.2.1, e55.2.2.2.2.2.2.2.2.2.2.2.2.2.2.1, e55.2.2.2.2.2.2.2.2.2.2.2.2.2.2.2.1, e55.2.2.2.2.2.2.2.2.2.2.2.2.2.2.2.2.1, e55.2.2.2.2.2.2.2.2.2.2.2.2.2.2.2.2.2.1, r54.2);
 laws_markNodeS_k0 L (r54.1, (IntKind.wrap .i64 (y1 + 1)), l56) else none else none else none else none else none else none else none else none else none else none else none else none else none else none else none else none else none else none else none)
 else (some (y0, y2))
theorem laws_markNodeS_l0_of : OfL laws_markNodeS_k0 laws_markNodeS_l0 := ofL 114 0 fun _ _ _ => by kernel_rfl
def laws_markNodeS_raw : RT ((List XNode) × Int) (Int × (List XNode)) := fun D L (a0, a1) =>
 (laws_markNodeS_k0 L (a1, 0, a0)).bind fun z57 =>
 some z57
theorem laws_markNodeS_of : OfF laws_markNodeS laws_markNodeS_raw := ofF 114 fun _ _ _ => by kernel_rfl
def laws_markPackS_l0 : RT (Int × Int × (List XPack)) ((Int × (List XPack))) := fun D L (y0, y1, y2) =>
 bif (decide (y1 < (y2.length : Int))) then (bif inb y1 y2.length then
 let e1 := (rd1 zPack y2 y1);
 let l2 := List.set y2 (Int.toNat y1) (y0, e1.2);
 bif inb y1 l2.length then
 let e3 := (rd1 zPack l2 y1);
 (laws_markByteS D ((rd1 zPack l2 y1).2.1, (IntKind.wrap .i64 (y0 + 1)))).bind fun r4 =>
 let e5 := (rd1 zPack l2 y1);
 let l6 := List.set l2 (Int.toNat y1) (e5.1, r4.2, e5.2.2);
 bif decide ((3 : Int) ≠ 0) then
 bif inb y1 l6.length then
 let e7 := (rd1 zPack l6 y1);
 let l8 := List.set l6 (Int.toNat y1) (e7.1, e7.2.1, (decide ((Int.tmod r4.1 3) = 0)));
 laws_markPackS_k0 L ((IntKind.wrap .i64 (r4.1 + 1)), (IntKind.wrap .i64 (y1 + 1)), l8) else none else none else none else none)
 else (some (y0, y2))
theorem laws_markPackS_l0_of : OfL laws_markPackS_k0 laws_markPackS_l0 := ofL 115 0 fun _ _ _ => by kernel_rfl
def laws_markPackS_raw : RT ((List XPack) × Int) (Int × (List XPack)) := fun D L (a0, a1) =>
 (laws_markPackS_k0 L (a1, 0, a0)).bind fun z9 =>
 some z9
theorem laws_markPackS_of : OfF laws_markPackS laws_markPackS_raw := ofF 115 fun _ _ _ => by kernel_rfl
def laws_markSaidS_l0 : RT (Int × Int × (List XSaid)) ((Int × (List XSaid))) := fun D L (y0, y1, y2) =>
 bif (decide (y1 < (y2.length : Int))) then (bif inb y1 y2.length then
 let e1 := (rd1 zSaid y2 y1);
 let l2 := List.set y2 (Int.toNat y1) (y0, e1.2);
 bif inb y1 l2.length then
 let e3 := (rd1 zSaid l2 y1);
 (laws_markItemS D ((rd1 zSaid l2 y1).2.1, (IntKind.wrap .i64 (y0 + 1)))).bind fun r4 =>
 let e5 := (rd1 zSaid l2 y1);
 let l6 := List.set l2 (Int.toNat y1) (e5.1, r4.2, e5.2.2);
 bif inb y1 l6.length then
 let e7 := (rd1 zSaid l6 y1);
 (laws_markFloorS D ((rd1 zSaid l6 y1).2.2, r4.1)).bind fun r8 =>
 let e9 := (rd1 zSaid l6 y1);
 let l10 := List.set l6 (Int.toNat y1) (e9.1, e9.2.1, r8.2);
 laws_markSaidS_k0 L (r8.1, (IntKind.wrap .i64 (y1 + 1)), l10) else none else none else none)
 else (some (y0, y2))
theorem laws_markSaidS_l0_of : OfL laws_markSaidS_k0 laws_markSaidS_l0 := ofL 116 0 fun _ _ _ => by kernel_rfl
def laws_markSaidS_raw : RT ((List XSaid) × Int) (Int × (List XSaid)) := fun D L (a0, a1) =>
 (laws_markSaidS_k0 L (a1, 0, a0)).bind fun z11 =>
 some z11
theorem laws_markSaidS_of : OfF laws_markSaidS laws_markSaidS_raw := ofF 116 fun _ _ _ => by kernel_rfl
end
end Go.Proofs.YtjenicbpdklpbaaGreat.M
