/- Plain forms of the functions that FnExactTrim reaches, part 1. No conditions. -/
import Derived.Test.YtjenicbpdklpbaaGreatFnExactTrimTab
set_option linter.all false
namespace Go.Proofs.YtjenicbpdklpbaaGreat.M
open Go Go.Eng Go.Proofs
set_option linter.unusedVariables false
noncomputable section
def laws_toState_raw : RT XState XState := fun D L (a0, a1) =>
 (laws_toItemS D a0).bind fun r1 =>
 (laws_toFloorS D a1).bind fun r2 =>
 some (r1, r2)
theorem laws_toState_of : OfF laws_toState laws_toState_raw := ofF 81 fun _ _ _ => by kernel_rfl
def laws_toTree_raw : RT XTree XTree := fun D L (a0, a1) =>
 (laws_toIntS D a0).bind fun r1 =>
 some (r1, a1)
theorem laws_toTree_of : OfF laws_toTree laws_toTree_raw := ofF 82 fun _ _ _ => by kernel_rfl
def laws_toLog_raw : RT XLog XLog := fun D L (a0, a1, a2) =>
 (laws_toStateS D a2).bind fun r1 =>
 some (a0, a1, r1)
theorem laws_toLog_of : OfF laws_toLog laws_toLog_raw := ofF 83 fun _ _ _ => by kernel_rfl
def laws_toIntS_l0 : RT ((List Int) × Int × (List Int)) (List Int) := fun D L (y0, y1, y2) =>
 bif (decide (y1 < (y0.length : Int))) then (bif inb y1 y0.length then
 bif inb y1 y2.length then
 let l1 := List.set y2 (Int.toNat y1) (rd1 (0 : Int) y0 y1);
 laws_toIntS_k0 L (y0, (IntKind.wrap .i64 (y1 + 1)), l1) else none else none)
 else (some y2)
theorem laws_toIntS_l0_of : OfL laws_toIntS_k0 laws_toIntS_l0 := ofL 84 0 fun _ _ _ => by kernel_rfl
def laws_toIntS_raw : RT (List Int) (List Int) := fun D L a0 =>
 bif (decide ((0 : Int) ≤ (a0.length : Int) ∧ ((a0.length : Int) : Int) = (a0.length : Int)) && fits (Int.toNat (a0.length : Int)) 8) then
 (laws_toIntS_k0 L (a0, 0, (List.replicate (Int.toNat (a0.length : Int)) 0))).bind fun z2 =>
 some z2 else none
theorem laws_toIntS_of : OfF laws_toIntS laws_toIntS_raw := ofF 84 fun _ _ _ => by kernel_rfl
def laws_toIntSS_l0 : RT ((List (List Int)) × Int × (List (List Int))) (List (List Int)) := fun D L (y0, y1, y2) =>
 bif (decide (y1 < (y0.length : Int))) then (bif inb y1 y0.length then
 (laws_toIntS D (rd1 ([] : List Int) y0 y1)).bind fun r1 =>
 bif inb y1 y2.length then
 let l2 := List.set y2 (Int.toNat y1) r1;
 laws_toIntSS_k0 L (y0, (IntKind.wrap .i64 (y1 + 1)), l2) else none else none)
 else (some y2)
theorem laws_toIntSS_l0_of : OfL laws_toIntSS_k0 laws_toIntSS_l0 := ofL 85 0 fun _ _ _ => by kernel_rfl
def laws_toIntSS_raw : RT (List (List Int)) (List (List Int)) := fun D L a0 =>
 bif (decide ((0 : Int) ≤ (a0.length : Int) ∧ ((a0.length : Int) : Int) = (a0.length : Int)) && fits (Int.toNat (a0.length : Int)) 24) then
 (laws_toIntSS_k0 L (a0, 0, (List.replicate (Int.toNat (a0.length : Int)) []))).bind fun z3 =>
 some z3 else none
theorem laws_toIntSS_of : OfF laws_toIntSS laws_toIntSS_raw := ofF 85 fun _ _ _ => by kernel_rfl
def laws_toSessS_l0 : RT ((List XSess) × Int × (List XSess)) (List XSess) := fun D L (y0, y1, y2) =>
 bif (decide (y1 < (y0.length : Int))) then (bif inb y1 y0.length then
 let e1 := (rd1 zSess y0 y1);
 (laws_toSess D e1).bind fun r2 =>
 bif inb y1 y2.length then
 let l3 := List.set y2 (Int.toNat y1) r2;
 laws_toSessS_k0 L (y0, (IntKind.wrap .i64 (y1 + 1)), l3) else none else none)
 else (some y2)
theorem laws_toSessS_l0_of : OfL laws_toSessS_k0 laws_toSessS_l0 := ofL 86 0 fun _ _ _ => by kernel_rfl
def laws_toSessS_raw : RT (List XSess) (List XSess) := fun D L a0 =>
 bif (decide ((0 : Int) ≤ (a0.length : Int) ∧ ((a0.length : Int) : Int) = (a0.length : Int)) && fits (Int.toNat (a0.length : Int)) 32) then
 (laws_toSessS_k0 L (a0, 0, (List.replicate (Int.toNat (a0.length : Int)) (0, 0, false, 0)))).bind fun z4 =>
 some z4 else none
theorem laws_toSessS_of : OfF laws_toSessS laws_toSessS_raw := ofF 86 fun _ _ _ => by kernel_rfl
def laws_toRiseS_l0 : RT ((List XRise) × Int × (List XRise)) (List XRise) := fun D L (y0, y1, y2) =>
 bif (decide (y1 < (y0.length : Int))) then (bif inb y1 y0.length then
 let e1 := (rd1 zRise y0 y1);
 (laws_toRise D e1).bind fun r2 =>
 bif inb y1 y2.length then
 let l3 := List.set y2 (Int.toNat y1) r2;
 laws_toRiseS_k0 L (y0, (IntKind.wrap .i64 (y1 + 1)), l3) else none else none)
 else (some y2)
theorem laws_toRiseS_l0_of : OfL laws_toRiseS_k0 laws_toRiseS_l0 := ofL 87 0 fun _ _ _ => by kernel_rfl
def laws_toRiseS_raw : RT (List XRise) (List XRise) := fun D L a0 =>
 bif (decide ((0 : Int) ≤ (a0.length : Int) ∧ ((a0.length : Int) : Int) = (a0.length : Int)) && fits (Int.toNat (a0.length : Int)) 24) then
 (laws_toRiseS_k0 L (a0, 0, (List.replicate (Int.toNat (a0.length : Int)) (0, 0, 0)))).bind fun z4 =>
 some z4 else none
theorem laws_toRiseS_of : OfF laws_toRiseS laws_toRiseS_raw := ofF 87 fun _ _ _ => by kernel_rfl
def impl_copyNode_raw : RT XNode XNode := fun D L (a0, a1, a2, a3, a4, a5, a6, a7, a8, a9, a10, a11, a12, a13, a14, a15, a16, a17, a18) =>
 (impl_copyState D (a2, a3)).bind fun r1 =>
 (impl_copyTree D (a4, a5)).bind fun r2 =>
 (impl_copyLog D (a6, a7, a8)).bind fun r3 =>
 (impl_copyInts D a9).bind fun r4 =>
 (impl_copyInts D a10).bind fun r5 =>
 (impl_copyTable D a11).bind fun r6 =>
 bif fits (List.length ([] : List XSess) + List.length a14) 32 then
 bif fits (List.length ([] : List XRise) + List.length a18) 24 then
 some (a0, a1, r1.1, r1.2, r2.1, r2.2, r3.1, r3.2.1, r3.2.2, r4, r5, r6, a12, a13, (([] : List XSess) ++ a14), a15, a16, a17, (([] : List XRise) ++ a18)) else none else none
theorem impl_copyNode_of : OfF impl_copyNode impl_copyNode_raw := ofF 88 fun _ _ _ => by kernel_rfl
def impl_Safe_l0 : RT (Int × (List Int) × Int × Int × Int × Int × (List XItem) × (List XFloor) × (List Int) × Int × Int × Int × (List XState) × (List Int) × (List Int) × (List (List Int)) × Int × Int × (List XSess) × Int × Int × Int × (List XRise)) Int := fun D L (y0, y1, y2, y3, y4, y5, y6, y7, y8, y9, y10, y11, y12, y13, y14, y15, y16, y17, y18, y19, y20, y21, y22) =>
 bif (decide (y3 < y2)) then (bif inb y3 y1.length then
 bif (!decide (y3 = y4)) then (impl_Safe_k0 L ((mnI y0 (rd1 (0 : Int) y1 y3)), y1, y2, (IntKind.wrap .i64 (y3 + 1)), y4, y5, y6, y7, y8, y9, y10, y11, y12, y13, y14, y15, y16, y17, y18, y19, y20, y21, y22))
 else (impl_Safe_k0 L (y0, y1, y2, (IntKind.wrap .i64 (y3 + 1)), y4, y5, y6, y7, y8, y9, y10, y11, y12, y13, y14, y15, y16, y17, y18, y19, y20, y21, y22)) else none)
 else (some y0)
theorem impl_Safe_l0_of : OfL impl_Safe_k0 impl_Safe_l0 := ofL 89 0 fun _ _ _ => by kernel_rfl
def impl_Safe_raw : RT XNode Int := fun D L (a0, a1, a2, a3, a4, a5, a6, a7, a8, a9, a10, a11, a12, a13, a14, a15, a16, a17, a18) =>
 (impl_NodeOk D (a0, a1, a2, a3, a4, a5, a6, a7, a8, a9, a10, a11, a12, a13, a14, a15, a16, a17, a18)).bind fun r1 =>
 bif (!r1) then (some 0)
 else ((impl_LogSeq D (a6, a7, a8)).bind fun r2 =>
 (impl_Safe_k0 L (r2, a10, (a10.length : Int), 0, a0, a1, a2, a3, a4, a5, a6, a7, a8, a9, a10, a11, a12, a13, a14, a15, a16, a17, a18)).bind fun z3 =>
 some z3)
theorem impl_Safe_of : OfF impl_Safe impl_Safe_raw := ofF 89 fun _ _ _ => by kernel_rfl
def impl_NodeOk_raw : RT XNode Bool := fun D L (a0, a1, a2, a3, a4, a5, a6, a7, a8, a9, a10, a11, a12, a13, a14, a15, a16, a17, a18) =>
 (impl_within D (a1, 1, 5)).bind fun r1 =>
 bif (!r1) then (some false)
 else ((impl_within D (a0, 0, (IntKind.wrap .i64 (a1 - 1)))).bind fun r2 =>
 bif (!r2) then (some false)
 else ((impl_StateOk D (a2, a3)).bind fun r3 =>
 bif (!r3) then (some false)
 else ((impl_TreeOf D (a2, a3)).bind fun r4 =>
 (impl_treeSame D (a4, a5, r4)).bind fun r5 =>
 bif (!r5) then (some false)
 else ((impl_LogSeq D (a6, a7, a8)).bind fun r6 =>
 (impl_LogOk D (a6, a7, a8)).bind fun r7 =>
 bif (!r7) then (some false)
 else ((impl_VecOk D (a9, a1)).bind fun r8 =>
 bif (!r8) then (some false)
 else ((impl_VecOk D (a10, a1)).bind fun r9 =>
 bif (!r9) then (some false)
 else (bif inb a0 a9.length then
 bif (!decide ((rd1 (0 : Int) a9 a0) = r6)) then (some false)
 else ((slices_Maxint_int D a10).bind fun r10 =>
 bif (decide (r6 < r10)) then (some false)
 else ((impl_TableOk D (a11, a1)).bind fun r11 =>
 bif (!r11) then (some false)
 else ((impl_within D (a12, 0, 100000)).bind fun r12 =>
 bif (!r12) then (some false)
 else ((impl_within D (a17, 0, 100000)).bind fun r13 =>
 bif (!r13) then (some false)
 else ((impl_within D (a15, 1, 20)).bind fun r14 =>
 bif r14 then ((impl_within D (a16, 1, 50)).bind fun r15 =>
 bif r15 then ((impl_sessOk D (a0, a1, a2, a3, a4, a5, a6, a7, a8, a9, a10, a11, a12, a13, a14, a15, a16, a17, a18)).bind fun r16 =>
 bif r16 then ((impl_risesOk D (a0, a1, a2, a3, a4, a5, a6, a7, a8, a9, a10, a11, a12, a13, a14, a15, a16, a17, a18)).bind fun r17 =>
 some r17)
 else (some false))
 else (some false))
 else (some false)))))) else none)))))))
theorem impl_NodeOk_of : OfF impl_NodeOk impl_NodeOk_raw := ofF 90 fun _ _ _ => by kernel_rfl
def impl_LogDrop_raw : RT (Int × Int × (List XState) × Int) XLog := fun D L (a0, a1, a2, a3) =>
 (impl_copyLog D (a0, a1, a2)).bind fun r1 =>
 (impl_LogOk D (a0, a1, a2)).bind fun r2 =>
 bif (!r2) then (some r1)
 else ((impl_LogSeq D (a0, a1, a2)).bind fun r3 =>
 (impl_within D (a3, a1, r3)).bind fun r4 =>
 bif (!r4) then (some r1)
 else (bif decide ((0 : Int) ≤ (IntKind.wrap .i64 (a3 - a1)) ∧ (IntKind.wrap .i64 (a3 - a1)) ≤ ((r1.2.2.length : Int) : Int) ∧ (r1.2.2.length : Int) ≤ (r1.2.2.length : Int)) then
 some (r1.1, a3, List.take (Int.toNat ((r1.2.2.length : Int) - (IntKind.wrap .i64 (a3 - a1)))) (List.drop (Int.toNat (IntKind.wrap .i64 (a3 - a1))) r1.2.2)) else none))
theorem impl_LogDrop_of : OfF impl_LogDrop impl_LogDrop_raw := ofF 91 fun _ _ _ => by kernel_rfl
def laws_eqState_raw : RT ((List XItem) × (List XFloor) × (List XItem) × (List XFloor)) Bool := fun D L (a0, a1, a2, a3) =>
 (laws_eqItemS D (a0, a2)).bind fun r1 =>
 bif (!r1) then (some false)
 else ((laws_eqFloorS D (a1, a3)).bind fun r2 =>
 bif (!r2) then (some false)
 else (some true))
theorem laws_eqState_of : OfF laws_eqState laws_eqState_raw := ofF 92 fun _ _ _ => by kernel_rfl
def laws_eqTree_raw : RT ((List Int) × Int × (List Int) × Int) Bool := fun D L (a0, a1, a2, a3) =>
 (laws_eqIntS D (a0, a2)).bind fun r1 =>
 bif (!r1) then (some false)
 else (bif (!decide (a1 = a3)) then (some false)
 else (some true))
theorem laws_eqTree_of : OfF laws_eqTree laws_eqTree_raw := ofF 93 fun _ _ _ => by kernel_rfl
def laws_eqLog_raw : RT (Int × Int × (List XState) × Int × Int × (List XState)) Bool := fun D L (a0, a1, a2, a3, a4, a5) =>
 bif (!decide (a0 = a3)) then (some false)
 else (bif (!decide (a1 = a4)) then (some false)
 else ((laws_eqStateS D (a2, a5)).bind fun r1 =>
 bif (!r1) then (some false)
 else (some true)))
theorem laws_eqLog_of : OfF laws_eqLog laws_eqLog_raw := ofF 94 fun _ _ _ => by kernel_rfl
def laws_eqIntSS_l0 : RT ((List (List Int)) × (List (List Int)) × Int) (Bool ⊕ Unit) := fun D L (y0, y1, y2) =>
 bif (decide (y2 < (y0.length : Int))) then (bif inb y2 y0.length then
 bif inb y2 y1.length then
 (laws_eqIntS D ((rd1 ([] : List Int) y0 y2), (rd1 ([] : List Int) y1 y2))).bind fun r1 =>
 bif (!r1) then (some (Sum.inl false))
 else (laws_eqIntSS_k0 L (y0, y1, (IntKind.wrap .i64 (y2 + 1)))) else none else none)
 else (some (Sum.inr ()))
theorem laws_eqIntSS_l0_of : OfL laws_eqIntSS_k0 laws_eqIntSS_l0 := ofL 95 0 fun _ _ _ => by kernel_rfl
def laws_eqIntSS_raw : RT ((List (List Int)) × (List (List Int))) Bool := fun D L (a0, a1) =>
 bif (!decide ((a0.length : Int) = (a1.length : Int))) then (some false)
 else ((laws_eqIntSS_k0 L (a0, a1, 0)).bind fun z2 =>
 elimS z2 (fun u3 =>
 some u3)
 (fun z4 =>
 some true))
theorem laws_eqIntSS_of : OfF laws_eqIntSS laws_eqIntSS_raw := ofF 95 fun _ _ _ => by kernel_rfl
def laws_eqSessS_l0 : RT ((List XSess) × (List XSess) × Int) (Bool ⊕ Unit) := fun D L (y0, y1, y2) =>
 bif (decide (y2 < (y0.length : Int))) then (bif inb y2 y0.length then
 let e1 := (rd1 zSess y0 y2);
 bif inb y2 y1.length then
 let e2 := (rd1 zSess y1 y2);
 (laws_eqSess D (e1.1, e1.2.1, e1.2.2.1, e1.2.2.2, e2)).bind fun r3 =>
 bif (!r3) then (some (Sum.inl false))
 else (laws_eqSessS_k0 L (y0, y1, (IntKind.wrap .i64 (y2 + 1)))) else none else none)
 else (some (Sum.inr ()))
theorem laws_eqSessS_l0_of : OfL laws_eqSessS_k0 laws_eqSessS_l0 := ofL 96 0 fun _ _ _ => by kernel_rfl
def laws_eqSessS_raw : RT ((List XSess) × (List XSess)) Bool := fun D L (a0, a1) =>
 bif (!decide ((a0.length : Int) = (a1.length : Int))) then (some false)
 else ((laws_eqSessS_k0 L (a0, a1, 0)).bind fun z4 =>
 elimS z4 (fun u5 =>
 some u5)
 (fun z6 =>
 some true))
theorem laws_eqSessS_of : OfF laws_eqSessS laws_eqSessS_raw := ofF 96 fun _ _ _ => by kernel_rfl
def laws_eqRiseS_l0 : RT ((List XRise) × (List XRise) × Int) (Bool ⊕ Unit) := fun D L (y0, y1, y2) =>
 bif (decide (y2 < (y0.length : Int))) then (bif inb y2 y0.length then
 let e1 := (rd1 zRise y0 y2);
 bif inb y2 y1.length then
 let e2 := (rd1 zRise y1 y2);
 (laws_eqRise D (e1.1, e1.2.1, e1.2.2, e2)).bind fun r3 =>
 bif (!r3) then (some (Sum.inl false))
 else (laws_eqRiseS_k0 L (y0, y1, (IntKind.wrap .i64 (y2 + 1)))) else none else none)
 else (some (Sum.inr ()))
theorem laws_eqRiseS_l0_of : OfL laws_eqRiseS_k0 laws_eqRiseS_l0 := ofL 97 0 fun _ _ _ => by kernel_rfl
def laws_eqRiseS_raw : RT ((List XRise) × (List XRise)) Bool := fun D L (a0, a1) =>
 bif (!decide ((a0.length : Int) = (a1.length : Int))) then (some false)
 else ((laws_eqRiseS_k0 L (a0, a1, 0)).bind fun z4 =>
 elimS z4 (fun u5 =>
 some u5)
 (fun z6 =>
 some true))
theorem laws_eqRiseS_of : OfF laws_eqRiseS laws_eqRiseS_raw := ofF 97 fun _ _ _ => by kernel_rfl
def laws_markState_raw : RT ((List XItem) × (List XFloor) × Int) XSaid := fun D L (a0, a1, a2) =>
 (laws_markItemS D (a0, a2)).bind fun r1 =>
 (laws_markFloorS D (a1, r1.1)).bind fun r2 =>
 some (r2.1, r1.2, r2.2)
theorem laws_markState_of : OfF laws_markState laws_markState_raw := ofF 98 fun _ _ _ => by kernel_rfl
def laws_markTree_raw : RT ((List Int) × Int × Int) (Int × (List Int)) := fun D L (a0, a1, a2) =>
 (laws_markIntS D (a0, a2)).bind fun r1 =>
 some r1
theorem laws_markTree_of : OfF laws_markTree laws_markTree_raw := ofF 99 fun _ _ _ => by kernel_rfl
def laws_markLog_raw : RT (Int × Int × (List XState) × Int) (Int × (List XState)) := fun D L (a0, a1, a2, a3) =>
 (laws_markStateS D (a2, a3)).bind fun r1 =>
 some r1
theorem laws_markLog_of : OfF laws_markLog laws_markLog_raw := ofF 100 fun _ _ _ => by kernel_rfl
def laws_markIntSS_l0 : RT (Int × Int × (List (List Int))) ((Int × (List (List Int)))) := fun D L (y0, y1, y2) =>
 bif (decide (y1 < (y2.length : Int))) then (bif inb y1 y2.length then
 (laws_markIntS D ((rd1 ([] : List Int) y2 y1), y0)).bind fun r1 =>
 let l2 := List.set y2 (Int.toNat y1) r1.2;
 laws_markIntSS_k0 L (r1.1, (IntKind.wrap .i64 (y1 + 1)), l2) else none)
 else (some (y0, y2))
theorem laws_markIntSS_l0_of : OfL laws_markIntSS_k0 laws_markIntSS_l0 := ofL 101 0 fun _ _ _ => by kernel_rfl
def laws_markIntSS_raw : RT ((List (List Int)) × Int) (Int × (List (List Int))) := fun D L (a0, a1) =>
 (laws_markIntSS_k0 L (a1, 0, a0)).bind fun z3 =>
 some z3
theorem laws_markIntSS_of : OfF laws_markIntSS laws_markIntSS_raw := ofF 101 fun _ _ _ => by kernel_rfl
def laws_markSessS_l0 : RT (Int × Int × (List XSess)) ((Int × (List XSess))) := fun D L (y0, y1, y2) =>
 bif (decide (y1 < (y2.length : Int))) then (bif inb y1 y2.length then
 let e1 := (rd1 zSess y2 y1);
 let l2 := List.set y2 (Int.toNat y1) (y0, e1.2);
 bif inb y1 l2.length then
 let e3 := (rd1 zSess l2 y1);
 let l4 := List.set l2 (Int.toNat y1) (e3.1, (IntKind.wrap .i64 (y0 + 1)), e3.2.2);
 bif decide ((3 : Int) ≠ 0) then
 bif inb y1 l4.length then
 let e5 := (rd1 zSess l4 y1);
 let l6 := List.set l4 (Int.toNat y1) (e5.1, e5.2.1, (decide ((Int.tmod (IntKind.wrap .i64 ((IntKind.wrap .i64 (y0 + 1)) + 1)) 3) = 0)), e5.2.2.2);
 bif inb y1 l6.length then
 let e7 := (rd1 zSess l6 y1);
 let l8 := List.set l6 (Int.toNat y1) (e7.1, e7.2.1, e7.2.2.1, (IntKind.wrap .i64 ((IntKind.wrap .i64 ((IntKind.wrap .i64 (y0 + 1)) + 1)) + 1)));
 laws_markSessS_k0 L ((IntKind.wrap .i64 ((IntKind.wrap .i64 ((IntKind.wrap .i64 ((IntKind.wrap .i64 (y0 + 1)) + 1)) + 1)) + 1)), (IntKind.wrap .i64 (y1 + 1)), l8) else none else none else none else none else none)
 else (some (y0, y2))
theorem laws_markSessS_l0_of : OfL laws_markSessS_k0 laws_markSessS_l0 := ofL 102 0 fun _ _ _ => by kernel_rfl
def laws_markSessS_raw : RT ((List XSess) × Int) (Int × (List XSess)) := fun D L (a0, a1) =>
 (laws_markSessS_k0 L (a1, 0, a0)).bind fun z9 =>
 some z9
theorem laws_markSessS_of : OfF laws_markSessS laws_markSessS_raw := ofF 102 fun _ _ _ => by kernel_rfl
def laws_markRiseS_l0 : RT (Int × Int × (List XRise)) ((Int × (List XRise))) := fun D L (y0, y1, y2) =>
 bif (decide (y1 < (y2.length : Int))) then (bif inb y1 y2.length then
 let e1 := (rd1 zRise y2 y1);
 let l2 := List.set y2 (Int.toNat y1) (y0, e1.2);
 bif inb y1 l2.length then
 let e3 := (rd1 zRise l2 y1);
 let l4 := List.set l2 (Int.toNat y1) (e3.1, (IntKind.wrap .i64 (y0 + 1)), e3.2.2);
 bif inb y1 l4.length then
 let e5 := (rd1 zRise l4 y1);
 let l6 := List.set l4 (Int.toNat y1) (e5.1, e5.2.1, (IntKind.wrap .i64 ((IntKind.wrap .i64 (y0 + 1)) + 1)));
 laws_markRiseS_k0 L ((IntKind.wrap .i64 ((IntKind.wrap .i64 ((IntKind.wrap .i64 (y0 + 1)) + 1)) + 1)), (IntKind.wrap .i64 (y1 + 1)), l6) else none else none else none)
 else (some (y0, y2))
theorem laws_markRiseS_l0_of : OfL laws_markRiseS_k0 laws_markRiseS_l0 := ofL 103 0 fun _ _ _ => by kernel_rfl
def laws_markRiseS_raw : RT ((List XRise) × Int) (Int × (List XRise)) := fun D L (a0, a1) =>
 (laws_markRiseS_k0 L (a1, 0, a0)).bind fun z7 =>
 some z7
theorem laws_markRiseS_of : OfF laws_markRiseS laws_markRiseS_raw := ofF 103 fun _ _ _ => by kernel_rfl
def laws_heldState_raw : RT ((List XItem) × (List XFloor) × Int) Int := fun D L (a0, a1, a2) =>
 (laws_heldItemS D (a0, a2)).bind fun r1 =>
 bif (decide (r1 < 0)) then (some (-1))
 else ((laws_heldFloorS D (a1, r1)).bind fun r2 =>
 bif (decide (r2 < 0)) then (some (-1))
 else (some r2))
theorem laws_heldState_of : OfF laws_heldState laws_heldState_raw := ofF 104 fun _ _ _ => by kernel_rfl
def laws_heldTree_raw : RT ((List Int) × Int × Int) Int := fun D L (a0, a1, a2) =>
 (laws_heldIntS D (a0, a2)).bind fun r1 =>
 bif (decide (r1 < 0)) then (some (-1))
 else (some r1)
theorem laws_heldTree_of : OfF laws_heldTree laws_heldTree_raw := ofF 105 fun _ _ _ => by kernel_rfl
def laws_heldLog_raw : RT (Int × Int × (List XState) × Int) Int := fun D L (a0, a1, a2, a3) =>
 (laws_heldStateS D (a2, a3)).bind fun r1 =>
 bif (decide (r1 < 0)) then (some (-1))
 else (some r1)
theorem laws_heldLog_of : OfF laws_heldLog laws_heldLog_raw := ofF 106 fun _ _ _ => by kernel_rfl
def laws_heldIntSS_l0 : RT ((List (List Int)) × Int × Int) (Int ⊕ Int) := fun D L (y0, y1, y2) =>
 bif (decide (y2 < (y0.length : Int))) then (bif inb y2 y0.length then
 (laws_heldIntS D ((rd1 ([] : List Int) y0 y2), y1)).bind fun r1 =>
 bif (decide (r1 < 0)) then (some (Sum.inl (-1)))
 else (laws_heldIntSS_k0 L (y0, r1, (IntKind.wrap .i64 (y2 + 1)))) else none)
 else (some (Sum.inr y1))
theorem laws_heldIntSS_l0_of : OfL laws_heldIntSS_k0 laws_heldIntSS_l0 := ofL 107 0 fun _ _ _ => by kernel_rfl
def laws_heldIntSS_raw : RT ((List (List Int)) × Int) Int := fun D L (a0, a1) =>
 (laws_heldIntSS_k0 L (a0, a1, 0)).bind fun z2 =>
 elimS z2 (fun u3 =>
 some u3)
 (fun z4 =>
 some z4)
theorem laws_heldIntSS_of : OfF laws_heldIntSS laws_heldIntSS_raw := ofF 107 fun _ _ _ => by kernel_rfl
def laws_heldSessS_l0 : RT ((List XSess) × Int × Int) (Int ⊕ Int) := fun D L (y0, y1, y2) =>
 bif (decide (y2 < (y0.length : Int))) then (bif inb y2 y0.length then
 let e1 := (rd1 zSess y0 y2);
 bif (!decide (e1.1 = y1)) then (some (Sum.inl (-1)))
 else (bif inb y2 y0.length then
 let e2 := (rd1 zSess y0 y2);
 bif (!decide (e2.2.1 = (IntKind.wrap .i64 (y1 + 1)))) then (some (Sum.inl (-1)))
 else (bif inb y2 y0.length then
 let e3 := (rd1 zSess y0 y2);
 bif decide ((3 : Int) ≠ 0) then
 bif (!(e3.2.2.1 == (decide ((Int.tmod (IntKind.wrap .i64 ((IntKind.wrap .i64 (y1 + 1)) + 1)) 3) = 0)))) then (some (Sum.inl (-1)))
 else (bif inb y2 y0.length then
 let e4 := (rd1 zSess y0 y2);
 bif (!decide (e4.2.2.2 = (IntKind.wrap .i64 ((IntKind.wrap .i64 ((IntKind.wrap .i64 (y1 + 1)) + 1)) + 1)))) then (some (Sum.inl (-1)))
 else (laws_heldSessS_k0 L (y0, (IntKind.wrap .i64 ((IntKind.wrap .i64 ((IntKind.wrap .i64 ((IntKind.wrap .i64 (y1 + 1)) + 1)) + 1)) + 1)), (IntKind.wrap .i64 (y2 + 1)))) else none) else none else none) else none) else none)
 else (some (Sum.inr y1))
theorem laws_heldSessS_l0_of : OfL laws_heldSessS_k0 laws_heldSessS_l0 := ofL 108 0 fun _ _ _ => by kernel_rfl
def laws_heldSessS_raw : RT ((List XSess) × Int) Int := fun D L (a0, a1) =>
 (laws_heldSessS_k0 L (a0, a1, 0)).bind fun z5 =>
 elimS z5 (fun u6 =>
 some u6)
 (fun z7 =>
 some z7)
theorem laws_heldSessS_of : OfF laws_heldSessS laws_heldSessS_raw := ofF 108 fun _ _ _ => by kernel_rfl
def laws_heldRiseS_l0 : RT ((List XRise) × Int × Int) (Int ⊕ Int) := fun D L (y0, y1, y2) =>
 bif (decide (y2 < (y0.length : Int))) then (bif inb y2 y0.length then
 let e1 := (rd1 zRise y0 y2);
 bif (!decide (e1.1 = y1)) then (some (Sum.inl (-1)))
 else (bif inb y2 y0.length then
 let e2 := (rd1 zRise y0 y2);
 bif (!decide (e2.2.1 = (IntKind.wrap .i64 (y1 + 1)))) then (some (Sum.inl (-1)))
 else (bif inb y2 y0.length then
 let e3 := (rd1 zRise y0 y2);
 bif (!decide (e3.2.2 = (IntKind.wrap .i64 ((IntKind.wrap .i64 (y1 + 1)) + 1)))) then (some (Sum.inl (-1)))
 else (laws_heldRiseS_k0 L (y0, (IntKind.wrap .i64 ((IntKind.wrap .i64 ((IntKind.wrap .i64 (y1 + 1)) + 1)) + 1)), (IntKind.wrap .i64 (y2 + 1)))) else none) else none) else none)
 else (some (Sum.inr y1))
theorem laws_heldRiseS_l0_of : OfL laws_heldRiseS_k0 laws_heldRiseS_l0 := ofL 109 0 fun _ _ _ => by kernel_rfl
def laws_heldRiseS_raw : RT ((List XRise) × Int) Int := fun D L (a0, a1) =>
 (laws_heldRiseS_k0 L (a0, a1, 0)).bind fun z4 =>
 elimS z4 (fun u5 =>
 some u5)
 (fun z6 =>
 some z6)
theorem laws_heldRiseS_of : OfF laws_heldRiseS laws_heldRiseS_raw := ofF 109 fun _ _ _ => by kernel_rfl
def spec_l1In_raw : RT XRise Bool := fun D L (a0, a1, a2) =>
 bif (decide (a1 ≤ a0)) then (some (decide (a0 ≤ a2)))
 else (some false)
theorem spec_l1In_of : OfF spec_l1In spec_l1In_raw := ofF 110 fun _ _ _ => by kernel_rfl
def laws_eqItem_raw : RT (Int × Int × Int × Int × Int × ByteArray × Int × Int × Int × Int × Int × ByteArray) Bool := fun D L (a0, a1, a2, a3, a4, a5, a6, a7, a8, a9, a10, a11) =>
 bif (!decide (a0 = a6)) then (some false)
 else ((laws_eqEntry D (a1, a2, a3, a4, a5, a7, a8, a9, a10, a11)).bind fun r1 =>
 bif (!r1) then (some false)
 else (some true))
theorem laws_eqItem_of : OfF laws_eqItem laws_eqItem_raw := ofF 113 fun _ _ _ => by kernel_rfl
def laws_markText_l0 : RT (Int × ByteArray) ByteArray := fun D L (y0, y1) =>
 bif (decide (0 < y0)) then (bif decide ((10 : Int) ≠ 0) then
 bif fits (ByteArray.size (toBytes [(IntKind.wrap .u8 (IntKind.wrap .i64 (48 + (Int.tmod y0 10))))]) + ByteArray.size y1) 1 then
 bif decide ((10 : Int) ≠ 0) then
 laws_markText_k0 L ((IntKind.wrap .i64 (Int.tdiv y0 10)), ((toBytes [(IntKind.wrap .u8 (IntKind.wrap .i64 (48 + (Int.tmod y0 10))))]) ++ y1)) else none else none else none)
 else (some y1)
theorem laws_markText_l0_of : OfL laws_markText_k0 laws_markText_l0 := ofL 117 0 fun _ _ _ => by kernel_rfl
def laws_markText_raw : RT Int ByteArray := fun D L a0 =>
 bif (decide (a0 ≤ 0)) then (some (⟨#[109, 48]⟩ : ByteArray))
 else ((laws_markText_k0 L (a0, (⟨#[]⟩ : ByteArray))).bind fun z1 =>
 bif fits (ByteArray.size (⟨#[109]⟩ : ByteArray) + ByteArray.size z1) 1 then
 some ((⟨#[109]⟩ : ByteArray) ++ z1) else none)
theorem laws_markText_of : OfF laws_markText laws_markText_raw := ofF 117 fun _ _ _ => by kernel_rfl
def spec_LogOk_l0 : RT (Int × Int × Int × (List XState)) (Bool ⊕ Unit) := fun D L (y0, y1, y2, y3) =>
 bif (decide (y0 < (y3.length : Int))) then (bif inb y0 y3.length then
 let e3 := (rd1 zState y3 y0);
 (spec_StateOk D e3).bind fun r4 =>
 bif (!r4) then (some (Sum.inl false))
 else (spec_LogOk_k0 L ((IntKind.wrap .i64 (y0 + 1)), y1, y2, y3)) else none)
 else (some (Sum.inr ()))
theorem spec_LogOk_l0_of : OfL spec_LogOk_k0 spec_LogOk_l0 := ofL 137 0 fun _ _ _ => by kernel_rfl
def spec_LogOk_raw : RT XLog Bool := fun D L (a0, a1, a2) =>
 (spec_l1In D (a0, 1, 8)).bind fun r1 =>
 bif (!r1) then (some false)
 else (bif (decide (a0 < (a2.length : Int))) then (some false)
 else ((spec_l1In D (a1, 0, 100000)).bind fun r2 =>
 bif (!r2) then (some false)
 else (bif (decide (100000 < (IntKind.wrap .i64 (a1 + (a2.length : Int))))) then (some false)
 else ((spec_LogOk_k0 L (0, a0, a1, a2)).bind fun z5 =>
 elimS z5 (fun u6 =>
 some u6)
 (fun z7 =>
 some true)))))
theorem spec_LogOk_of : OfF spec_LogOk spec_LogOk_raw := ofF 137 fun _ _ _ => by kernel_rfl
def impl_within_raw : RT XRise Bool := fun D L (a0, a1, a2) =>
 bif (decide (a1 ≤ a0)) then (some (decide (a0 ≤ a2)))
 else (some false)
theorem impl_within_of : OfF impl_within impl_within_raw := ofF 140 fun _ _ _ => by kernel_rfl
def impl_StateOk_l0 : RT ((List XFloor) × Int × Int × (List XItem) × (List XFloor)) (Bool ⊕ XState) := fun D L (y0, y1, y2, y3, y4) =>
 bif (decide (y2 < y1)) then (bif inb y2 y0.length then
 let e1 := (rd1 zFloor y0 y2);
 (impl_isNode D e1.1).bind fun r2 =>
 bif (!r2) then (some (Sum.inl false))
 else ((impl_within D (e1.2, 1, 1000)).bind fun r3 =>
 bif (!r3) then (some (Sum.inl false))
 else (bif (decide (0 < y2)) then (bif inb (IntKind.wrap .i64 (y2 - 1)) y4.length then
 let e4 := (rd1 zFloor y4 (IntKind.wrap .i64 (y2 - 1)));
 bif (decide (e1.1 ≤ e4.1)) then (some (Sum.inl false))
 else (impl_StateOk_k0 L (y0, y1, (IntKind.wrap .i64 (y2 + 1)), y3, y4)) else none)
 else (impl_StateOk_k0 L (y0, y1, (IntKind.wrap .i64 (y2 + 1)), y3, y4)))) else none)
 else (some (Sum.inr (y3, y4)))
theorem impl_StateOk_l0_of : OfL impl_StateOk_k0 impl_StateOk_l0 := ofL 141 0 fun _ _ _ => by kernel_rfl
def impl_StateOk_l2 : RT ((List XItem) × Int × Int × (List XItem) × (List XFloor)) (Bool ⊕ Unit) := fun D L (y0, y1, y2, y3, y4) =>
 bif (decide (y2 < y1)) then (bif inb y2 y0.length then
 let e8 := (rd1 zItem y0 y2);
 (impl_isNode D e8.1).bind fun r9 =>
 bif (!r9) then (some (Sum.inl false))
 else ((impl_EntryOk D e8.2).bind fun r10 =>
 bif (!r10) then (some (Sum.inl false))
 else ((impl_FloorOf D (y3, y4, e8.1)).bind fun r11 =>
 bif (decide (e8.2.1 ≤ r11)) then (some (Sum.inl false))
 else (bif (decide (0 < y2)) then (bif inb (IntKind.wrap .i64 (y2 - 1)) y3.length then
 let e12 := (rd1 zItem y3 (IntKind.wrap .i64 (y2 - 1)));
 bif (decide (e8.1 ≤ e12.1)) then (some (Sum.inl false))
 else (impl_StateOk_k2 L (y0, y1, (IntKind.wrap .i64 (y2 + 1)), y3, y4)) else none)
 else (impl_StateOk_k2 L (y0, y1, (IntKind.wrap .i64 (y2 + 1)), y3, y4))))) else none)
 else (some (Sum.inr ()))
theorem impl_StateOk_l2_of : OfL impl_StateOk_k2 impl_StateOk_l2 := ofL 141 2 fun _ _ _ => by kernel_rfl
def impl_StateOk_raw : RT XState Bool := fun D L (a0, a1) =>
 (impl_StateOk_k0 L (a1, (a1.length : Int), 0, a0, a1)).bind fun z5 =>
 elimS z5 (fun u6 =>
 some u6)
 (fun z7 =>
 (impl_StateOk_k2 L (z7.1, (z7.1.length : Int), 0, z7)).bind fun z13 =>
 elimS z13 (fun u14 =>
 some u14)
 (fun z15 =>
 some true))
theorem impl_StateOk_of : OfF impl_StateOk impl_StateOk_raw := ofF 141 fun _ _ _ => by kernel_rfl
def impl_LogOk_l0 : RT ((List XState) × Int × Int × Int × Int × (List XState)) (Bool ⊕ XLog) := fun D L (y0, y1, y2, y3, y4, y5) =>
 bif (decide (y2 < y1)) then (bif inb y2 y0.length then
 let e1 := (rd1 zState y0 y2);
 (impl_StateOk D e1).bind fun r2 =>
 bif (!r2) then (some (Sum.inl false))
 else (impl_LogOk_k0 L (y0, y1, (IntKind.wrap .i64 (y2 + 1)), y3, y4, y5)) else none)
 else (some (Sum.inr (y3, y4, y5)))
theorem impl_LogOk_l0_of : OfL impl_LogOk_k0 impl_LogOk_l0 := ofL 142 0 fun _ _ _ => by kernel_rfl
def impl_LogOk_raw : RT XLog Bool := fun D L (a0, a1, a2) =>
 (impl_LogOk_k0 L (a2, (a2.length : Int), 0, a0, a1, a2)).bind fun z3 =>
 elimS z3 (fun u4 =>
 some u4)
 (fun z5 =>
 (impl_within D (z5.1, 1, 8)).bind fun r6 =>
 bif r6 then (bif (decide ((z5.2.2.length : Int) ≤ z5.1)) then ((impl_within D (z5.2.1, 0, 100000)).bind fun r7 =>
 bif r7 then (some (decide ((IntKind.wrap .i64 (z5.2.1 + (z5.2.2.length : Int))) ≤ 100000)))
 else (some false))
 else (some false))
 else (some false))
theorem impl_LogOk_of : OfF impl_LogOk impl_LogOk_raw := ofF 142 fun _ _ _ => by kernel_rfl
def spec_StateOk_l0 : RT XSaid (Bool ⊕ XState) := fun D L (y0, y1, y2) =>
 bif (decide (y0 < (y1.length : Int))) then (bif inb y0 y1.length then
 let e1 := (rd1 zItem y1 y0);
 (spec_l3Node D e1.1).bind fun r2 =>
 bif (!r2) then (some (Sum.inl false))
 else (bif (decide (0 < y0)) then (bif inb (IntKind.wrap .i64 (y0 - 1)) y1.length then
 let e3 := (rd1 zItem y1 (IntKind.wrap .i64 (y0 - 1)));
 bif (decide (e1.1 ≤ e3.1)) then (some (Sum.inl false))
 else ((spec_EntryOk D e1.2).bind fun r4 =>
 bif (!r4) then (some (Sum.inl false))
 else ((spec_FloorOf D (y1, y2, e1.1)).bind fun r5 =>
 bif (decide (e1.2.1 ≤ r5)) then (some (Sum.inl false))
 else (spec_StateOk_k0 L ((IntKind.wrap .i64 (y0 + 1)), y1, y2)))) else none)
 else ((spec_EntryOk D e1.2).bind fun r6 =>
 bif (!r6) then (some (Sum.inl false))
 else ((spec_FloorOf D (y1, y2, e1.1)).bind fun r7 =>
 bif (decide (e1.2.1 ≤ r7)) then (some (Sum.inl false))
 else (spec_StateOk_k0 L ((IntKind.wrap .i64 (y0 + 1)), y1, y2))))) else none)
 else (some (Sum.inr (y1, y2)))
theorem spec_StateOk_l0_of : OfL spec_StateOk_k0 spec_StateOk_l0 := ofL 145 0 fun _ _ _ => by kernel_rfl
def spec_StateOk_l2 : RT XSaid (Bool ⊕ Unit) := fun D L (y0, y1, y2) =>
 bif (decide (y0 < (y2.length : Int))) then (bif inb y0 y2.length then
 let e11 := (rd1 zFloor y2 y0);
 (spec_l3Node D e11.1).bind fun r12 =>
 bif (!r12) then (some (Sum.inl false))
 else (bif (decide (0 < y0)) then (bif inb (IntKind.wrap .i64 (y0 - 1)) y2.length then
 let e13 := (rd1 zFloor y2 (IntKind.wrap .i64 (y0 - 1)));
 bif (decide (e11.1 ≤ e13.1)) then (some (Sum.inl false))
 else ((spec_l1In D (e11.2, 1, 1000)).bind fun r14 =>
 bif (!r14) then (some (Sum.inl false))
 else (spec_StateOk_k2 L ((IntKind.wrap .i64 (y0 + 1)), y1, y2))) else none)
 else ((spec_l1In D (e11.2, 1, 1000)).bind fun r15 =>
 bif (!r15) then (some (Sum.inl false))
 else (spec_StateOk_k2 L ((IntKind.wrap .i64 (y0 + 1)), y1, y2)))) else none)
 else (some (Sum.inr ()))
theorem spec_StateOk_l2_of : OfL spec_StateOk_k2 spec_StateOk_l2 := ofL 145 2 fun _ _ _ => by kernel_rfl
def spec_StateOk_raw : RT XState Bool := fun D L (a0, a1) =>
 (spec_StateOk_k0 L (0, a0, a1)).bind fun z8 =>
 elimS z8 (fun u9 =>
 some u9)
 (fun z10 =>
 (spec_StateOk_k2 L (0, z10)).bind fun z16 =>
 elimS z16 (fun u17 =>
 some u17)
 (fun z18 =>
 some true))
theorem spec_StateOk_of : OfF spec_StateOk spec_StateOk_raw := ofF 145 fun _ _ _ => by kernel_rfl
end
end Go.Proofs.YtjenicbpdklpbaaGreat.M
