/- Turned: for every list of ints and every int, the program's Turned and the reference's answer with the same list, and the argument and the other results stay as they are. No conditions. -/
import Derived.Test.YtgkobeililjgbaaRows
import Derived.WalkKit
import Derived.ProofKit
import Derived.OpenShut
import Derived.ShutString
import Derived.ChangeOld
import Derived.Below
import Derived.Carry
import Derived.SizedLaws
import Derived.Test.YtgkobeililjgbaaFnExactTurnedSound
import Derived.Test.YtgkobeililjgbaaFnExactTurnedPTurned
namespace Go.Proofs.Ytgkobeililjgbaa.fnExactTurned
open Go Go.ChangeShapes Go.WideShapes Go.ChangeAt Go.RowKit Go.Eng
set_option linter.unusedVariables false
theorem own : ownKnob Try.prog.godebug = none := by kernel_rfl
theorem laidOut : laidOutB Try.prog = true := by kernel_rfl
set_option maxRecDepth 100000 in
theorem lifted (os : Os) (started : os.Started) (H : Type) (enc : TypeId × Value → H) :
    ReturnsInHanded {} Try.checked os 4 .any (Rows.fnExactTurnedSpec.pre6 enc Try.prog Try.f4 Rows.fnExactTurnedRow.domain false) (Rows.fnExactTurnedSpec.post enc Try.prog Try.f4 false true false false) := by
  refine returnsInHanded_of_change_sized (C := Try.checked) own started (by kernel_rfl) Try.func4
    (ChangeSpec.witness6 (enc := enc) (C := Try.checked) false ⟨#[], #[.slice none 0 0, .int .i64 0], []⟩ 8 (by kernel_rfl) (by kernel_rfl) (by kernel_rfl) (by kernel_rfl)) ?_
  intro W base args ds gs before hval0 hW hcnd hsz0 _
  have hW' := hW
  obtain ⟨p, q, hA0, hV, rfl, hfz, hnd⟩ := hW
  have hA : DataW.TrodAll enc Try.prog W 0 (fun _ => true) true Try.f4.params.toList args.toList ds p := hA0
  have hcalls := law_calls (E := M.E) M.hTy M.hCode M.hLoops M.hmix M.hRd (f := 4) (by kernel_rfl) (tys := (.cons (.sl (.cons (.int .i64) .nil)) (.cons (.int .i64) .nil))) (by kernel_rfl) (m := .ro) (by kernel_rfl) rfl (by kernel_rfl) (fun a ha => M.law_Turned a.1 a.2 ha.1.1) (by kernel_rfl) hA (base := base) (fun j t v hj hv => hval0 j t v (by simpa using hj) (by simpa using hv))
  clear hval0 hsz0 hA0
  rw [Try.params4] at hA
  obtain ⟨v0, vs0, d0, ds0, p0, q0, hargs, rfl, rfl, h0, r0⟩ := trodAll_cons hA
  obtain ⟨v1, vs1, d1, ds1, p1, q1, rfl, rfl, rfl, h1, r1⟩ := trodAll_cons r0
  obtain ⟨rfl, rfl, rfl⟩ := trodAll_nil r1
  obtain rfl : args = #[v0, v1] := by cases args; simp_all
  obtain ⟨rfl, rfl⟩ := trodVars_none hV
  have lt0 : ∀ x ∈ p0, x.block < W.heap.size := by obtain ⟨m, hm⟩ := h0; exact DataW.trod_lt m _ _ _ hm
  have lt1 : ∀ x ∈ p1, x.block < W.heap.size := by obtain ⟨m, hm⟩ := h1; exact DataW.trod_lt m _ _ _ hm
  refine Calls.mono (show Calls Try.prog 4 #[v0, v1] W _ from hcalls) fun e W' ⟨he, bel⟩ => ?_
  subst he
  exact ⟨_, rfl, _, _, _, [], _, [], hW', trodAll_mk1 (shut_bool Try.underlying4 _), (trodAll_cons_mk (Below.trod laidOut (by kernel_rfl) (of_decide_eq_true (by kernel_rfl)) h0 bel lt0) (trodAll_cons_mk (Below.trod laidOut (by kernel_rfl) (of_decide_eq_true (by kernel_rfl)) h1 bel lt1) trodAll_mk0)), rfl, bel.frame _, fun h => by cases h⟩
theorem over : Rows.fnExactTurnedRow.holds Try.pinned (OpenSpec.ofChange Rows.fnExactTurnedSpec) :=
  OpenClaim.holds_of_wide 4 Try.f4 rfl rfl rfl rfl rfl rfl rfl ⟨rfl, rfl, rfl, rfl, rfl⟩ rfl rfl rfl rfl rfl (by kernel_rfl) Try.func4 (by kernel_rfl)
    (of_decide_eq_true (by kernel_rfl)) (by unfold Func.isWrapper; first | (rw [if_pos (by decide +kernel)]; kernel_rfl) | (rw [if_neg (by decide +kernel)]; exact ⟨rfl, rfl⟩))
    (fun os started H enc _ => lifted os started H enc)
theorem proved : Rows.FnExactTurnedSaid := over
#print axioms proved
end Go.Proofs.Ytgkobeililjgbaa.fnExactTurned
namespace Go.Proofs.Ytgkobeililjgbaa
/-- The row, under a short name, for the claim. -/
theorem fnExactTurned_holds : Rows.FnExactTurnedSaid := fnExactTurned.proved
end Go.Proofs.Ytgkobeililjgbaa
