/- PlainGone: for every list of states and every int, the program's PlainGone and the reference's answer with the same number, and the argument stays as it is. No conditions. -/
import Derived.Test.YtgkobeililjgbaaRows
import Derived.WalkKit
import Derived.ProofKit
import Derived.OpenShut
import Derived.ShutString
import Derived.ChangeOld
import Derived.Below
import Derived.Carry
import Derived.SizedLaws
import Derived.Test.YtgkobeililjgbaaFnExactPlainGoneSound
import Derived.Test.YtgkobeililjgbaaFnExactPlainGonePPlainGone
namespace Go.Proofs.Ytgkobeililjgbaa.fnExactPlainGone
open Go Go.ChangeShapes Go.WideShapes Go.ChangeAt Go.RowKit Go.Eng
set_option linter.unusedVariables false
theorem own : ownKnob Try.prog.godebug = none := by kernel_rfl
theorem laidOut : laidOutB Try.prog = true := by kernel_rfl
set_option maxRecDepth 100000 in
theorem lifted (os : Os) (started : os.Started) (H : Type) (enc : TypeId × Value → H) :
    ReturnsInHanded {} Try.checked os 7 .any (Rows.fnExactPlainGoneSpec.pre6 enc Try.prog Try.f7 Rows.fnExactPlainGoneRow.domain false) (Rows.fnExactPlainGoneSpec.post enc Try.prog Try.f7 false true false false) := by
  refine returnsInHanded_of_change_sized (C := Try.checked) own started (by kernel_rfl) Try.func7
    (ChangeSpec.witness6 (enc := enc) (C := Try.checked) false ⟨#[], #[.slice none 0 0, .int .i64 0], []⟩ 8 (by kernel_rfl) (by kernel_rfl) (by kernel_rfl) (by kernel_rfl)) ?_
  intro W base args ds gs before hval0 hW hcnd hsz0 _
  have hW' := hW
  obtain ⟨p, q, hA0, hV, rfl, hfz, hnd⟩ := hW
  have hA : DataW.TrodAll enc Try.prog W 0 (fun _ => true) true Try.f7.params.toList args.toList ds p := hA0
  have hcalls := law_calls (E := M.E) M.hTy M.hCode M.hLoops M.hmix M.hRd (f := 7) (by kernel_rfl) (tys := (.cons (.sl M.tState) (.cons (.int .i64) .nil))) (by kernel_rfl) (m := .ro) (by kernel_rfl) rfl (by kernel_rfl) (fun a ha => M.law_PlainGone a.1 a.2 (⟨ha.1.1, fun y hy => M.fit_State (ha.1.2 y hy)⟩)) (by kernel_rfl) hA (base := base) (fun j t v hj hv => hval0 j t v (by simpa using hj) (by simpa using hv))
  clear hval0 hsz0 hA0
  rw [Try.params7] at hA
  obtain ⟨v0, vs0, d0, ds0, p0, q0, hargs, rfl, rfl, h0, r0⟩ := trodAll_cons hA
  obtain ⟨v1, vs1, d1, ds1, p1, q1, rfl, rfl, rfl, h1, r1⟩ := trodAll_cons r0
  obtain ⟨rfl, rfl, rfl⟩ := trodAll_nil r1
  obtain rfl : args = #[v0, v1] := by cases args; simp_all
  obtain ⟨rfl, rfl⟩ := trodVars_none hV
  have lt0 : ∀ x ∈ p0, x.block < W.heap.size := by obtain ⟨m, hm⟩ := h0; exact DataW.trod_lt m _ _ _ hm
  have lt1 : ∀ x ∈ p1, x.block < W.heap.size := by obtain ⟨m, hm⟩ := h1; exact DataW.trod_lt m _ _ _ hm
  refine Calls.mono (show Calls Try.prog 7 #[v0, v1] W _ from hcalls) fun e W' ⟨he, bel⟩ => ?_
  subst he
  exact ⟨_, rfl, _, _, _, [], _, [], hW', trodAll_mk1 (shut_bool Try.underlying4 _), (trodAll_cons_mk (Below.trod laidOut (by kernel_rfl) (of_decide_eq_true (by kernel_rfl)) h0 bel lt0) (trodAll_cons_mk (Below.trod laidOut (by kernel_rfl) (of_decide_eq_true (by kernel_rfl)) h1 bel lt1) trodAll_mk0)), rfl, bel.frame _, fun h => by cases h⟩
theorem over : Rows.fnExactPlainGoneRow.holds Try.pinned (OpenSpec.ofChange Rows.fnExactPlainGoneSpec) :=
  OpenClaim.holds_of_wide 7 Try.f7 rfl rfl rfl rfl rfl rfl rfl ⟨rfl, rfl, rfl, rfl, rfl⟩ rfl rfl rfl rfl rfl (by kernel_rfl) Try.func7 (by kernel_rfl)
    (of_decide_eq_true (by kernel_rfl)) (by unfold Func.isWrapper; first | (rw [if_pos (by decide +kernel)]; kernel_rfl) | (rw [if_neg (by decide +kernel)]; exact ⟨rfl, rfl⟩))
    (fun os started H enc _ => lifted os started H enc)
theorem proved : Rows.FnExactPlainGoneSaid := over
#print axioms proved
end Go.Proofs.Ytgkobeililjgbaa.fnExactPlainGone
namespace Go.Proofs.Ytgkobeililjgbaa
/-- The row, under a short name, for the claim. -/
theorem fnExactPlainGone_holds : Rows.FnExactPlainGoneSaid := fnExactPlainGone.proved
end Go.Proofs.Ytgkobeililjgbaa
