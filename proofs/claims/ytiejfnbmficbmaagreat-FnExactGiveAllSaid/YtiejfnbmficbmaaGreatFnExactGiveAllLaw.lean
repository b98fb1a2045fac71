/- FnExactGiveAll: for every world and order the program returns the world that the reference returns. No conditions. -/
import Derived.Test.YtiejfnbmficbmaaGreatRows
import Derived.WalkKit
import Derived.ProofKit
import Derived.OpenShut
import Derived.ShutString
import Derived.ChangeOld
import Derived.Below
import Derived.Carry
import Derived.SizedLaws
import Derived.Test.YtiejfnbmficbmaaGreatFnExactGiveAllSound
import Derived.Test.YtiejfnbmficbmaaGreatFnExactGiveAllPGive
set_option linter.all false
namespace Go.Proofs.YtiejfnbmficbmaaGreat.fnExactGiveAll
open Go Go.ChangeShapes Go.WideShapes Go.ChangeAt Go.RowKit Go.Eng
set_option linter.unusedVariables false
theorem own : ownKnob Tryz.prog.godebug = none := by kernel_rfl
theorem laidOut : laidOutB Tryz.prog = true := by kernel_rfl
set_option maxRecDepth 100000 in
theorem lifted (os : Os) (started : os.Started) (H : Type) (enc : TypeId × Value → H) :
    ReturnsInHanded {} Tryz.checked os 7 .any (Rows.fnExactGiveAllSpec.pre6 enc Tryz.prog Tryz.f7 Rows.fnExactGiveAllRow.domain false) (Rows.fnExactGiveAllSpec.post enc Tryz.prog Tryz.f7 false true false false) := by
  refine returnsInHanded_of_change_sized (C := Tryz.checked) own started (by kernel_rfl) Tryz.func7
    (ChangeSpec.witness6 (enc := enc) (C := Tryz.checked) false ⟨#[], #[.agg #[.slice none 0 0, .slice none 0 0, .slice none 0 0], .slice none 0 0], []⟩ 8 (by kernel_rfl) (by kernel_rfl) (by kernel_rfl) (by kernel_rfl)) ?_
  intro W base args ds gs before hval0 hW hcnd hsz0 _
  have hW' := hW
  obtain ⟨p, q, hA0, hV, rfl, hfz, hnd⟩ := hW
  have hA : DataW.TrodAll enc Tryz.prog W 0 (fun _ => true) true Tryz.f7.params.toList args.toList ds p := hA0
  have hcalls := QP8 (E := M.E) M.hTy M.QRR M.QRP M.hmix M.hRd (f := 7) (by kernel_rfl) (tys := (.cons (.sl M.Kz) (.cons (.sl M.Vf) (.cons (.sl M.Kv) (.cons (.sl (.cons (.int .i64) .nil)) .nil))))) (by kernel_rfl) (m := .ro) (by kernel_rfl) rfl (by kernel_rfl) (fun a ha => M.QMH a.1 a.2.1 a.2.2.1 a.2.2.2 ⟨ha.1, ha.2.1, ha.2.2.1, trivial⟩ (ha.2.2.2.1.1)) (by kernel_rfl) hA (base := base) (fun j t v hj hv => hval0 j t v (by simpa using hj) (by simpa using hv))
  clear hval0 hsz0 hA0
  rw [Tryz.params7] at hA
  obtain ⟨v0, vs0, d0, ds0, p0, q0, hargs, rfl, rfl, h0, r0⟩ := trodAll_cons hA
  obtain ⟨v1, vs1, d1, ds1, p1, q1, rfl, rfl, rfl, h1, r1⟩ := trodAll_cons r0
  obtain ⟨rfl, rfl, rfl⟩ := trodAll_nil r1
  obtain rfl : args = #[v0, v1] := by cases args; simp_all
  obtain ⟨rfl, rfl⟩ := trodVars_none hV
  have lt0 : ∀ x ∈ p0, x.block < W.heap.size := by obtain ⟨m, hm⟩ := h0; exact DataW.trod_lt m _ _ _ hm
  have lt1 : ∀ x ∈ p1, x.block < W.heap.size := by obtain ⟨m, hm⟩ := h1; exact DataW.trod_lt m _ _ _ hm
  refine Calls.mono (show Calls Tryz.prog 7 #[v0, v1] W _ from hcalls) fun e W' ⟨he, bel⟩ => ?_
  subst he
  exact ⟨_, rfl, _, _, _, [], _, [], hW', trodAll_mk1 (shut_bool Tryz.underlying4 _), (trodAll_cons_mk (Below.trod laidOut (by kernel_rfl) (of_decide_eq_true (by kernel_rfl)) h0 bel lt0) (trodAll_cons_mk (Below.trod laidOut (by kernel_rfl) (of_decide_eq_true (by kernel_rfl)) h1 bel lt1) trodAll_mk0)), rfl, bel.frame _, fun h => by cases h⟩
theorem j1 : Rows.fnExactGiveAllRow.wf (OpenSpec.ofChange Rows.fnExactGiveAllSpec) = true := by kernel_rfl
theorem j3 : mapsRowed Tryz.prog = true := by kernel_rfl
theorem j10 : (Rows.fnExactGiveAllRow.inPlace == Tryz.prog.inPlace 7) = true := by kernel_rfl
theorem j11 : (Rows.fnExactGiveAllRow.unfollowed == Tryz.prog.unfollowed 7) = true := by kernel_rfl
theorem j12 : (Rows.fnExactGiveAllRow.recurses == Tryz.prog.recurses 7) = true := by kernel_rfl
theorem j13 : (Rows.fnExactGiveAllRow.named == Tryz.prog.varsNamed 7) = true := by kernel_rfl
theorem j17 : (Rows.fnExactGiveAllRow.loops == (Tryz.f7.params.toList ++ Rows.fnExactGiveAllSpec.plain.varTypes Tryz.prog).any (Tryz.prog.loopsFrom ·)) = true := by kernel_rfl
theorem closed : joinedFacts Tryz.pinned.checked.prog 7 Tryz.f7 Rows.fnExactGiveAllSpec Rows.fnExactGiveAllRow = true := by
  unfold joinedFacts
  simp only [Bool.and_eq_true]
  refine ⟨⟨⟨⟨⟨⟨⟨⟨⟨⟨⟨⟨⟨⟨⟨⟨⟨⟨⟨⟨⟨⟨⟨⟨⟨⟨⟨⟨⟨⟨⟨?_, ?_⟩, ?_⟩, ?_⟩, ?_⟩, ?_⟩, ?_⟩, ?_⟩, ?_⟩, ?_⟩, ?_⟩, ?_⟩, ?_⟩, ?_⟩, ?_⟩, ?_⟩, ?_⟩, ?_⟩, ?_⟩, ?_⟩, ?_⟩, ?_⟩, ?_⟩, ?_⟩, ?_⟩, ?_⟩, ?_⟩, ?_⟩, ?_⟩, ?_⟩, ?_⟩, ?_⟩
  · exact j1
  · exact laidOut
  · exact j3
  · kernel_rfl
  · kernel_rfl
  · kernel_rfl
  · kernel_rfl
  · kernel_rfl
  · kernel_rfl
  · exact j10
  · exact j11
  · exact j12
  · exact j13
  · kernel_rfl
  · kernel_rfl
  · kernel_rfl
  · exact j17
  · kernel_rfl
  · kernel_rfl
  · kernel_rfl
  · kernel_rfl
  · kernel_rfl
  · kernel_rfl
  · kernel_rfl
  · kernel_rfl
  · kernel_rfl
  · kernel_rfl
  · kernel_rfl
  · kernel_rfl
  · kernel_rfl
  · kernel_rfl
  · kernel_rfl
theorem over : Rows.fnExactGiveAllRow.holds Tryz.pinned (OpenSpec.ofChange Rows.fnExactGiveAllSpec) :=
  OpenClaim.holds_of_wide 7 Tryz.f7 rfl rfl rfl rfl rfl rfl rfl ⟨rfl, rfl, rfl, rfl, rfl⟩ rfl rfl rfl rfl rfl (by kernel_rfl) Tryz.func7 closed
    (of_decide_eq_true (by kernel_rfl)) (by unfold Func.isWrapper; first | (rw [if_pos (by decide +kernel)]; kernel_rfl) | (rw [if_neg (by decide +kernel)]; exact ⟨rfl, rfl⟩))
    (fun os started H enc _ => lifted os started H enc)
theorem proved : Rows.FnExactGiveAllSaid := over
#print axioms proved
end Go.Proofs.YtiejfnbmficbmaaGreat.fnExactGiveAll
namespace Go.Proofs.YtiejfnbmficbmaaGreat
/-- The row, under a short name, for the claim. -/
theorem fnExactGiveAll_holds : Rows.FnExactGiveAllSaid := fnExactGiveAll.proved
end Go.Proofs.YtiejfnbmficbmaaGreat

