/- What the plain forms that FnTurned reaches come to: PFnTurned. No conditions but those that each theorem states. -/
import Derived.Test.YtgkobeililjgbaaFnTurnedPDraw
namespace Go.Proofs.Ytgkobeililjgbaa.M
open Go Go.Eng Go.Proofs
set_option linter.unusedVariables false
theorem sameInts_ok (a : List Int) (h : a.length ≤ maxLen) : laws_sameInts w (a, a) = some true := by
  apply laws_sameInts_of
  have e := loop_all a.length (fun i => laws_sameInts_k0 wl (a, a, (i : Int))) (.inr ())
    (fun i h1 r hk => by
      apply laws_sameInts_l0_of
      simp only [laws_sameInts_l0, ilt h1, inb_of h1, rd1_get h1, inc h1 h, cond_true, decide_true, Bool.not_true, cond_false]
      exact hk)
    (by
      apply laws_sameInts_l0_of
      simp only [laws_sameInts_l0, ilt_self, cond_false])
  simp only [Int.natCast_zero] at e
  simp only [laws_sameInts_raw, decide_true, Bool.not_true, cond_false, e, Option.bind_some, elimS, Sum.elim_inr]
theorem l4_ok (k : Int) (n : Nat) (hn : 0 < n) (hn2 : n ≤ 1000) : laws_l4 w (k, (n : Int)) = some (turnAt n k : Int) := by
  apply laws_l4_of
  obtain ⟨h1, h2⟩ := tmod_lt hn k
  have he := turnAt_eq hn k
  simp only [laws_l4_raw, dt (show (n : Int) ≠ 0 by omega), cond_true]
  split at he
  · rename_i h
    rw [dt h, cond_true, w64 (by omega) (by omega), he]
  · rename_i h
    rw [df h, cond_false, he]
theorem isOrder_turned {l : List Int} {n : Nat} (h : isOrder l n) (k : Int) : isOrder (turned l k) n := by
  refine ⟨by rw [turned_length]; exact h.1, fun q hq => ?_⟩
  have := h.2 q hq
  rw [← List.take_append_drop (turnAt l.length k) l, List.mem_append] at this
  simp only [turned, List.mem_append]
  exact this.symm
theorem turned_back (l : List Int) (k : Int) (h0 : 0 < l.length) : turned (turned l k) (((l.length : Nat) : Int) - (turnAt l.length k : Int)) = l := by
  have hlt := turnAt_lt h0 k
  have hl := turned_length l k
  have e : turnAt l.length (((l.length : Nat) : Int) - (turnAt l.length k : Int)) = if turnAt l.length k = 0 then 0 else l.length - turnAt l.length k := by
    have he := turnAt_eq h0 (((l.length : Nat) : Int) - (turnAt l.length k : Int))
    have ht : Int.tmod (((l.length : Nat) : Int) - (turnAt l.length k : Int)) (l.length : Nat) = if turnAt l.length k = 0 then 0 else ((l.length - turnAt l.length k : Nat) : Int) := by
      rw [Int.tmod_eq_emod_of_nonneg (by omega)]
      split
      · rename_i hz; rw [hz]; simp
      · rw [Int.emod_eq_of_lt (by omega) (by omega)]; omega
    rw [ht] at he
    split at he <;> split at he <;> split <;> omega
  rw [turned, hl, e]
  split
  · rename_i hz
    simp [turned, hz]
  · rename_i hz
    have hd : (l.drop (turnAt l.length k)).length = l.length - turnAt l.length k := by simp
    have e1 : (turned l k).drop (l.length - turnAt l.length k) = l.take (turnAt l.length k) := by
      rw [turned, ← hd, List.drop_left]
    have e2 : (turned l k).take (l.length - turnAt l.length k) = l.drop (turnAt l.length k) := by
      rw [turned, ← hd, List.take_left]
    rw [e1, e2, List.take_append_drop]
theorem DrawTurned_some (b : List Int) (hb : b.length ≤ 1099511627776) : ∃ l k, spec_DrawTurned w b = some (l, k) ∧ l.length ≤ 5 ∧ isOrder l l.length := by
  obtain ⟨h, e0⟩ := l1New_some b hb
  obtain ⟨x, i1, h1, e1, x0, x1, _, c1⟩ := l1Below_some b 0 h 6 ⟨by omega, by omega, hb⟩ (by omega)
  have hx := x1 (by omega)
  obtain ⟨n, rfl⟩ : ∃ n : Nat, x = n := ⟨x.toNat, by omega⟩
  obtain ⟨l, i2, h2, e2, o, c2⟩ := l23Order_some b i1 h1 n c1 (by omega)
  obtain ⟨k, i3, h3, e3, _, _⟩ := l1PickInt_some b i2 h2 [0, 1, 2, 7, (-1), 9223372036854775807, (-9223372036854775808)] c2 (by simp) (by simp)
  refine ⟨l, k, spec_DrawTurned_of _ ?_, by rw [o.1]; omega, by rw [o.1]; exact o⟩
  simp only [spec_DrawTurned_raw, e0, e1, e2, e3, Option.bind_some]
theorem DrawPermutation_some (b : List Int) (hb : b.length ≤ 1099511627776) : ∃ l k, spec_DrawPermutation w b = some (l, k) ∧ l.length ≤ 6 := by
  obtain ⟨h, e0⟩ := l1New_some b hb
  obtain ⟨x, i1, h1, e1, x0, x1, _, c1⟩ := l1Below_some b 0 h 6 ⟨by omega, by omega, hb⟩ (by omega)
  have hx := x1 (by omega)
  obtain ⟨n, rfl⟩ : ∃ n : Nat, x = n := ⟨x.toNat, by omega⟩
  obtain ⟨l, i2, h2, e2, o, c2⟩ := l23Order_some b i1 h1 n c1 (by omega)
  obtain ⟨d, i3, h3, e3, d0, d1, _, c3⟩ := l1Below_some b i2 h2 5 c2 (by omega)
  obtain ⟨y, i4, h4, e4, y0, y1, _, c4⟩ := l1Below_some b i3 h3 7 c3 (by omega)
  obtain ⟨z, i5, h5, e5, z0, z1, _, c5⟩ := l1Below_some b i3 h3 3 c3 (by omega)
  have hl := o.1
  by_cases q0 : d = 0
  · refine ⟨l ++ [0], n, spec_DrawPermutation_of _ ?_, by simp; omega⟩
    simp only [spec_DrawPermutation_raw, e0, e1, e2, e3, Option.bind_some, dt q0, cond_true]
    exact cond_t (fits_of (by simp; omega))
  · by_cases q1 : d = 1
    · by_cases hn : 0 < (n : Int)
      · refine ⟨List.set l (Int.toNat 0) (IntKind.wrap .i64 (y - 1)), n, spec_DrawPermutation_of _ ?_, ?_⟩
        · simp only [spec_DrawPermutation_raw, e0, e1, e2, e3, e4, Option.bind_some, df q0, cond_false, dt q1, cond_true, dt hn]
          exact cond_t (by simp [inb]; omega)
        · simp; omega
      · refine ⟨l, n, spec_DrawPermutation_of _ ?_, by omega⟩
        simp only [spec_DrawPermutation_raw, e0, e1, e2, e3, e4, Option.bind_some, df q0, cond_false, dt q1, cond_true, df hn]
    · by_cases q2 : d = 2
      · refine ⟨l, IntKind.wrap .i64 ((IntKind.wrap .i64 ((n : Int) + z)) - 1), spec_DrawPermutation_of _ ?_, by omega⟩
        · simp only [spec_DrawPermutation_raw, e0, e1, e2, e3, e5, Option.bind_some, df q0, cond_false, df q1, dt q2, cond_true]
      · refine ⟨l, n, spec_DrawPermutation_of _ ?_, by omega⟩
        simp only [spec_DrawPermutation_raw, e0, e1, e2, e3, Option.bind_some, df q0, cond_false, df q1, df q2]
theorem big_ok (b : List Int) : laws_big w b = some (decide (1048576 < ((b.length : Nat) : Int))) := by
  apply laws_big_of
  simp only [laws_big_raw]
theorem law_FnTurned (b : List Int) (hm : b.length ≤ maxLen) : laws_FnTurned w b = some true := by
  apply laws_FnTurned_of
  simp only [laws_FnTurned_raw, big_ok, Option.bind_some]
  by_cases hb : (1048576 : Int) < ((b.length : Nat) : Int)
  · rw [dt hb, cond_true]
  · rw [df hb, cond_false]
    obtain ⟨l, k, e, hl, ho⟩ := DrawTurned_some b (by omega)
    obtain ⟨q, n, e2, hq⟩ := DrawPermutation_some b (by omega)
    have htl := turned_length l k
    simp only [e, Option.bind_some, impl_Turned_ok l k (by omega), spec_Turned_ok l k (by omega), sameInts_ok (turned l k) (by simp only [maxLen]; omega), Bool.not_true, cond_false, htl]
    by_cases h0 : l.length = 0
    · have : ((l.length : Nat) : Int) = 0 := by omega
      simp only [this, decide_true, cond_true]
    · have hz : ¬ ((l.length : Nat) : Int) = 0 := by omega
      have hlt := turnAt_lt (show 0 < l.length by omega) k
      have hw : IntKind.wrap .i64 (((l.length : Nat) : Int) - (turnAt l.length k : Int)) = ((l.length : Nat) : Int) - (turnAt l.length k : Int) := w64 (by omega) (by omega)
      have hp := permOk_of (isOrder_turned ho k)
      simp only [hz, decide_false, cond_false, l4_ok k l.length (by omega) (by omega), Option.bind_some, hw, impl_Turned_ok (turned l k) (((l.length : Nat) : Int) - (turnAt l.length k : Int)) (by omega), turned_back l k (by omega), e2, sameInts_ok l (by simp only [maxLen]; omega), cond_true, Permutation_ok l _ (show l.length ≤ maxLen by simp only [maxLen]; omega), permOk_of ho, Permutation_ok (turned l k) _ (show (turned l k).length ≤ maxLen by simp only [maxLen]; omega), hp, Permutation_ok q n (by simp only [maxLen]; omega), sPermutation_ok q n (by simp only [maxLen]; omega), beq_self_eq_true]
end Go.Proofs.Ytgkobeililjgbaa.M
