/- What the plain forms that FnExactTurned reaches come to: PTurned. No conditions but those that each theorem states. -/
import Derived.Test.YtgkobeililjgbaaFnExactTurnedPInts
namespace Go.Proofs.Ytgkobeililjgbaa.M
open Go Go.Eng Go.Proofs
set_option linter.unusedVariables false
def turnAt (n : Nat) (k : Int) : Nat := (if Int.tmod k n < 0 then Int.tmod k n + n else Int.tmod k n).toNat
def turned (a : List Int) (k : Int) : List Int := a.drop (turnAt a.length k) ++ a.take (turnAt a.length k)
theorem tmod_lt {n : Nat} (hn : 0 < n) (k : Int) : -(n : Int) < Int.tmod k n ∧ Int.tmod k n < n := by
  have h1 := Int.tmod_lt_of_pos k (show (0 : Int) < n by omega)
  have h2 := Int.lt_tmod_of_pos k (show (0 : Int) < n by omega)
  omega
theorem turnAt_eq {n : Nat} (hn : 0 < n) (k : Int) : (turnAt n k : Int) = if Int.tmod k n < 0 then Int.tmod k n + n else Int.tmod k n := by
  obtain ⟨h1, h2⟩ := tmod_lt hn k
  unfold turnAt
  split <;> omega
theorem turnAt_lt {n : Nat} (hn : 0 < n) (k : Int) : turnAt n k < n := by
  obtain ⟨h1, h2⟩ := tmod_lt hn k
  have := turnAt_eq hn k
  split at this <;> omega
theorem tmod_again {n : Nat} (hn : 0 < n) (k : Int) : Int.tmod (Int.tmod k n + n) n = turnAt n k := by
  obtain ⟨h1, h2⟩ := tmod_lt hn k
  have := turnAt_eq hn k
  rw [Int.tmod_eq_emod_of_nonneg (by omega), Int.add_emod_right]
  split at this
  · rw [this, ← Int.add_emod_right, Int.emod_eq_of_lt (by omega) (by omega)]
  · rw [this, Int.emod_eq_of_lt (by omega) (by omega)]
theorem turned_length (a : List Int) (k : Int) : (turned a k).length = a.length := by
  simp [turned]; omega
theorem dt {p : Prop} [Decidable p] (h : p) : decide p = true := decide_eq_true h
theorem turned_parts (a : List Int) (t : Nat) (h : t ≤ a.length) : List.take (Int.toNat ((a.length : Int) - (t : Int))) (List.drop t a) = a.drop t := by
  apply List.take_of_length_le
  rw [List.length_drop]; omega
theorem spec_Turned_ok (a : List Int) (k : Int) (ha : a.length ≤ 4294967296) : spec_Turned w (a, k) = some (turned a k) := by
  apply spec_Turned_of
  by_cases h0 : a.length = 0
  · have : a = [] := List.eq_nil_of_length_eq_zero h0
    subst this
    simp [spec_Turned_raw, turned]
  · have hn : 0 < a.length := by omega
    obtain ⟨h1, h2⟩ := tmod_lt hn k
    have he := turnAt_eq hn k
    have hlt := turnAt_lt hn k
    have hp := turned_parts a _ (Nat.le_of_lt hlt)
    unfold spec_Turned_raw
    have hz : ¬ (a.length : Int) = 0 := by omega
    simp only [decide_false, cond_false, ne_eq, not_false_eq_true, decide_true, cond_true, hz]
    split at he
    · rename_i hneg
      rw [w64 (by omega) (by omega), ← he]
      simp only [dt hneg, cond_true, Int.toNat_natCast, hp, Int.sub_zero, Int.toNat_zero, List.drop_zero, List.nil_append]
      refine (cond_t (by simp; omega)).trans ?_
      refine (cond_t (fits_of (by simp; omega))).trans ?_
      refine (cond_t (by simp; omega)).trans ?_
      refine (cond_t (fits_of (by simp; omega))).trans ?_
      rfl
    · rename_i hneg
      rw [← he]
      simp only [decide_eq_false (show ¬ ((turnAt a.length k : Nat) : Int) < 0 by omega), cond_false, Int.toNat_natCast, hp, Int.sub_zero, Int.toNat_zero, List.drop_zero, List.nil_append]
      refine (cond_t (by simp; omega)).trans ?_
      refine (cond_t (fits_of (by simp; omega))).trans ?_
      refine (cond_t (by simp; omega)).trans ?_
      refine (cond_t (fits_of (by simp; omega))).trans ?_
      rfl
theorem impl_Turned_ok (a : List Int) (k : Int) (ha : a.length ≤ 4294967296) : impl_Turned w (a, k) = some (turned a k) := by
  apply impl_Turned_of
  by_cases h0 : a.length = 0
  · have : a = [] := List.eq_nil_of_length_eq_zero h0
    subst this
    simp [impl_Turned_raw, turned]
  · have hn : 0 < a.length := by omega
    obtain ⟨h1, h2⟩ := tmod_lt hn k
    have he := turnAt_eq hn k
    have hlt := turnAt_lt hn k
    have hp := turned_parts a _ (Nat.le_of_lt hlt)
    have hag := tmod_again hn k
    unfold impl_Turned_raw
    have hz : ¬ (a.length : Int) = 0 := by omega
    rw [w64 (by omega) (by omega), hag]
    simp only [decide_false, cond_false, ne_eq, not_false_eq_true, decide_true, cond_true, hz, Int.toNat_natCast, hp, Int.sub_zero, Int.toNat_zero, List.drop_zero]
    refine (cond_t (by simp; omega)).trans ?_
    rw [copyInts _ (by simp; omega)]
    simp only [Option.bind_some]
    refine (cond_t (by simp; omega)).trans ?_
    refine (cond_t (fits_of (by simp; omega))).trans ?_
    rfl
theorem sumL_one {α : Type} (l : List α) : sumL (fun _ => 1) l = l.length := by
  induction l with
  | nil => rfl
  | cons x l ih => rw [sumL_cons, ih, List.length_cons]; omega
theorem law_Turned (a : List Int) (k : Int) (hm : a.length ≤ maxLen) : laws_FnExactTurned w (a, k) = some true := by
  apply laws_FnExactTurned_of
  by_cases hb : a.length ≤ 1048576
  · have hl : (turned a k).length = a.length := turned_length a k
    have hs1 := sumL_one a
    have hs2 := sumL_one (turned a k)
    have hm1 := markIntS a 1 (by omega) (by omega) (by omega)
    have hm2 := markIntS (turned a k) 1 (by omega) (by omega) (by omega)
    have hh := heldIntS (turned a k) 1 (by omega) (by omega) (by omega)
    simp only [laws_FnExactTurned_raw, toIntS a (by omega), spec_Turned_ok a k (by omega), impl_Turned_ok a k (by omega), eqIntS (turned a k) (turned a k) (by omega), eqIntS a a (by omega), hm1, hm2, hh, Option.bind_some, decide_true, Bool.not_true, cond_false, hs1, hs2, hl]
    have q1 : decide ((1 : Int) + (a.length : Int) < 0) = false := decide_eq_false (by omega)
    have q2 : decide ((1048576 : Int) < (a.length : Int)) = false := decide_eq_false (by omega)
    simp only [q1, q2, cond_false]
  · simp only [laws_FnExactTurned_raw]
    exact cond_t (by simp; omega)
end Go.Proofs.Ytgkobeililjgbaa.M
