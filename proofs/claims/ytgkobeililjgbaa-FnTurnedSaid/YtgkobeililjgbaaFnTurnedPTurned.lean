/- What the plain forms that FnTurned reaches come to: PTurned. No conditions but those that each theorem states. -/
import Derived.Test.YtgkobeililjgbaaFnTurnedPInts
namespace Go.Proofs.Ytgkobeililjgbaa.M
open Go Go.Eng Go.Proofs
set_option linter.unusedVariables false
def turnAt (n : Nat) (k : Int) : Nat := (if Int.tmod k n < 0 then Int.tmod k n + n else Int.tmod k n).toNat
def turned (a : List Int) (k : Int) : List Int := a.drop (turnAt a.length k) ++ a.take (turnAt a.length k)
theorem tmod_lt {n : Nat} (hn : 0 < n) (k : Int) : -(n : Int) < Int.tmod k n ∧ Int.tmod k n < n := by
  have h1 := Int.tmod_lt_of_pos k (show (0 : Int) < n by omega)
  have h2 := Int.lt_tmod_of_pos k (show (0 : Int) < n by omega)
  omega
theorem turnAt_eq {n : Nat} (hn : 0 < n) (k : Int) : (turnAt n k : Int) = if Int.tmod k n < 0 then Int.tmod k n + n else Int.tmod k n := by
  obtain ⟨h1, h2⟩ := tmod_lt hn k
  unfold turnAt
  split <;> omega
theorem turnAt_lt {n : Nat} (hn : 0 < n) (k : Int) : turnAt n k < n := by
  obtain ⟨h1, h2⟩ := tmod_lt hn k
  have := turnAt_eq hn k
  split at this <;> omega
theorem tmod_again {n : Nat} (hn : 0 < n) (k : Int) : Int.tmod (Int.tmod k n + n) n = turnAt n k := by
  obtain ⟨h1, h2⟩ := tmod_lt hn k
  have := turnAt_eq hn k
  rw [Int.tmod_eq_emod_of_nonneg (by omega), Int.add_emod_right]
  split at this
  · rw [this, ← Int.add_emod_right, Int.emod_eq_of_lt (by omega) (by omega)]
  · rw [this, Int.emod_eq_of_lt (by omega) (by omega)]
theorem turned_length (a : List Int) (k : Int) : (turned a k).length = a.length := by
  simp [turned]; omega
theorem turned_parts (a : List Int) (t : Nat) (h : t ≤ a.length) : List.take (Int.toNat ((a.length : Int) - (t : Int))) (List.drop t a) = a.drop t := by
  apply List.take_of_length_le
  rw [List.length_drop]; omega
theorem spec_Turned_ok (a : List Int) (k : Int) (ha : a.length ≤ 4294967296) : spec_Turned w (a, k) = some (turned a k) := by
  apply spec_Turned_of
  by_cases h0 : a.length = 0
  · have : a = [] := List.eq_nil_of_length_eq_zero h0
    subst this
    simp [spec_Turned_raw, turned]
  · have hn : 0 < a.length := by omega
    obtain ⟨h1, h2⟩ := tmod_lt hn k
    have he := turnAt_eq hn k
    have hlt := turnAt_lt hn k
    have hp := turned_parts a _ (Nat.le_of_lt hlt)
    unfold spec_Turned_raw
    have hz : ¬ (a.length : Int) = 0 := by omega
    simp only [decide_false, cond_false, ne_eq, not_false_eq_true, decide_true, cond_true, hz]
    split at he
    · rename_i hneg
      rw [w64 (by omega) (by omega), ← he]
      simp only [dt hneg, cond_true, Int.toNat_natCast, hp, Int.sub_zero, Int.toNat_zero, List.drop_zero, List.nil_append]
      refine (cond_t (by simp; omega)).trans ?_
      refine (cond_t (fits_of (by simp; omega))).trans ?_
      refine (cond_t (by simp; omega)).trans ?_
      refine (cond_t (fits_of (by simp; omega))).trans ?_
      rfl
    · rename_i hneg
      rw [← he]
      simp only [decide_eq_false (show ¬ ((turnAt a.length k : Nat) : Int) < 0 by omega), cond_false, Int.toNat_natCast, hp, Int.sub_zero, Int.toNat_zero, List.drop_zero, List.nil_append]
      refine (cond_t (by simp; omega)).trans ?_
      refine (cond_t (fits_of (by simp; omega))).trans ?_
      refine (cond_t (by simp; omega)).trans ?_
      refine (cond_t (fits_of (by simp; omega))).trans ?_
      rfl
theorem impl_Turned_ok (a : List Int) (k : Int) (ha : a.length ≤ 4294967296) : impl_Turned w (a, k) = some (turned a k) := by
  apply impl_Turned_of
  by_cases h0 : a.length = 0
  · have : a = [] := List.eq_nil_of_length_eq_zero h0
    subst this
    simp [impl_Turned_raw, turned]
  · have hn : 0 < a.length := by omega
    obtain ⟨h1, h2⟩ := tmod_lt hn k
    have he := turnAt_eq hn k
    have hlt := turnAt_lt hn k
    have hp := turned_parts a _ (Nat.le_of_lt hlt)
    have hag := tmod_again hn k
    unfold impl_Turned_raw
    have hz : ¬ (a.length : Int) = 0 := by omega
    rw [w64 (by omega) (by omega), hag]
    simp only [decide_false, cond_false, ne_eq, not_false_eq_true, decide_true, cond_true, hz, Int.toNat_natCast, hp, Int.sub_zero, Int.toNat_zero, List.drop_zero]
    refine (cond_t (by simp; omega)).trans ?_
    rw [copyInts _ (by simp; omega)]
    simp only [Option.bind_some]
    refine (cond_t (by simp; omega)).trans ?_
    refine (cond_t (fits_of (by simp; omega))).trans ?_
    rfl
end Go.Proofs.Ytgkobeililjgbaa.M
