/- Permutation: the program's Permutation and the reference's answer alike, for every list of ints and every int; the law itself looks only at lists of at most 1048576 ints. -/
import Derived.Test.YthmmlooakkkmoaaPFnExactPermutationx2
namespace Go.Proofs.Ythmmlooakkkmoaa.Pure
open Go.RowKit Go.Proofs.Ythmmlooakkkmoaa.PFnExactPermutation Go.Proofs.YthmmlooakkkmoaaW.PrintWords Go.Proofs.YthmmlooakkkmoaaW.PrintLast

theorem wrap_next {x : Int} (h0 : 0 ≤ x) (h : x < 4294967296) : wrap64 (x + 1) = x + 1 := by
  unfold wrap64; omega

theorem rd_at (l : List Int) (i : Nat) (h : i < l.length) : rd l (i : Int) = l[i] := by
  simp [rd, h]

theorem toInt_go (l : List Int) (hl : l.length ≤ 1048576) : ∀ (m k : Nat) (y : List Int) (i : Nat), l.length - i = m → i ≤ l.length →
    m < k → y.length = l.length → y.take i = l.take i → laws_toIntS.l0 k l y i = some l := by
  intro m
  induction m with
  | zero =>
    intro k y i h hi hk hy ht
    obtain ⟨k, rfl⟩ : ∃ j, k = j + 1 := ⟨k - 1, by omega⟩
    obtain rfl : i = l.length := by omega
    unfold laws_toIntS.l0
    rw [if_neg (by omega)]
    rw [← hy, List.take_length, hy, List.take_length] at ht
    rw [ht]
  | succ m ih =>
    intro k y i h hi hk hy ht
    obtain ⟨k, rfl⟩ : ∃ j, k = j + 1 := ⟨k - 1, by omega⟩
    unfold laws_toIntS.l0
    rw [if_pos (by omega), if_pos (by omega), if_pos (by omega), wrap_next (by omega) (by omega), rd_at l i (by omega)]
    rw [show ((i : Int) + 1) = ((i + 1 : Nat) : Int) by omega]
    refine ih k _ (i + 1) (by omega) (by omega) (by omega) (by simpa using hy) ?_
    rw [List.take_add_one, List.take_add_one, ← ht]
    simp only [Int.toNat_natCast]
    rw [List.take_set_of_le (Nat.le_refl _)]
    rw [List.getElem?_set]
    simp [hy, show i < l.length by omega]

theorem toInt_is (l : List Int) (hl : l.length ≤ 1048576) (k : Nat) (hk : l.length < k) : laws_toIntS.f k l = some l := by
  unfold laws_toIntS.f
  rw [if_pos (by omega), if_pos (by omega)]
  exact toInt_go l hl _ k _ 0 rfl (by omega) (by omega) (by simp) (by simp)

theorem eqInt_go (l : List Int) (hl : l.length ≤ 1048576) : ∀ (m k : Nat) (i : Nat), l.length - i = m → i ≤ l.length →
    m < k → laws_eqIntS.l0 k l l i = some true := by
  intro m
  induction m with
  | zero =>
    intro k i h hi hk
    obtain ⟨k, rfl⟩ : ∃ j, k = j + 1 := ⟨k - 1, by omega⟩
    unfold laws_eqIntS.l0
    rw [if_neg (by omega)]
  | succ m ih =>
    intro k i h hi hk
    obtain ⟨k, rfl⟩ : ∃ j, k = j + 1 := ⟨k - 1, by omega⟩
    unfold laws_eqIntS.l0
    rw [if_pos (by omega), if_pos (by omega), if_pos (by omega), if_pos rfl, wrap_next (by omega) (by omega)]
    rw [show ((i : Int) + 1) = ((i + 1 : Nat) : Int) by omega]
    exact ih k (i + 1) (by omega) (by omega) (by omega)

theorem eqInt_is (l : List Int) (hl : l.length ≤ 1048576) (k : Nat) (hk : l.length < k) : laws_eqIntS.f k l l = some true := by
  unfold laws_eqIntS.f
  rw [if_pos rfl]
  exact eqInt_go l hl _ k 0 rfl (by omega) (by omega)

theorem has_go (l : List Int) (x : Int) (hl : l.length ≤ 1048576) : ∀ (m k : Nat) (i : Nat), l.length - i = m → i ≤ l.length →
    m < k → spec_l1Has.l0 k l x i = some (decide (x ∈ l.drop i)) := by
  intro m
  induction m with
  | zero =>
    intro k i h hi hk
    obtain ⟨k, rfl⟩ : ∃ j, k = j + 1 := ⟨k - 1, by omega⟩
    unfold spec_l1Has.l0
    rw [if_neg (by omega)]
    rw [List.drop_of_length_le (by omega)]
    simp
  | succ m ih =>
    intro k i h hi hk
    obtain ⟨k, rfl⟩ : ∃ j, k = j + 1 := ⟨k - 1, by omega⟩
    unfold spec_l1Has.l0
    rw [if_pos (by omega), if_pos (by omega), wrap_next (by omega) (by omega), rd_at l i (by omega)]
    rw [show ((i : Int) + 1) = ((i + 1 : Nat) : Int) by omega]
    rw [ih k (i + 1) (by omega) (by omega) (by omega)]
    rw [List.drop_eq_getElem_cons (show i < l.length by omega)]
    by_cases e : l[i]'(by omega) = x
    · rw [if_pos e]; simp only [List.mem_cons, e, true_or, decide_true]
    · rw [if_neg e]; simp only [List.mem_cons, Ne.symm e, false_or]

theorem index_go (l : List Int) (x : Int) (hl : l.length ≤ 1048576) : ∀ (m k : Nat) (i : Nat), l.length - i = m → i ≤ l.length →
    m < k → (slices_Index_int_int.l0 k l x (l.length : Int) i).bind (fun t => some (decide (t ≥ 0))) = some (decide (x ∈ l.drop i)) := by
  intro m
  induction m with
  | zero =>
    intro k i h hi hk
    obtain ⟨k, rfl⟩ : ∃ j, k = j + 1 := ⟨k - 1, by omega⟩
    unfold slices_Index_int_int.l0
    rw [if_neg (by omega)]
    rw [List.drop_of_length_le (by omega)]
    simp
  | succ m ih =>
    intro k i h hi hk
    obtain ⟨k, rfl⟩ : ∃ j, k = j + 1 := ⟨k - 1, by omega⟩
    unfold slices_Index_int_int.l0
    rw [if_pos (by omega), if_pos (by omega), if_pos (by omega), wrap_next (by omega) (by omega), rd_at l i (by omega)]
    rw [show ((i : Int) + 1) = ((i + 1 : Nat) : Int) by omega]
    rw [List.drop_eq_getElem_cons (show i < l.length by omega)]
    by_cases e : x = l[i]'(by omega)
    · rw [if_pos e]; simp only [List.mem_cons, ← e, true_or, decide_true, Option.bind_some, ge_iff_le, Int.natCast_nonneg]
    · rw [if_neg e, ih k (i + 1) (by omega) (by omega) (by omega)]; simp only [List.mem_cons, e, false_or]

theorem perm_go (l : List Int) (n : Int) (hn : n = l.length) (hl : l.length ≤ 1048576) : ∀ (m k : Nat) (i : Nat), l.length - i = m → i ≤ l.length →
    m + l.length + 1 < k → ∃ b, spec_Permutation.l0 k l n i = some b ∧ impl_Permutation.l0 k l n i = some b := by
  intro m
  induction m with
  | zero =>
    intro k i h hi hk
    obtain ⟨k, rfl⟩ : ∃ j, k = j + 1 := ⟨k - 1, by omega⟩
    unfold spec_Permutation.l0 impl_Permutation.l0
    rw [if_neg (by omega), if_neg (by omega)]
    exact ⟨_, rfl, rfl⟩
  | succ m ih =>
    intro k i h hi hk
    obtain ⟨k, rfl⟩ : ∃ j, k = j + 1 := ⟨k - 1, by omega⟩
    unfold spec_Permutation.l0 impl_Permutation.l0
    rw [if_pos (by omega), if_pos (by omega), wrap_next (by omega) (by omega)]
    have h1 : spec_l1Has.f k l i = some (decide ((i : Int) ∈ l)) := has_go l i hl _ k 0 rfl (by omega) (by omega)
    have h2 : slices_Contains_int_int.f k l i = some (decide ((i : Int) ∈ l)) := index_go l i hl _ k 0 rfl (by omega) (by omega)
    rw [h1, h2]
    rw [show ((i : Int) + 1) = ((i + 1 : Nat) : Int) by omega]
    by_cases e : (i : Int) ∈ l
    · simpa [e] using ih k (i + 1) (by omega) (by omega) (by omega)
    · simp [e]

theorem FnExactPermutation : laws_FnExactPermutation.Pure := by
  intro l a1 _ _ _ _
  refine ⟨2 * l.length + 3, ?_⟩
  unfold laws_FnExactPermutation.f
  by_cases hl : (l.length : Int) > 1048576
  · rw [if_pos hl]
  · rw [if_neg hl]
    have hl' : l.length ≤ 1048576 := by omega
    rw [toInt_is l hl' _ (by omega)]
    simp only [Option.bind_some]
    have hp : ∃ b, spec_Permutation.f (2 * l.length + 3) l a1 = some b ∧ impl_Permutation.f (2 * l.length + 3) l a1 = some b := by
      unfold spec_Permutation.f impl_Permutation.f
      by_cases e : (l.length : Int) = a1
      · rw [if_pos e, if_pos e]
        exact perm_go l a1 e.symm hl' _ _ 0 rfl (by omega) (by omega)
      · rw [if_neg e, if_neg e]
        exact ⟨_, rfl, rfl⟩
    obtain ⟨b, hb, hc⟩ := hp
    rw [hb, hc]
    simp only [Option.bind_some, bne_self_eq_false, Bool.false_eq_true, if_false]
    rw [eqInt_is l hl' _ (by omega)]
    simp

end Go.Proofs.Ythmmlooakkkmoaa.Pure
