/- What the plain forms that FnTurned reaches come to: PDraw. No conditions but those that each theorem states. -/
import Derived.Test.YtgkobeililjgbaaFnTurnedPTree
namespace Go.Proofs.Ytgkobeililjgbaa.M
open Go Go.Eng Go.Proofs
set_option linter.unusedVariables false
theorem and255_any (x : Int) : 0 ≤ bits .and .i64 x 255 ∧ bits .and .i64 x 255 < 256 := by
  have e : bits .and .i64 x 255 = IntKind.wrap .i64 ((BitVec.ofInt 64 x &&& BitVec.ofInt 64 255).toNat : Nat) := rfl
  rw [e, BitVec.toNat_and]
  have h : (BitVec.ofInt 64 255).toNat = 255 := by decide
  rw [h]
  have : (BitVec.ofInt 64 x).toNat &&& 255 = (BitVec.ofInt 64 x).toNat % 256 := Nat.and_two_pow_sub_one_eq_mod _ 8
  rw [this, w64 (by omega) (by omega)]; omega
/-- What a draw of a byte gives. -/
theorem l1Byte_some (b : List Int) (i h : Int) (hi : 0 ≤ i) (hb : b.length ≤ 9223372036854775806) (hib : i ≤ 9223372036854775806) : ∃ x i' h', spec_l1Byte w (b, i, h) = some (x, i', h') ∧ 0 ≤ x ∧ x < 256 ∧ 0 ≤ i' ∧ i' ≤ i + 1 ∧ (i ≤ (b.length : Int) → i' ≤ (b.length : Int)) := by
  by_cases hl : i < ((b.length : Nat) : Int)
  · refine ⟨(bits .and .i64 (IntKind.wrap .i64 ((bits .and .i64 (bits .xor .i64 (shrI .i64 (IntKind.wrap .i64 ((IntKind.wrap .i64 (h * 6364136223846793005)) + 1442695040888963407)) 33) (shrI .i64 (IntKind.wrap .i64 ((IntKind.wrap .i64 (h * 6364136223846793005)) + 1442695040888963407)) 45)) 255) + (IntKind.wrap .i64 (rd1 (0 : Int) b i)))) 255), IntKind.wrap .i64 (i + 1), IntKind.wrap .i64 ((IntKind.wrap .i64 (h * 6364136223846793005)) + 1442695040888963407), spec_l1Byte_of _ _ _ ?_, ?_⟩
    · have hin : inb i b.length = true := by simp [inb]; omega
      simp only [spec_l1Byte_raw, dt (show (0 : Int) ≤ 33 by omega), dt (show (0 : Int) ≤ 45 by omega), cond_true, dt hl, hin]
    · rw [w64 (n := i + 1) (by omega) (by omega)]
      have := and255_any (IntKind.wrap .i64 ((bits .and .i64 (bits .xor .i64 (shrI .i64 (IntKind.wrap .i64 ((IntKind.wrap .i64 (h * 6364136223846793005)) + 1442695040888963407)) 33) (shrI .i64 (IntKind.wrap .i64 ((IntKind.wrap .i64 (h * 6364136223846793005)) + 1442695040888963407)) 45)) 255) + (IntKind.wrap .i64 (rd1 (0 : Int) b i))))
      exact ⟨this.1, this.2, by omega, by omega, fun _ => by omega⟩
  · refine ⟨(bits .and .i64 (bits .xor .i64 (shrI .i64 (IntKind.wrap .i64 ((IntKind.wrap .i64 (h * 6364136223846793005)) + 1442695040888963407)) 33) (shrI .i64 (IntKind.wrap .i64 ((IntKind.wrap .i64 (h * 6364136223846793005)) + 1442695040888963407)) 45)) 255), i, IntKind.wrap .i64 ((IntKind.wrap .i64 (h * 6364136223846793005)) + 1442695040888963407), spec_l1Byte_of _ _ _ ?_, ?_⟩
    · simp only [spec_l1Byte_raw, dt (show (0 : Int) ≤ 33 by omega), dt (show (0 : Int) ≤ 45 by omega), cond_true, df hl, cond_false]
    · have := and255_any (bits .xor .i64 (shrI .i64 (IntKind.wrap .i64 ((IntKind.wrap .i64 (h * 6364136223846793005)) + 1442695040888963407)) 33) (shrI .i64 (IntKind.wrap .i64 ((IntKind.wrap .i64 (h * 6364136223846793005)) + 1442695040888963407)) 45))
      exact ⟨this.1, this.2, hi, by omega, fun h => h⟩
/-- A cursor that stands right. -/
def curOk (b : List Int) (i : Int) : Prop := 0 ≤ i ∧ i ≤ (b.length : Int) ∧ b.length ≤ 1099511627776
theorem l1Below_some (b : List Int) (i h n : Int) (hc : curOk b i) (hn : n ≤ 256) : ∃ x i' h', spec_l1Below w (b, i, h, n) = some (x, i', h') ∧ 0 ≤ x ∧ (0 < n → x < n) ∧ (n ≤ 0 → x = 0) ∧ curOk b i' := by
  obtain ⟨h0, h1, h2⟩ := hc
  by_cases hp : n ≤ 0
  · refine ⟨0, i, h, spec_l1Below_of _ _ _ _ ?_, by omega, fun h => by omega, fun _ => rfl, h0, h1, h2⟩
    simp only [spec_l1Below_raw, dt hp, cond_true]
  · obtain ⟨x, i', h', e, x0, x1, i0, i1, i2⟩ := l1Byte_some b i h h0 (by omega) (by omega)
    refine ⟨Int.tmod x n, i', h', spec_l1Below_of _ _ _ _ ?_, ?_, fun _ => ?_, fun h => by omega, i0, i2 h1, h2⟩
    · simp only [spec_l1Below_raw, df hp, cond_false, dt hn, cond_true, e, Option.bind_some, dt (show n ≠ 0 by omega)]
    · rw [Int.tmod_eq_emod_of_nonneg x0]; exact Int.emod_nonneg _ (by omega)
    · rw [Int.tmod_eq_emod_of_nonneg x0]; exact Int.emod_lt_of_pos _ (by omega)
theorem l1New_some (b : List Int) (hb : b.length ≤ 1099511627776) : ∃ h, spec_l1New w b = some (b, 0, h) := by
  have main : ∀ n i (h : Int), i + n = b.length → ∃ h', spec_l1New_k0 wl (b, h, (i : Int)) = some (b, h') := by
    intro n
    induction n with
    | zero =>
      intro i h hi
      refine ⟨h, spec_l1New_l0_of _ _ _ ?_⟩
      have : i = b.length := by omega
      subst this
      simp only [spec_l1New_l0, ilt_self, cond_false]
    | succ n ih =>
      intro i h hi
      have hi' : i < b.length := by omega
      by_cases h4 : (i : Int) < 4000
      · obtain ⟨h', e⟩ := ih (i + 1) (bits .and .i64 (IntKind.wrap .i64 ((IntKind.wrap .i64 ((IntKind.wrap .i64 (h * 131)) + (IntKind.wrap .i64 b[i]))) + 7)) 1073741823) (by omega)
        refine ⟨h', spec_l1New_l0_of _ _ _ ?_⟩
        simp only [spec_l1New_l0, ilt hi', inb_of hi', rd1_get hi', inc hi' (show b.length ≤ maxLen by simp [maxLen]; omega), cond_true, dt h4, e]
      · refine ⟨h, spec_l1New_l0_of _ _ _ ?_⟩
        simp only [spec_l1New_l0, ilt hi', cond_true, df h4, cond_false]
  obtain ⟨h, e⟩ := main b.length 0 (IntKind.wrap .i64 (26583 + ((b.length : Nat) : Int))) (by omega)
  refine ⟨h, spec_l1New_of _ ?_⟩
  have e : spec_l1New_k0 wl (b, IntKind.wrap .i64 (26583 + ((b.length : Nat) : Int)), 0) = some (b, h) := e
  simp only [spec_l1New_raw, e, Option.bind_some]
theorem l1PickInt_some (b : List Int) (i h : Int) (l : List Int) (hc : curOk b i) (hl : 0 < l.length) (hl2 : l.length ≤ 256) : ∃ x i' h', spec_l1PickInt w (b, i, h, l) = some (x, i', h') ∧ x ∈ l ∧ curOk b i' := by
  obtain ⟨x, i', h', e, x0, x1, _, c⟩ := l1Below_some b i h ((l.length : Nat) : Int) hc (by omega)
  have hx := x1 (by omega)
  have hi : inb x l.length = true := by simp [inb]; omega
  refine ⟨l.getD x.toNat 0, i', h', spec_l1PickInt_of _ _ _ _ ?_, ?_, c⟩
  · simp only [spec_l1PickInt_raw, e, Option.bind_some, hi, cond_true, rd1]
  · have : x.toNat < l.length := by omega
    simp [List.getD, this]
/-- An order of so many. -/
def isOrder (l : List Int) (n : Nat) : Prop := l.length = n ∧ ∀ k : Nat, k < n → (k : Int) ∈ l
theorem l23Order_some (b : List Int) (i h : Int) (n : Nat) (hc : curOk b i) (hn : n ≤ 200) : ∃ l i' h', spec_l23Order w (b, i, h, (n : Int)) = some (l, i', h') ∧ isOrder l n ∧ curOk b i' := by
  have main : ∀ m k (i h : Int) (l : List Int), k + m = n → curOk b i → isOrder l k → ∃ i' h' l', spec_l23Order_k0 wl ((n : Int), (k : Int), b, i, h, l) = some (b, i', h', l') ∧ isOrder l' n ∧ curOk b i' := by
    intro m
    induction m with
    | zero =>
      intro k i h l hk hc ho
      have : k = n := by omega
      subst this
      refine ⟨i, h, l, spec_l23Order_l0_of _ _ _ _ _ _ ?_, ho, hc⟩
      simp only [spec_l23Order_l0, ilt_self, cond_false]
    | succ m ih =>
      intro k i h l hk hc ho
      have hk' : k < n := by omega
      obtain ⟨x, i1, h1, e, x0, x1, _, c⟩ := l1Below_some b i h (((l.length : Nat) : Int) + 1) hc (by have := ho.1; omega)
      have hx := x1 (by omega)
      obtain ⟨p, rfl⟩ : ∃ p : Nat, x = p := ⟨x.toNat, by omega⟩
      have hp : p ≤ l.length := by omega
      have ho' : isOrder ((l.take p ++ [(k : Int)]) ++ l.drop p) (k + 1) := by
        refine ⟨by have := ho.1; simp; omega, fun q hq => ?_⟩
        by_cases hqk : q = k
        · subst hqk; simp
        · have := ho.2 q (by omega)
          rw [← List.take_append_drop p l, List.mem_append] at this
          simp only [List.mem_append]
          rcases this with h | h
          · exact .inl (.inl h)
          · exact .inr h
      obtain ⟨i2, h2, l2, e2, o2, c2⟩ := ih (k + 1) i1 h1 _ (by omega) c ho'
      refine ⟨i2, h2, l2, spec_l23Order_l0_of _ _ _ _ _ _ ?_, o2, c2⟩
      have hlen := ho.1
      have htk : List.take (Int.toNat (((l.length : Nat) : Int) - (p : Int))) (List.drop p l) = l.drop p := by
        apply List.take_of_length_le
        rw [List.length_drop]; omega
      simp only [spec_l23Order_l0, ilt hk', cond_true]
      rw [w64 (n := ((l.length : Nat) : Int) + 1) (by omega) (by omega)]
      simp only [e, Option.bind_some, Int.sub_zero, Int.toNat_natCast, Int.toNat_zero, List.drop_zero, List.nil_append, htk]
      refine (cond_t (by simp; omega)).trans ?_
      refine (cond_t (fits_of (by simp; omega))).trans ?_
      refine (cond_t (fits_of (by simp; omega))).trans ?_
      refine (cond_t (by simp; omega)).trans ?_
      refine (cond_t (fits_of (by simp; omega))).trans ?_
      rw [inc hk' (show n ≤ maxLen by simp [maxLen]; omega)]
      exact e2
  obtain ⟨i', h', l, e, o, c⟩ := main n 0 i h [] (by omega) hc ⟨rfl, fun k hk => by omega⟩
  refine ⟨l, i', h', spec_l23Order_of _ _ _ _ ?_, o, c⟩
  have e : spec_l23Order_k0 wl ((n : Int), 0, b, i, h, []) = some (b, i', h', l) := e
  simp only [spec_l23Order_raw, e, Option.bind_some]
/-! Permutations. -/
def permOk (a : List Int) (n : Int) : Bool := decide (((a.length : Nat) : Int) = n) && (List.range' 0 a.length).all fun k => decide (((k : Nat) : Int) ∈ a)
theorem range_all {i n : Nat} (h : i < n) (f : Nat → Bool) : (List.range' i (n - i)).all f = (f i && (List.range' (i + 1) (n - (i + 1))).all f) := by
  rw [show n - i = (n - (i + 1)) + 1 by omega, List.range'_succ]; simp
theorem Permutation_ok (a : List Int) (n : Int) (h : a.length ≤ maxLen) : impl_Permutation w (a, n) = some (permOk a n) := by
  apply impl_Permutation_of
  by_cases hn : ((a.length : Nat) : Int) = n
  · subst hn
    have e := loop_ix a.length (fun i => impl_Permutation_k0 wl (a, ((a.length : Nat) : Int), (i : Int))) (fun i => bif (List.range' i (a.length - i)).all (fun k => decide (((k : Nat) : Int) ∈ a)) then .inr () else .inl false)
      (fun i hi ih => by
        apply impl_Permutation_l0_of
        rw [range_all hi]
        simp only [impl_Permutation_l0, ilt hi, cond_true, Contains_ok a _ h, Option.bind_some, inc hi h, ih]
        cases decide ((i : Int) ∈ a) <;> simp)
      (by
        apply impl_Permutation_l0_of
        simp [impl_Permutation_l0])
    simp only [Int.natCast_zero, Nat.sub_zero] at e
    simp only [impl_Permutation_raw, e, Option.bind_some, permOk, decide_true, Bool.not_true, cond_false, Bool.true_and]
    cases (List.range' 0 a.length).all (fun k => decide (((k : Nat) : Int) ∈ a)) <;> rfl
  · simp only [impl_Permutation_raw, permOk, df hn, Bool.not_false, cond_true, Bool.false_and]
theorem sPermutation_ok (a : List Int) (n : Int) (h : a.length ≤ maxLen) : spec_Permutation w (a, n) = some (permOk a n) := by
  apply spec_Permutation_of
  by_cases hn : ((a.length : Nat) : Int) = n
  · subst hn
    have e := loop_ix a.length (fun i => spec_Permutation_k0 wl (a, ((a.length : Nat) : Int), (i : Int))) (fun i => bif (List.range' i (a.length - i)).all (fun k => decide (((k : Nat) : Int) ∈ a)) then .inr () else .inl false)
      (fun i hi ih => by
        apply spec_Permutation_l0_of
        rw [range_all hi]
        simp only [spec_Permutation_l0, ilt hi, cond_true, l1Has_ok a _ h, Option.bind_some, inc hi h, ih]
        cases decide ((i : Int) ∈ a) <;> simp)
      (by
        apply spec_Permutation_l0_of
        simp [spec_Permutation_l0])
    simp only [Int.natCast_zero, Nat.sub_zero] at e
    simp only [spec_Permutation_raw, e, Option.bind_some, permOk, decide_true, Bool.not_true, cond_false, Bool.true_and]
    cases (List.range' 0 a.length).all (fun k => decide (((k : Nat) : Int) ∈ a)) <;> rfl
  · simp only [spec_Permutation_raw, permOk, df hn, Bool.not_false, cond_true, Bool.false_and]
theorem permOk_of {l : List Int} {n : Nat} (h : isOrder l n) : permOk l (n : Int) = true := by
  simp only [permOk, h.1, decide_true, Bool.true_and, List.all_eq_true, decide_eq_true_eq]
  intro k hk
  rw [List.mem_range'_1] at hk
  exact h.2 k (by omega)
end Go.Proofs.Ytgkobeililjgbaa.M
