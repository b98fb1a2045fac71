/- What the plain forms that FnExactDeedsText reaches come to: PDeed. No conditions but those that each theorem states. -/
import Derived.Test.YtameehmkoglkeaaDoorFnExactDeedsTextPText2
import Derived.Lib.IndexLaws
set_option linter.all false
namespace Go.Proofs.YtameehmkoglkeaaDoor.M
open Go Go.Eng Go.Proofs
set_option linter.unusedVariables false
/-! Deeds as text. -/
theorem ixb_mem (c : UInt8) : (l : List UInt8) → (0 ≤ Go.Lib.indexByte l c ↔ c ∈ l)
  | [] => by simp [Go.Lib.indexByte]
  | x :: l => by
    have ih := ixb_mem c l
    have hg := Go.Lib.indexByte_ge l c
    rw [Go.Lib.indexByte]
    by_cases h : x = c
    · subst h; simp
    · rw [if_neg (by simpa using h)]
      by_cases h1 : Go.Lib.indexByte l c = -1
      · rw [h1] at ih ⊢
        have : c ∉ l := fun hm => by have := ih.2 hm; omega
        simp [this, Ne.symm h]
      · rw [if_neg (by simpa using h1)]
        have hm : c ∈ l := ih.1 (by omega)
        simp [hm]; omega
theorem Contains1_ok (s : ByteArray) (c : UInt8) : strings_Contains w (s, bsl [c]) = some (decide (c ∈ s.data.toList)) := by
  apply strings_Contains_of
  simp only [strings_Contains_raw, containsX, dt (show (bsl [c]).size = 1 from bsl_size _), cond_true]
  have e : (bsl [c]).data.getD 0 0 = c := rfl
  rw [e]
  exact congrArg some (by rw [decide_eq_decide]; exact ixb_mem c _)
theorem parts_one (s : ByteArray) (c : UInt8) : decide ((1 : Int) < (((splitL c s.data.toList).map bsl).length : Int)) = decide (c ∈ s.data.toList) := by
  rw [decide_eq_decide, List.length_map, splitL_len, ← List.count_pos_iff]
  omega
theorem Join_ok (xs : List ByteArray) (sep : ByteArray) (h1 : xs.length ≤ 140737488355328) (h2 : (Go.Lib.join (xs.map (·.data.toList)) sep.data.toList).length ≤ 140737488355328) : strings_Join w (xs, sep) = some (bsl (Go.Lib.join (xs.map (·.data.toList)) sep.data.toList)) := by
  apply strings_Join_of
  simp only [strings_Join_raw, joinX, dt (show xs.length ≤ 140737488355328 ∧ (Go.Lib.join (xs.map (·.data.toList)) sep.data.toList).length ≤ 140737488355328 from ⟨h1, h2⟩), cond_true]; rfl
theorem itoa_len (n : Int) (h0 : -9223372036854775808 ≤ n) (h1 : n ≤ 9223372036854775807) : (Go.Lib.itoa n).length ≤ 21 := Go.Lib.itoa_length_le n h0 h1
def deedText (k a b c : Int) (t : ByteArray) : ByteArray := bif inR k 0 7 && (!decide (8 < (t.size : Int)) && (!decide ((10 : UInt8) ∈ t.data.toList) && (inR a 0 999999 && (inR b 0 999999 && inR c 0 999999)))) then bsl (Go.Lib.itoa k ++ ([32] ++ (Go.Lib.itoa a ++ ([32] ++ (Go.Lib.itoa b ++ ([32] ++ (Go.Lib.itoa c ++ ([32] ++ t.data.toList)))))))) else ⟨#[]⟩
theorem inR_i64 {n lo hi : Int} (h : inR n lo hi = true) (h0 : 0 ≤ lo) (h1 : hi ≤ 1000000) : -9223372036854775808 ≤ n ∧ n ≤ 9223372036854775807 := by
  simp only [inR, Bool.and_eq_true, decide_eq_true_eq] at h
  omega
theorem DeedText_ok (k a b c : Int) (t : ByteArray) : impl_DeedText w (k, a, b, c, t) = some (deedText k a b c t) := by
  apply impl_DeedText_of
  have hb : (⟨#[10]⟩ : ByteArray) = bsl [10] := rfl
  simp only [impl_DeedText_raw, within_ok, Option.bind_some, deedText]
  cases hk : inR k 0 7
  · rfl
  by_cases h8 : (8 : Int) < (t.size : Int)
  · simp only [dt h8]; rfl
  simp only [df h8, Bool.not_true, cond_false, hb, Contains1_ok, Option.bind_some]
  cases hn : decide ((10 : UInt8) ∈ t.data.toList)
  · have hkr := inR_i64 hk (by omega) (by omega)
    simp only [cond_false, Digits_ok k hkr.1 hkr.2, Option.bind_some, Bool.not_false, Bool.true_and]
    have L3 : ∀ o : List ByteArray, o.length ≤ 10 → impl_DeedText_k0 wl (3, 3, k, a, b, c, t, o, [a, b, c]) = some (Sum.inr (k, a, b, c, t, o)) := fun o ho => by
      apply impl_DeedText_l0_of
      simp only [impl_DeedText_l0, df (show ¬ (3 : Int) < 3 by omega), cond_false]
    have S : ∀ (i : Nat) (x : Int) (o : List ByteArray) (r : ByteArray ⊕ (Int × Int × Int × Int × ByteArray × List ByteArray)), i < 3 → rd1 (0 : Int) [a, b, c] (i : Int) = x → o.length ≤ 5 → (inR x 0 999999 = true → impl_DeedText_k0 wl (3, ((i + 1 : Nat) : Int), k, a, b, c, t, o ++ [digits x], [a, b, c]) = some r) → (inR x 0 999999 = false → r = Sum.inl ⟨#[]⟩) → impl_DeedText_k0 wl (3, (i : Int), k, a, b, c, t, o, [a, b, c]) = some r := fun i x o r hi hx ho h1 h2 => by
      apply impl_DeedText_l0_of
      simp only [impl_DeedText_l0, dt (show (i : Int) < 3 by omega), cond_true, inb_of (show i < [a, b, c].length by simpa using hi), hx, within_ok, Option.bind_some, w64 (n := (i : Int) + 1) (by omega) (by omega)]
      cases hxr : inR x 0 999999
      · rw [h2 hxr]; rfl
      · have hr := inR_i64 hxr (by omega) (by omega)
        simp only [Bool.not_true, cond_false, Digits_ok x hr.1 hr.2, Option.bind_some]
        rw [fits_of (by simp; omega), cond_true]
        exact h1 hxr
    have hlen : ((List.length [a, b, c] : Nat) : Int) = 3 := rfl
    have main : impl_DeedText_k0 wl (3, 0, k, a, b, c, t, [digits k], [a, b, c]) = some (bif inR a 0 999999 && (inR b 0 999999 && inR c 0 999999) then Sum.inr (k, a, b, c, t, [digits k, digits a, digits b, digits c]) else Sum.inl ⟨#[]⟩) := by
      refine S 0 a [digits k] _ (by omega) rfl (by simp) (fun ha => ?_) (fun ha => by rw [ha]; rfl)
      refine S 1 b _ _ (by omega) rfl (by simp) (fun hb' => ?_) (fun hb' => by rw [ha, hb']; rfl)
      refine S 2 c _ _ (by omega) rfl (by simp) (fun hc => ?_) (fun hc => by rw [ha, hb', hc]; rfl)
      rw [ha, hb', hc]
      exact L3 _ (by simp)
    rw [hlen, main]
    simp only [Option.bind_some]
    cases hall : (inR a 0 999999 && (inR b 0 999999 && inR c 0 999999))
    · rfl
    · simp only [Bool.and_eq_true] at hall
      have ra := inR_i64 hall.1 (by omega) (by omega)
      have rb := inR_i64 hall.2.1 (by omega) (by omega)
      have rc := inR_i64 hall.2.2 (by omega) (by omega)
      have l0 := itoa_len k hkr.1 hkr.2
      have l1 := itoa_len a ra.1 ra.2
      have l2 := itoa_len b rb.1 rb.2
      have l3 := itoa_len c rc.1 rc.2
      have lt : t.data.toList.length ≤ 8 := by rw [← Go.Lib.size_eq]; omega
      have ej : Go.Lib.join ([digits k, digits a, digits b, digits c, t].map (·.data.toList)) ((⟨#[32]⟩ : ByteArray).data.toList) = Go.Lib.itoa k ++ ([32] ++ (Go.Lib.itoa a ++ ([32] ++ (Go.Lib.itoa b ++ ([32] ++ (Go.Lib.itoa c ++ ([32] ++ t.data.toList))))))) := by
        simp [Go.Lib.join_cons, Go.Lib.joinTail, digits, bsl]
      have hj := Join_ok [digits k, digits a, digits b, digits c, t] (⟨#[32]⟩ : ByteArray) (by simp) (by rw [ej]; simp only [List.length_append, List.length_cons, List.length_nil]; omega)
      rw [ej] at hj
      simp only [cond_true, elimS, Sum.elim_inr]
      rw [fits_of (by simp), cond_true]
      exact (congrArg (fun z => Option.bind z _) hj).trans rfl
  · rfl
theorem sDeedText_ok (k a b c : Int) (t : ByteArray) (ht : t.size ≤ 1099511627776) : spec_DeedText w (k, a, b, c, t) = some (deedText k a b c t) := by
  apply spec_DeedText_of
  have hp : spec_Parts w (t, 10) = some ((splitL 10 t.data.toList).map bsl) := sParts_ok t 10 ht
  simp only [spec_DeedText_raw, l1In_ok, Option.bind_some, deedText, hp, parts_one]
  cases hk : inR k 0 7
  · rfl
  cases ha : inR a 0 999999
  · simp only [Bool.and_false, Bool.false_and, cond_false, Bool.not_true, Bool.not_false, cond_true]
  cases hb : inR b 0 999999
  · simp only [Bool.and_false, Bool.false_and, cond_false, Bool.not_true, Bool.not_false, cond_true]
  cases hc : inR c 0 999999
  · simp only [Bool.and_false, Bool.false_and, cond_false, Bool.not_true, Bool.not_false, cond_true]
  by_cases h8 : (8 : Int) < (t.size : Int)
  · simp only [dt h8]; rfl
  cases hn : decide ((10 : UInt8) ∈ t.data.toList)
  · have rk := inR_i64 hk (by omega) (by omega)
    have ra := inR_i64 ha (by omega) (by omega)
    have rb := inR_i64 hb (by omega) (by omega)
    have rc := inR_i64 hc (by omega) (by omega)
    have l0 := itoa_len k rk.1 rk.2
    have l1 := itoa_len a ra.1 ra.2
    have l2 := itoa_len b rb.1 rb.2
    have l3 := itoa_len c rc.1 rc.2
    have lt : t.data.toList.length ≤ 8 := by rw [← Go.Lib.size_eq]; omega
    have et : t = bsl t.data.toList := (bsl_data t).symm
    simp only [df h8, Bool.not_true, Bool.not_false, cond_false, cond_true, Bool.true_and, Bool.and_true, sDigits_ok k rk.1 rk.2, sDigits_ok a ra.1 ra.2, sDigits_ok b rb.1 rb.2, sDigits_ok c rc.1 rc.2, Option.bind_some, digits]
    rw [show (⟨#[32]⟩ : ByteArray) = bsl [32] from rfl]
    generalize t.data.toList = tl at et lt
    subst et
    simp only [bsl_app, bsl_size]
    have F : ∀ n : Nat, n ≤ 1000 → fits n 1 = true := fun n h => fits_of (by omega)
    rw [F, F, F, F, F, F, F, F]
    · simp only [cond_true, List.append_assoc]
    all_goals (simp only [List.length_append, List.length_cons, List.length_nil]; omega)
  · simp only [df h8]; rfl
end Go.Proofs.YtameehmkoglkeaaDoor.M
