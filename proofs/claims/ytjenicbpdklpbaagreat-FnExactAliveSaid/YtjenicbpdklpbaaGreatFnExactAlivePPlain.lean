/- What the plain forms that FnExactAlive reaches come to: PPlain. No conditions but those that each theorem states. -/
import Derived.Test.YtjenicbpdklpbaaGreatFnExactAlivePPlainGone
set_option linter.all false
namespace Go.Proofs.YtjenicbpdklpbaaGreat.M
open Go Go.Eng Go.Proofs
set_option linter.unusedVariables false
def entPart (r : Int × Int × Int × Int × ByteArray × Bool) : XEntry := (r.1, r.2.1, r.2.2.1, r.2.2.2.1, r.2.2.2.2.1)
/-- The greatest entry of a node in the parts. -/
def most (id : Int) : XEntry → List XState → XEntry
  | m, [] => m
  | m, s :: l => bif (entryOf id s.1).2.2.2.2.2 && stOk s then most id (entMax m (entPart (entryOf id s.1))) l else most id m l
theorem entOk_inc {e : XEntry} (h : entOk e = true) : 1 ≤ e.1 := by
  simp [entOk, inR] at h; omega
theorem items_inc (fl : List XFloor) (id : Int) : (p : Int) → (l : List XItem) → okItems fl p l = true → (entryOf id l).2.2.2.2.2 = true → 1 ≤ (entryOf id l).1
  | p, [], h, h2 => by simp [entryOf] at h2
  | p, x :: l, h, h2 => by
    simp only [okItems, Bool.and_eq_true] at h
    by_cases hx : x.1 = id
    · simp only [entryOf, hx, if_true]; exact entOk_inc h.1.1.1.2
    · simp only [entryOf, hx, if_false] at h2 ⊢; exact items_inc fl id x.1 l h.2 h2
theorem stOk_inc {s : XState} (id : Int) (h : stOk s = true) (h2 : (entryOf id s.1).2.2.2.2.2 = true) : 1 ≤ (entryOf id s.1).1 := by
  simp only [stOk, Bool.and_eq_true] at h
  exact items_inc _ id _ _ h.2 h2
theorem cmpI_cases (a b : Int) : cmpI a b = if a < b then -1 else if b < a then 1 else 0 := rfl
theorem entMax_inc (x y : XEntry) : y.1 ≤ (entMax x y).1 := by
  unfold entMax
  by_cases hc : entCmp x y < 0
  · rw [if_pos hc]; omega
  · rw [if_neg hc]
    by_cases h : x.1 < y.1
    · exact (hc (by simp [entCmp, or5, cmpI, h])).elim
    · omega
def plainAt (a : List XState) (id : Int) : List XItem :=
  bif decide (0 < (most id zEntry a).1) && decide ((most id zEntry a).2.1 = 0) then [(id, (most id zEntry a))] else []
def plainL (a : List XState) : List XItem := (List.range' 0 5).flatMap fun i => plainAt a (i : Nat)
theorem ilt5 {i : Nat} (h : i < 5) : decide ((i : Int) < 5) = true := by simp; omega
theorem inc5 {i : Nat} (h : i < 5) : IntKind.wrap .i64 ((i : Int) + 1) = ((i + 1 : Nat) : Int) := by
  rw [w64 (by omega) (by omega)]; omega
theorem plainAt_len (a : List XState) (id : Int) : (plainAt a id).length ≤ 1 := by
  unfold plainAt
  cases (decide (0 < (most id zEntry a).1) && decide ((most id zEntry a).2.1 = 0)) <;> simp
theorem plainL_len (a : List XState) : (plainL a).length ≤ 5 := by
  have h0 := plainAt_len a 0
  have h1 := plainAt_len a 1
  have h2 := plainAt_len a 2
  have h3 := plainAt_len a 3
  have h4 := plainAt_len a 4
  have : plainL a = plainAt a 0 ++ (plainAt a 1 ++ (plainAt a 2 ++ (plainAt a 3 ++ plainAt a 4))) := by
    simp [plainL, List.range']
  rw [this]
  simp only [List.length_append]; omega
theorem items_data (fl : List XFloor) (id : Int) : (p : Int) → (l : List XItem) → okItems fl p l = true → ByteArray.size (entryOf id l).2.2.2.2.1 ≤ 8
  | p, [], h => by simp [entryOf]
  | p, x :: l, h => by
    simp only [okItems, Bool.and_eq_true] at h
    by_cases hx : x.1 = id
    · have := h.1.1.1.2
      simp only [entOk, Bool.and_eq_true, decide_eq_true_eq] at this
      simp only [entryOf, hx, if_true]
      have := this.2
      omega
    · simp only [entryOf, hx, if_false]; exact items_data fl id x.1 l h.2
theorem most_data (id : Int) : (m : XEntry) → (l : List XState) → ByteArray.size m.2.2.2.2 ≤ 8 → ByteArray.size (most id m l).2.2.2.2 ≤ 8
  | m, [], h => h
  | m, s :: l, h => by
    simp only [most]
    cases h1 : (entryOf id s.1).2.2.2.2.2 && stOk s
    · exact most_data id m l h
    · refine most_data id _ l ?_
      simp only [Bool.and_eq_true] at h1
      have h2 := h1.2
      simp only [stOk, Bool.and_eq_true] at h2
      have h3 := items_data _ id _ _ h2.2
      unfold entMax
      split
      · exact h3
      · exact h
theorem plainAt_sz (a : List XState) (id : Int) : sumL mz_Item (plainAt a id) ≤ 8 := by
  have h := most_data id zEntry a (by decide)
  unfold plainAt
  cases (decide (0 < (most id zEntry a).1) && decide ((most id zEntry a).2.1 = 0))
  · simp [sumL]
  · simp only [cond_true, sumL, mz_Item, mz_Entry]; omega
theorem plainL_eq (a : List XState) : plainL a = plainAt a 0 ++ (plainAt a 1 ++ (plainAt a 2 ++ (plainAt a 3 ++ plainAt a 4))) := by
  simp [plainL, List.range']
theorem plainL_sz (a : List XState) : mz_ItemS (plainL a) ≤ 45 := by
  have h0 := plainAt_sz a 0
  have h1 := plainAt_sz a 1
  have h2 := plainAt_sz a 2
  have h3 := plainAt_sz a 3
  have h4 := plainAt_sz a 4
  have hl := plainL_len a
  simp only [mz_ItemS]
  rw [plainL_eq] at hl ⊢
  simp only [sumL_append]
  omega
end Go.Proofs.YtjenicbpdklpbaaGreat.M
