/- What the plain forms that FnExactPlainWhen reaches come to: PPlain. No conditions but those that each theorem states. -/
import Derived.Test.YtjenicbpdklpbaaGreatFnExactPlainWhenPPlainGone
set_option linter.all false
namespace Go.Proofs.YtjenicbpdklpbaaGreat.M
open Go Go.Eng Go.Proofs
set_option linter.unusedVariables false
def entPart (r : Int × Int × Int × Int × ByteArray × Bool) : XEntry := (r.1, r.2.1, r.2.2.1, r.2.2.2.1, r.2.2.2.2.1)
/-- The greatest entry of a node in the parts. -/
def most (id : Int) : XEntry → List XState → XEntry
  | m, [] => m
  | m, s :: l => bif (entryOf id s.1).2.2.2.2.2 && stOk s then most id (entMax m (entPart (entryOf id s.1))) l else most id m l
theorem EntryMax_e (x y : XEntry) : impl_EntryMax w (x.1, x.2.1, x.2.2.1, x.2.2.2.1, x.2.2.2.2, y) = some (entMax x y) := EntryMax_ok ..
theorem sEntryMax_e (x y : XEntry) : spec_EntryMax w (x.1, x.2.1, x.2.2.1, x.2.2.2.1, x.2.2.2.2, y) = some (entMax x y) := sEntryMax_ok ..
theorem Plain_inner (a : List XState) (id : Int) (items : List XItem) (ha : a.length ≤ maxLen) (hs : ∀ s ∈ a, smS s) (m : XEntry) :
    impl_Plain_k2 wl (a, id, a, ((a.length : Nat) : Int), 0, items, m) = some (a, id, items, (most id m a)) := by
  have e := loop_st a.length (fun i (m : XEntry) => impl_Plain_k2 wl (a, id, a, ((a.length : Nat) : Int), (i : Int), items, m))
    (fun i m => (a, id, items, (most id m (a.drop i)))) (fun _ _ => True)
    (fun i hi m _ ih => by
      apply impl_Plain_l2_of
      have hx := hs _ (List.getElem_mem hi)
      have hm := EntryMax_e m (entPart (entryOf id a[i].1))
      simp only [entPart] at hm
      simp only [impl_Plain_l2, ilt hi, inb_of hi, rd1_get hi, inc hi ha, cond_true, EntryOf_ok _ _ _ hx.1, StateOk_ok _ _ hx.1 hx.2, Option.bind_some, hm, ih _ trivial]
      rw [List.drop_eq_getElem_cons hi, most]
      cases (entryOf id a[i].1).2.2.2.2.2 <;> cases stOk a[i] <;> simp [entPart])
    (fun m _ => by
      apply impl_Plain_l2_of
      simp only [impl_Plain_l2, ilt_self, cond_false, List.drop_length, most])
    m trivial
  simpa only [Int.natCast_zero, List.drop_zero] using e
theorem entOk_inc {e : XEntry} (h : entOk e = true) : 1 ≤ e.1 := by
  simp [entOk, inR] at h; omega
theorem items_inc (fl : List XFloor) (id : Int) : (p : Int) → (l : List XItem) → okItems fl p l = true → (entryOf id l).2.2.2.2.2 = true → 1 ≤ (entryOf id l).1
  | p, [], h, h2 => by simp [entryOf] at h2
  | p, x :: l, h, h2 => by
    simp only [okItems, Bool.and_eq_true] at h
    by_cases hx : x.1 = id
    · simp only [entryOf, hx, if_true]; exact entOk_inc h.1.1.1.2
    · simp only [entryOf, hx, if_false] at h2 ⊢; exact items_inc fl id x.1 l h.2 h2
theorem stOk_inc {s : XState} (id : Int) (h : stOk s = true) (h2 : (entryOf id s.1).2.2.2.2.2 = true) : 1 ≤ (entryOf id s.1).1 := by
  simp only [stOk, Bool.and_eq_true] at h
  exact items_inc _ id _ _ h.2 h2
theorem cmpI_cases (a b : Int) : cmpI a b = if a < b then -1 else if b < a then 1 else 0 := rfl
theorem entMax_inc (x y : XEntry) : y.1 ≤ (entMax x y).1 := by
  unfold entMax
  by_cases hc : entCmp x y < 0
  · rw [if_pos hc]; omega
  · rw [if_neg hc]
    by_cases h : x.1 < y.1
    · exact (hc (by simp [entCmp, or5, cmpI, h])).elim
    · omega
theorem sPlain_inner (a : List XState) (id : Int) (items : List XItem) (ha : a.length ≤ maxLen) (hs : ∀ s ∈ a, smS s) (m : XEntry) (h0 : m.1 = 0) :
    spec_Plain_k2 wl (a, id, false, 0, items, m) = some (a, id, decide (0 < (most id m a).1), items, (most id m a)) := by
  have e := loop_st a.length (fun i (m : Bool × XEntry) => spec_Plain_k2 wl (a, id, m.1, (i : Int), items, m.2))
    (fun i m => (a, id, decide (0 < (most id m.2 (a.drop i)).1), items, (most id m.2 (a.drop i)))) (fun _ m => m.1 = decide (0 < m.2.1))
    (fun i hi m hinv ih => by
      apply spec_Plain_l2_of
      have hx := hs _ (List.getElem_mem hi)
      have hm := sEntryMax_e m.2 (entPart (entryOf id a[i].1))
      simp only [entPart] at hm
      have ih1 := ih m hinv
      have ih2 := ih (true, entMax m.2 (entPart (entryOf id a[i].1)))
      simp only [spec_Plain_l2, ilt hi, inb_of hi, rd1_get hi, inc hi ha, cond_true, sEntryOf_ok _ _ _ hx.1, sStateOk_ok _ _ hx.1 hx.2, Option.bind_some, hm]
      rw [List.drop_eq_getElem_cons hi, most]
      cases h1 : (entryOf id a[i].1).2.2.2.2.2
      · simp only [cond_false, Bool.false_and]; exact ih1
      · cases h2 : stOk a[i]
        · simp only [cond_true, cond_false, Bool.and_false]; exact ih1
        · simp only [cond_true, Bool.and_true]
          refine ih2 ?_
          have h3 := stOk_inc id h2 h1
          have h4 := entMax_inc m.2 (entPart (entryOf id a[i].1))
          simp only [entPart] at h4 ⊢
          exact (decide_eq_true (by omega)).symm)
    (fun m hinv => by
      apply spec_Plain_l2_of
      simp only [spec_Plain_l2, ilt_self, cond_false, List.drop_length, most, hinv])
    (false, m) (by simp [h0])
  simpa only [Int.natCast_zero, List.drop_zero] using e
def plainAt (a : List XState) (id : Int) : List XItem :=
  bif decide (0 < (most id zEntry a).1) && decide ((most id zEntry a).2.1 = 0) then [(id, (most id zEntry a))] else []
def plainL (a : List XState) : List XItem := (List.range' 0 5).flatMap fun i => plainAt a (i : Nat)
theorem ilt5 {i : Nat} (h : i < 5) : decide ((i : Int) < 5) = true := by simp; omega
theorem inc5 {i : Nat} (h : i < 5) : IntKind.wrap .i64 ((i : Int) + 1) = ((i + 1 : Nat) : Int) := by
  rw [w64 (by omega) (by omega)]; omega
theorem plainAt_len (a : List XState) (id : Int) : (plainAt a id).length ≤ 1 := by
  unfold plainAt
  cases (decide (0 < (most id zEntry a).1) && decide ((most id zEntry a).2.1 = 0)) <;> simp
theorem Plain_ok (a : List XState) (ha : a.length ≤ maxLen) (hs : ∀ s ∈ a, smS s) : impl_Plain w a = some (plainL a) := by
  apply impl_Plain_of
  have e := loop_st 5 (fun i (l : List XItem) => impl_Plain_k0 wl (a, (i : Int), l)) (fun i l => l ++ (List.range' i (5 - i)).flatMap fun i => plainAt a (i : Nat)) (fun i l => l.length ≤ i)
    (fun i hi l hl ih => by
      apply impl_Plain_l0_of
      have hin : impl_Plain_k2 wl (a, (i : Int), a, ((a.length : Nat) : Int), 0, l, 0, 0, 0, 0, ByteArray.empty) = some (a, (i : Int), l, (most (i : Int) zEntry a)) := Plain_inner a (i : Int) l ha hs zEntry
      rw [range_step hi, ← List.append_assoc]
      have hp := plainAt_len a (i : Int)
      have ih2 := ih (l ++ plainAt a (i : Int)) (by rw [List.length_append]; omega)
      rw [← ih2]
      simp only [impl_Plain_l0, ilt5 hi, cond_true, hin, Option.bind_some, inc5 hi, plainAt]
      by_cases h1 : 0 < (most (i : Int) zEntry a).1
      · by_cases h2 : (most (i : Int) zEntry a).2.1 = 0
        · simp only [dt h1, dt h2, cond_true, Bool.and_true, List.length_singleton, fits_of (show (l.length + 1) * 56 ≤ 140737488351232 by omega)]
        · simp only [dt h1, df h2, cond_true, cond_false, Bool.and_false, List.append_nil]
      · simp only [df h1, cond_false, Bool.false_and, List.append_nil])
    (fun l hl => by
      apply impl_Plain_l0_of
      simp [impl_Plain_l0])
    [] (by simp)
  simp only [Int.natCast_zero] at e
  simp only [impl_Plain_raw, e, Option.bind_some]
  rfl
theorem sPlain_ok (a : List XState) (ha : a.length ≤ maxLen) (hs : ∀ s ∈ a, smS s) : spec_Plain w a = some (plainL a) := by
  apply spec_Plain_of
  have e := loop_st 5 (fun i (l : List XItem) => spec_Plain_k0 wl (a, (i : Int), l)) (fun i l => l ++ (List.range' i (5 - i)).flatMap fun i => plainAt a (i : Nat)) (fun i l => l.length ≤ i)
    (fun i hi l hl ih => by
      apply spec_Plain_l0_of
      have hin : spec_Plain_k2 wl (a, (i : Int), false, 0, l, 0, 0, 0, 0, ByteArray.empty) = some (a, (i : Int), decide (0 < (most (i : Int) zEntry a).1), l, (most (i : Int) zEntry a)) := sPlain_inner a (i : Int) l ha hs zEntry rfl
      rw [range_step hi, ← List.append_assoc]
      have hp := plainAt_len a (i : Int)
      have ih2 := ih (l ++ plainAt a (i : Int)) (by rw [List.length_append]; omega)
      rw [← ih2]
      simp only [spec_Plain_l0, ilt5 hi, cond_true, hin, Option.bind_some, inc5 hi, plainAt]
      by_cases h1 : 0 < (most (i : Int) zEntry a).1
      · by_cases h2 : (most (i : Int) zEntry a).2.1 = 0
        · simp only [dt h1, dt h2, cond_true, Bool.and_true, List.length_singleton, fits_of (show (l.length + 1) * 56 ≤ 140737488351232 by omega)]
        · simp only [dt h1, df h2, cond_true, cond_false, Bool.and_false, List.append_nil]
      · simp only [df h1, cond_false, Bool.false_and, List.append_nil])
    (fun l hl => by
      apply spec_Plain_l0_of
      simp [spec_Plain_l0])
    [] (by simp)
  simp only [Int.natCast_zero] at e
  simp only [spec_Plain_raw, e, Option.bind_some]
  rfl
theorem plainL_len (a : List XState) : (plainL a).length ≤ 5 := by
  have h0 := plainAt_len a 0
  have h1 := plainAt_len a 1
  have h2 := plainAt_len a 2
  have h3 := plainAt_len a 3
  have h4 := plainAt_len a 4
  have : plainL a = plainAt a 0 ++ (plainAt a 1 ++ (plainAt a 2 ++ (plainAt a 3 ++ plainAt a 4))) := by
    simp [plainL, List.range']
  rw [this]
  simp only [List.length_append]; omega
theorem items_data (fl : List XFloor) (id : Int) : (p : Int) → (l : List XItem) → okItems fl p l = true → ByteArray.size (entryOf id l).2.2.2.2.1 ≤ 8
  | p, [], h => by simp [entryOf]
  | p, x :: l, h => by
    simp only [okItems, Bool.and_eq_true] at h
    by_cases hx : x.1 = id
    · have := h.1.1.1.2
      simp only [entOk, Bool.and_eq_true, decide_eq_true_eq] at this
      simp only [entryOf, hx, if_true]
      have := this.2
      omega
    · simp only [entryOf, hx, if_false]; exact items_data fl id x.1 l h.2
theorem most_data (id : Int) : (m : XEntry) → (l : List XState) → ByteArray.size m.2.2.2.2 ≤ 8 → ByteArray.size (most id m l).2.2.2.2 ≤ 8
  | m, [], h => h
  | m, s :: l, h => by
    simp only [most]
    cases h1 : (entryOf id s.1).2.2.2.2.2 && stOk s
    · exact most_data id m l h
    · refine most_data id _ l ?_
      simp only [Bool.and_eq_true] at h1
      have h2 := h1.2
      simp only [stOk, Bool.and_eq_true] at h2
      have h3 := items_data _ id _ _ h2.2
      unfold entMax
      split
      · exact h3
      · exact h
theorem plainAt_sz (a : List XState) (id : Int) : sumL mz_Item (plainAt a id) ≤ 8 := by
  have h := most_data id zEntry a (by decide)
  unfold plainAt
  cases (decide (0 < (most id zEntry a).1) && decide ((most id zEntry a).2.1 = 0))
  · simp [sumL]
  · simp only [cond_true, sumL, mz_Item, mz_Entry]; omega
theorem plainL_eq (a : List XState) : plainL a = plainAt a 0 ++ (plainAt a 1 ++ (plainAt a 2 ++ (plainAt a 3 ++ plainAt a 4))) := by
  simp [plainL, List.range']
theorem plainL_sz (a : List XState) : mz_ItemS (plainL a) ≤ 45 := by
  have h0 := plainAt_sz a 0
  have h1 := plainAt_sz a 1
  have h2 := plainAt_sz a 2
  have h3 := plainAt_sz a 3
  have h4 := plainAt_sz a 4
  have hl := plainL_len a
  simp only [mz_ItemS]
  rw [plainL_eq] at hl ⊢
  simp only [sumL_append]
  omega
end Go.Proofs.YtjenicbpdklpbaaGreat.M
