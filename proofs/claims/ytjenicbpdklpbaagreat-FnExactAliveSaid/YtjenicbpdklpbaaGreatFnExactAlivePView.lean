/- What the plain forms that FnExactAlive reaches come to: PView. No conditions but those that each theorem states. -/
import Derived.Test.YtjenicbpdklpbaaGreatFnExactAlivePWA
set_option linter.all false
namespace Go.Proofs.YtjenicbpdklpbaaGreat.M
open Go Go.Eng Go.Proofs
set_option linter.unusedVariables false
def live (x : XItem) : Bool := decide (x.2.2.1 = 0)
def view (s : XState) : List XItem := bif stOk s then s.1.filter live else []
theorem view_len (s : XState) : (view s).length ≤ 5 := by
  unfold view
  cases h : stOk s
  · simp
  · have := (stOk_len h).1
    have := List.length_filter_le live s.1
    simp only [cond_true]; omega
theorem View_ok (s : XState) (h1 : s.1.length ≤ maxLen) (h2 : s.2.length ≤ maxLen) : impl_View w s = some (view s) := by
  obtain ⟨a, b⟩ := s
  apply impl_View_of
  simp only [impl_View_raw, StateOk_ok a b h1 h2, Option.bind_some, view]
  cases h : stOk (a, b)
  · rfl
  · have hl := (stOk_len h).1
    have e := loop_flat a (fun _ x => bif live x then [x] else []) 1 (fun _ x => filt_len _ x) (fun i out => impl_View_k0 wl (a, ((a.length : Nat) : Int), (i : Int), out)) (fun out => out)
      (fun i hi out r ho hk => by
        apply impl_View_l0_of
        simp only [impl_View_l0, ilt hi, inb_of hi, rd1_get hi, inc hi h1, cond_true]
        simp only [live] at hk
        cases hx : decide (a[i].2.2.1 = 0)
        · rw [hx] at hk; simpa using hk
        · rw [hx] at hk
          simp only [cond_true] at hk ⊢
          rw [fits_of (by simp at hl ⊢; omega)]; exact hk)
      (fun out => by
        apply impl_View_l0_of
        simp only [impl_View_l0, ilt_self, cond_false])
    rw [flatIx_filter] at e
    simp only [Int.natCast_zero] at e
    simp only [e, Option.bind_some, Bool.not_true, cond_false, cond_true]
theorem sView_ok (s : XState) (h1 : s.1.length ≤ maxLen) (h2 : s.2.length ≤ maxLen) : spec_View w s = some (view s) := by
  obtain ⟨a, b⟩ := s
  apply spec_View_of
  simp only [spec_View_raw, sStateOk_ok a b h1 h2, Option.bind_some, view]
  cases h : stOk (a, b)
  · rfl
  · have hl := (stOk_len h).1
    have e := loop_flat a (fun _ x => bif live x then [x] else []) 1 (fun _ x => filt_len _ x) (fun i out => spec_View_k0 wl ((i : Int), a, b, out)) (fun out => out)
      (fun i hi out r ho hk => by
        apply spec_View_l0_of
        simp only [spec_View_l0, ilt hi, inb_of hi, rd1_get hi, inc hi h1, cond_true]
        simp only [live] at hk
        cases hx : decide (a[i].2.2.1 = 0)
        · rw [hx] at hk; simpa using hk
        · rw [hx] at hk
          simp only [cond_true] at hk ⊢
          rw [fits_of (by simp at hl ⊢; omega)]; exact hk)
      (fun out => by
        apply spec_View_l0_of
        simp only [spec_View_l0, ilt_self, cond_false])
    rw [flatIx_filter] at e
    simp only [Int.natCast_zero] at e
    simp only [e, Option.bind_some, Bool.not_true, cond_false, cond_true]
def lookup (s : XState) (id : Int) : Int × Int × Int × Int × ByteArray × Bool := entryOf id (view s)
theorem view_max (s : XState) : (view s).length ≤ maxLen := by have := view_len s; simp only [maxLen]; omega
theorem Lookup_ok (a : List XItem) (b : List XFloor) (id : Int) (h1 : a.length ≤ maxLen) (h2 : b.length ≤ maxLen) : impl_Lookup w (a, b, id) = some (lookup (a, b) id) := by
  apply impl_Lookup_of
  simp only [impl_Lookup_raw, View_ok (a, b) h1 h2, EntryOf_ok _ _ _ (view_max _), Option.bind_some, lookup]
theorem sLookup_ok (a : List XItem) (b : List XFloor) (id : Int) (h1 : a.length ≤ maxLen) (h2 : b.length ≤ maxLen) : spec_Lookup w (a, b, id) = some (lookup (a, b) id) := by
  apply spec_Lookup_of
  simp only [spec_Lookup_raw, sView_ok (a, b) h1 h2, sEntryOf_ok _ _ _ (view_max _), Option.bind_some, lookup]
theorem sumL_filter {α : Type} (c : α → Nat) (p : α → Bool) : (l : List α) → sumL c (l.filter p) ≤ sumL c l
  | [] => Nat.le_refl _
  | x :: l => by
    have := sumL_filter c p l
    rw [List.filter_cons]
    split
    · simp only [sumL]; omega
    · simp only [sumL]; omega
theorem items_sz8 (fl : List XFloor) : (p : Int) → (l : List XItem) → okItems fl p l = true → sumL mz_Item l ≤ 8 * l.length
  | _, [], _ => by simp [sumL]
  | p, x :: l, h => by
    have hx := items_smB fl p (x :: l) h x (by simp)
    simp only [okItems, Bool.and_eq_true] at h
    have := items_sz8 fl _ l h.2
    simp only [sumL, mz_Item, mz_Entry, List.length_cons]; omega
theorem view_sz (s : XState) : mz_ItemS (view s) ≤ 45 := by
  have hl := view_len s
  unfold view at hl ⊢
  cases h : stOk s
  · simp [mz_ItemS, sumL]
  · rw [h] at hl
    have h2 := (stOk_len h).1
    simp only [stOk, Bool.and_eq_true] at h
    have h3 := items_sz8 _ _ _ h.2
    have h4 := sumL_filter mz_Item live s.1
    simp only [cond_true] at hl ⊢
    simp only [mz_ItemS]; omega
theorem smNT_st {x : XNode} (h : smNT x) : x.2.2.1.length ≤ maxLen ∧ x.2.2.2.1.length ≤ maxLen := ⟨h.1, h.2.1⟩
def shown (ns : List XNode) (net : List XPack) (sd : List XSaid) (i : Int) : List XItem := bif worldOk ns net sd && inR i 0 ((ns.length : Nat) - 1) then view ((nodeAt ns i).2.2.1, (nodeAt ns i).2.2.2.1) else []
theorem shown_sz (ns : List XNode) (net : List XPack) (sd : List XSaid) (i : Int) : mz_ItemS (shown ns net sd i) ≤ 45 := by
  unfold shown
  cases worldOk ns net sd && inR i 0 ((ns.length : Nat) - 1)
  · simp [mz_ItemS, sumL]
  · exact view_sz _
def aliveAt (i : Nat) (x : XNode) : List Int := bif (lookup (x.2.2.1, x.2.2.2.1) (i : Int)).2.2.2.2.2 then [(i : Int)] else []
def alive (ns : List XNode) (net : List XPack) (sd : List XSaid) : List Int := bif worldOk ns net sd then flatIx aliveAt 0 ns else []
theorem aliveAt_len (i : Nat) (x : XNode) : (aliveAt i x).length ≤ 1 := filt_len _ _
theorem alive_len (ns : List XNode) (net : List XPack) (sd : List XSaid) : (alive ns net sd).length ≤ 5 := by
  unfold alive
  cases hw : worldOk ns net sd
  · simp
  · have := flatIx_len aliveAt 1 aliveAt_len 0 ns
    have := (worldOk_nums hw).n5
    simp only [cond_true]; omega
theorem Alive_ok (ns : List XNode) (net : List XPack) (sd : List XSaid) (h : smW ns net sd) : impl_Alive w (ns, net, sd) = some (alive ns net sd) := by
  apply impl_Alive_of
  simp only [impl_Alive_raw, WorldOk_ok ns net sd h, Option.bind_some, alive]
  cases hw : worldOk ns net sd
  · rfl
  · have h5 := (worldOk_nums hw).n5
    have e := loop_flat ns aliveAt 1 aliveAt_len (fun i out => impl_Alive_k0 wl (ns, ((ns.length : Nat) : Int), (i : Int), out)) (fun out => out)
      (fun i hi out r ho hk => by
        apply impl_Alive_l0_of
        have hm := smNT_st (h.2.1 _ (List.getElem_mem hi))
        simp only [impl_Alive_l0, ilt hi, inb_of hi, rd1_get hi, inc hi h.1, cond_true, Lookup_ok _ _ _ hm.1 hm.2, Option.bind_some]
        simp only [aliveAt] at hk
        cases hx : (lookup (ns[i].2.2.1, ns[i].2.2.2.1) (i : Int)).2.2.2.2.2
        · rw [hx] at hk; simpa using hk
        · rw [hx] at hk
          simp only [cond_true] at hk ⊢
          rw [fits_of (by simp; omega)]; exact hk)
      (fun out => by
        apply impl_Alive_l0_of
        simp only [impl_Alive_l0, ilt_self, cond_false])
    simp only [Int.natCast_zero] at e
    simp only [e, Option.bind_some, Bool.not_true, cond_false, cond_true]
theorem sAlive_ok (ns : List XNode) (net : List XPack) (sd : List XSaid) (h : smW ns net sd) : spec_Alive w (ns, net, sd) = some (alive ns net sd) := by
  apply spec_Alive_of
  simp only [spec_Alive_raw, sWorldOk_ok ns net sd h, Option.bind_some, alive]
  cases hw : worldOk ns net sd
  · rfl
  · have h5 := (worldOk_nums hw).n5
    have e := loop_flat ns aliveAt 1 aliveAt_len (fun i out => spec_Alive_k0 wl ((i : Int), ns, net, sd, out)) (fun out => out)
      (fun i hi out r ho hk => by
        apply spec_Alive_l0_of
        have hm := smNT_st (h.2.1 _ (List.getElem_mem hi))
        simp only [spec_Alive_l0, ilt hi, inb_of hi, rd1_get hi, inc hi h.1, cond_true, sLookup_ok _ _ _ hm.1 hm.2, Option.bind_some]
        simp only [aliveAt] at hk
        cases hx : (lookup (ns[i].2.2.1, ns[i].2.2.2.1) (i : Int)).2.2.2.2.2
        · rw [hx] at hk; simpa using hk
        · rw [hx] at hk
          simp only [cond_true] at hk ⊢
          rw [fits_of (by simp; omega)]; exact hk)
      (fun out => by
        apply spec_Alive_l0_of
        simp only [spec_Alive_l0, ilt_self, cond_false])
    simp only [Int.natCast_zero] at e
    simp only [e, Option.bind_some, Bool.not_true, cond_false, cond_true]
def partsAt (k : Int) (i : Nat) (x : XSaid) : List XState := bif decide ((i : Int) < k) then [x.2] else []
def partsTo (k : Int) (sd : List XSaid) : List XState := flatIx (partsAt k) 0 sd
theorem partsAt_len (k : Int) (i : Nat) (x : XSaid) : (partsAt k i x).length ≤ 1 := filt_len _ _
theorem flatIx_mem {α β : Type} (f : Nat → α → List β) (p : β → Prop) : (i : Nat) → (l : List α) → (∀ j x, x ∈ l → ∀ y ∈ f j x, p y) → ∀ y ∈ flatIx f i l, p y
  | _, [], _ => by simp [flatIx]
  | i, x :: l, h => by
    intro y hy
    rw [flatIx, List.mem_append] at hy
    rcases hy with hy | hy
    · exact h i x (by simp) y hy
    · exact flatIx_mem f p (i + 1) l (fun j z hz => h j z (by simp [hz])) y hy
def plainWhen (ns : List XNode) (net : List XPack) (sd : List XSaid) (k : Int) : List XItem := bif worldOk ns net sd then plainL (partsTo k sd) else []
theorem plainWhen_sz (ns : List XNode) (net : List XPack) (sd : List XSaid) (k : Int) : mz_ItemS (plainWhen ns net sd k) ≤ 45 := by
  unfold plainWhen
  cases worldOk ns net sd
  · simp [mz_ItemS, sumL]
  · exact plainL_sz _
theorem parts_sm {ns : List XNode} {net : List XPack} {sd : List XSaid} (h : smW ns net sd) (k : Int) : ∀ s ∈ partsTo k sd, smS s := flatIx_mem _ _ _ _ fun j x hx y hy => by
  have := h.2.2.2.2.2 x hx
  simp only [partsAt] at hy
  cases hd : decide ((j : Int) < k)
  · rw [hd] at hy; simp at hy
  · rw [hd] at hy
    obtain rfl : y = x.2 := by simpa using hy
    exact this
theorem parts_len (k : Int) (sd : List XSaid) : (partsTo k sd).length ≤ sd.length := by
  have := flatIx_len (partsAt k) 1 (partsAt_len k) 0 sd
  simpa [partsTo] using this
theorem parts_none {k : Int} : (i : Nat) → (l : List XSaid) → ¬ (i : Int) < k → flatIx (partsAt k) i l = []
  | _, [], _ => rfl
  | i, x :: l, h => by
    rw [flatIx, parts_none (i + 1) l (by omega)]
    simp [partsAt, h]
theorem law_Alive (a0 : List XNode) (a1 : List XPack) (a2 : List XSaid) (hf : ft_World (a0, a1, a2)) : laws_FnExactAlive w (a0, a1, a2) = some true := by
  apply laws_FnExactAlive_of
  have hs := ft_world hf
  simp only [laws_FnExactAlive_raw, sz_World a0 a1 a2 1048576 (by omega) (by omega) hf, Option.bind_some]
  by_cases h : (mz_World (a0, a1, a2) : Int) ≤ 1048576
  · rw [szI_pos h, df (by omega), cond_false]
    have hp : mz_IntS (alive a0 a1 a2) ≤ 5 := alive_len a0 a1 a2
    have hc := sumc_IntS (alive a0 a1 a2)
    have hm : mz_NodeS a0 + mz_PackS a1 + mz_SaidS a2 ≤ 1048576 := by simp only [mz_World] at h; omega
    have c1 := sumc_NodeS a0
    have c2 := sumc_PackS a1
    have c3 := sumc_SaidS a2
    simp only [to_World a0 a1 a2 (by omega), sAlive_ok _ _ _ hs, Alive_ok _ _ _ hs, eq_World a0 a1 a2 (by omega), eq_IntS (alive a0 a1 a2) (by omega), mark_World a0 a1 a2 1 (by omega) (by omega) (by omega), mark_IntS (alive a0 a1 a2) 1 (by omega) (by omega) (by omega), held_IntS (alive a0 a1 a2) 1 (by omega) (by omega) (by omega), Option.bind_some, decide_true, Bool.not_true, cond_false]
    simp only [df (show ¬ (((1 + ((sumL mkc_Node a0 : Nat) : Int)) + ((sumL mkc_Pack a1 : Nat) : Int)) + ((sumL mkc_Said a2 : Nat) : Int)) < 0 by omega), df (show ¬ (1 + ((sumL (fun _ => 1) (alive a0 a1 a2) : Nat) : Int)) < 0 by omega), cond_false]
  · rw [szI_neg h, dt (by omega), cond_true]
end Go.Proofs.YtjenicbpdklpbaaGreat.M
