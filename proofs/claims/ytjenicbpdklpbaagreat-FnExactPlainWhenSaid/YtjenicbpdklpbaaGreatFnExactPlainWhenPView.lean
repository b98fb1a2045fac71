/- What the plain forms that FnExactPlainWhen reaches come to: PView. No conditions but those that each theorem states. -/
import Derived.Test.YtjenicbpdklpbaaGreatFnExactPlainWhenPWA
set_option linter.all false
namespace Go.Proofs.YtjenicbpdklpbaaGreat.M
open Go Go.Eng Go.Proofs
set_option linter.unusedVariables false
def live (x : XItem) : Bool := decide (x.2.2.1 = 0)
def view (s : XState) : List XItem := bif stOk s then s.1.filter live else []
theorem view_len (s : XState) : (view s).length ≤ 5 := by
  unfold view
  cases h : stOk s
  · simp
  · have := (stOk_len h).1
    have := List.length_filter_le live s.1
    simp only [cond_true]; omega
def lookup (s : XState) (id : Int) : Int × Int × Int × Int × ByteArray × Bool := entryOf id (view s)
theorem view_max (s : XState) : (view s).length ≤ maxLen := by have := view_len s; simp only [maxLen]; omega
theorem sumL_filter {α : Type} (c : α → Nat) (p : α → Bool) : (l : List α) → sumL c (l.filter p) ≤ sumL c l
  | [] => Nat.le_refl _
  | x :: l => by
    have := sumL_filter c p l
    rw [List.filter_cons]
    split
    · simp only [sumL]; omega
    · simp only [sumL]; omega
theorem items_sz8 (fl : List XFloor) : (p : Int) → (l : List XItem) → okItems fl p l = true → sumL mz_Item l ≤ 8 * l.length
  | _, [], _ => by simp [sumL]
  | p, x :: l, h => by
    have hx := items_smB fl p (x :: l) h x (by simp)
    simp only [okItems, Bool.and_eq_true] at h
    have := items_sz8 fl _ l h.2
    simp only [sumL, mz_Item, mz_Entry, List.length_cons]; omega
theorem view_sz (s : XState) : mz_ItemS (view s) ≤ 45 := by
  have hl := view_len s
  unfold view at hl ⊢
  cases h : stOk s
  · simp [mz_ItemS, sumL]
  · rw [h] at hl
    have h2 := (stOk_len h).1
    simp only [stOk, Bool.and_eq_true] at h
    have h3 := items_sz8 _ _ _ h.2
    have h4 := sumL_filter mz_Item live s.1
    simp only [cond_true] at hl ⊢
    simp only [mz_ItemS]; omega
theorem smNT_st {x : XNode} (h : smNT x) : x.2.2.1.length ≤ maxLen ∧ x.2.2.2.1.length ≤ maxLen := ⟨h.1, h.2.1⟩
def shown (ns : List XNode) (net : List XPack) (sd : List XSaid) (i : Int) : List XItem := bif worldOk ns net sd && inR i 0 ((ns.length : Nat) - 1) then view ((nodeAt ns i).2.2.1, (nodeAt ns i).2.2.2.1) else []
theorem shown_sz (ns : List XNode) (net : List XPack) (sd : List XSaid) (i : Int) : mz_ItemS (shown ns net sd i) ≤ 45 := by
  unfold shown
  cases worldOk ns net sd && inR i 0 ((ns.length : Nat) - 1)
  · simp [mz_ItemS, sumL]
  · exact view_sz _
def aliveAt (i : Nat) (x : XNode) : List Int := bif (lookup (x.2.2.1, x.2.2.2.1) (i : Int)).2.2.2.2.2 then [(i : Int)] else []
def alive (ns : List XNode) (net : List XPack) (sd : List XSaid) : List Int := bif worldOk ns net sd then flatIx aliveAt 0 ns else []
theorem aliveAt_len (i : Nat) (x : XNode) : (aliveAt i x).length ≤ 1 := filt_len _ _
theorem alive_len (ns : List XNode) (net : List XPack) (sd : List XSaid) : (alive ns net sd).length ≤ 5 := by
  unfold alive
  cases hw : worldOk ns net sd
  · simp
  · have := flatIx_len aliveAt 1 aliveAt_len 0 ns
    have := (worldOk_nums hw).n5
    simp only [cond_true]; omega
def partsAt (k : Int) (i : Nat) (x : XSaid) : List XState := bif decide ((i : Int) < k) then [x.2] else []
def partsTo (k : Int) (sd : List XSaid) : List XState := flatIx (partsAt k) 0 sd
theorem partsAt_len (k : Int) (i : Nat) (x : XSaid) : (partsAt k i x).length ≤ 1 := filt_len _ _
theorem flatIx_mem {α β : Type} (f : Nat → α → List β) (p : β → Prop) : (i : Nat) → (l : List α) → (∀ j x, x ∈ l → ∀ y ∈ f j x, p y) → ∀ y ∈ flatIx f i l, p y
  | _, [], _ => by simp [flatIx]
  | i, x :: l, h => by
    intro y hy
    rw [flatIx, List.mem_append] at hy
    rcases hy with hy | hy
    · exact h i x (by simp) y hy
    · exact flatIx_mem f p (i + 1) l (fun j z hz => h j z (by simp [hz])) y hy
def plainWhen (ns : List XNode) (net : List XPack) (sd : List XSaid) (k : Int) : List XItem := bif worldOk ns net sd then plainL (partsTo k sd) else []
theorem plainWhen_sz (ns : List XNode) (net : List XPack) (sd : List XSaid) (k : Int) : mz_ItemS (plainWhen ns net sd k) ≤ 45 := by
  unfold plainWhen
  cases worldOk ns net sd
  · simp [mz_ItemS, sumL]
  · exact plainL_sz _
theorem parts_sm {ns : List XNode} {net : List XPack} {sd : List XSaid} (h : smW ns net sd) (k : Int) : ∀ s ∈ partsTo k sd, smS s := flatIx_mem _ _ _ _ fun j x hx y hy => by
  have := h.2.2.2.2.2 x hx
  simp only [partsAt] at hy
  cases hd : decide ((j : Int) < k)
  · rw [hd] at hy; simp at hy
  · rw [hd] at hy
    obtain rfl : y = x.2 := by simpa using hy
    exact this
theorem parts_len (k : Int) (sd : List XSaid) : (partsTo k sd).length ≤ sd.length := by
  have := flatIx_len (partsAt k) 1 (partsAt_len k) 0 sd
  simpa [partsTo] using this
theorem PlainWhen_ok (ns : List XNode) (net : List XPack) (sd : List XSaid) (k : Int) (h : smW ns net sd) : impl_PlainWhen w (ns, net, sd, k) = some (plainWhen ns net sd k) := by
  apply impl_PlainWhen_of
  simp only [impl_PlainWhen_raw, WorldOk_ok ns net sd h, Option.bind_some, plainWhen]
  cases hw : worldOk ns net sd
  · rfl
  · have h40 := (worldOk_nums hw).sd40
    have hp := parts_len k sd
    have e := loop_flat sd (partsAt k) 1 (partsAt_len k) (fun i out => impl_PlainWhen_k0 wl (k, sd, ((sd.length : Nat) : Int), (i : Int), out)) (fun out => out)
      (fun i hi out r ho hk => by
        apply impl_PlainWhen_l0_of
        simp only [impl_PlainWhen_l0, ilt hi, inb_of hi, rd1_get hi, inc hi h.2.2.2.2.1, cond_true]
        simp only [partsAt] at hk
        cases hx : decide ((i : Int) < k)
        · rw [hx] at hk; simpa using hk
        · rw [hx] at hk
          simp only [cond_true] at hk ⊢
          rw [fits_of (by simp; omega)]; exact hk)
      (fun out => by
        apply impl_PlainWhen_l0_of
        simp only [impl_PlainWhen_l0, ilt_self, cond_false])
    simp only [Int.natCast_zero] at e
    rw [show flatIx (partsAt k) 0 sd = partsTo k sd from rfl] at e
    simp only [e, Option.bind_some, Bool.not_true, cond_false, cond_true, Plain_ok (partsTo k sd) (by simp only [maxLen]; omega) (parts_sm h k)]
theorem parts_none {k : Int} : (i : Nat) → (l : List XSaid) → ¬ (i : Int) < k → flatIx (partsAt k) i l = []
  | _, [], _ => rfl
  | i, x :: l, h => by
    rw [flatIx, parts_none (i + 1) l (by omega)]
    simp [partsAt, h]
theorem sPlainWhen_ok (ns : List XNode) (net : List XPack) (sd : List XSaid) (k : Int) (h : smW ns net sd) : spec_PlainWhen w (ns, net, sd, k) = some (plainWhen ns net sd k) := by
  apply spec_PlainWhen_of
  simp only [spec_PlainWhen_raw, sWorldOk_ok ns net sd h, Option.bind_some, plainWhen]
  cases hw : worldOk ns net sd
  · rfl
  · have h40 := (worldOk_nums hw).sd40
    have hp := parts_len k sd
    have e := loop_st sd.length (fun i out => spec_PlainWhen_k0 wl (k, (i : Int), ns, net, sd, out)) (fun i out => out ++ flatIx (partsAt k) i (sd.drop i)) (fun i out => out.length ≤ i)
      (fun i hi out ho ih => by
        apply spec_PlainWhen_l0_of
        simp only [spec_PlainWhen_l0, ilt hi, inb_of hi, rd1_get hi, inc hi h.2.2.2.2.1, cond_true]
        by_cases hx : (i : Int) < k
        · rw [dt hx, cond_true, fits_of (by simp; omega), cond_true, ih _ (by simp; omega), List.drop_eq_getElem_cons hi, flatIx]
          simp [partsAt, hx]
        · rw [df hx, cond_false, parts_none _ _ hx, List.append_nil])
      (fun out _ => by
        apply spec_PlainWhen_l0_of
        simp only [spec_PlainWhen_l0, ilt_self, cond_false, List.drop_length, flatIx, List.append_nil])
      [] (by simp)
    simp only [Int.natCast_zero, List.drop_zero, List.nil_append] at e
    rw [show flatIx (partsAt k) 0 sd = partsTo k sd from rfl] at e
    simp only [e, Option.bind_some, Bool.not_true, cond_false, cond_true, sPlain_ok (partsTo k sd) (by simp only [maxLen]; omega) (parts_sm h k)]
theorem law_PlainWhen (a0 : List XNode) (a1 : List XPack) (a2 : List XSaid) (a3 : Int) (hf : ft_World (a0, a1, a2)) : laws_FnExactPlainWhen w (a0, a1, a2, a3) = some true := by
  apply laws_FnExactPlainWhen_of
  have hs := ft_world hf
  simp only [laws_FnExactPlainWhen_raw, sz_World a0 a1 a2 1048576 (by omega) (by omega) hf, Option.bind_some]
  by_cases h : (mz_World (a0, a1, a2) : Int) ≤ 1048576
  · rw [szI_pos h, df (by omega), cond_false]
    have hp := plainWhen_sz a0 a1 a2 a3
    have hc := sumc_ItemS (plainWhen a0 a1 a2 a3)
    have hm : mz_NodeS a0 + mz_PackS a1 + mz_SaidS a2 ≤ 1048576 := by simp only [mz_World] at h; omega
    have c1 := sumc_NodeS a0
    have c2 := sumc_PackS a1
    have c3 := sumc_SaidS a2
    simp only [to_World a0 a1 a2 (by omega), sPlainWhen_ok _ _ _ _ hs, PlainWhen_ok _ _ _ _ hs, eq_World a0 a1 a2 (by omega), eq_ItemS (plainWhen a0 a1 a2 a3) (by omega), mark_World a0 a1 a2 1 (by omega) (by omega) (by omega), mark_ItemS (plainWhen a0 a1 a2 a3) 1 (by omega) (by omega) (by omega), held_ItemS (plainWhen a0 a1 a2 a3) 1 (by omega) (by omega) (by omega), Option.bind_some, decide_true, Bool.not_true, cond_false]
    simp only [df (show ¬ (((1 + ((sumL mkc_Node a0 : Nat) : Int)) + ((sumL mkc_Pack a1 : Nat) : Int)) + ((sumL mkc_Said a2 : Nat) : Int)) < 0 by omega), df (show ¬ (1 + ((sumL mkc_Item (plainWhen a0 a1 a2 a3) : Nat) : Int)) < 0 by omega), cond_false]
  · rw [szI_neg h, dt (by omega), cond_true]
end Go.Proofs.YtjenicbpdklpbaaGreat.M
