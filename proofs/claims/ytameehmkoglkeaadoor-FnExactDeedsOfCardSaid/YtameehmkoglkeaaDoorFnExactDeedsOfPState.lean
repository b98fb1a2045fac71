/- What the plain forms that FnExactDeedsOf reaches come to: PState. No conditions but those that each theorem states. -/
import Derived.Test.YtameehmkoglkeaaDoorFnExactDeedsOfRaw0
import Derived.Lib.ItoaLen
import Derived.Lib.Join
import Derived.Lib.IndexLaws
import Derived.Lib.Split
import Derived.Lib.SplitLaws
import Derived.Lib.AtoiAll
set_option linter.all false
namespace Go.Proofs.YtameehmkoglkeaaDoor.M
open Go Go.Eng Go.Proofs
set_option linter.unusedVariables false
def inR (n lo hi : Int) : Bool := decide (lo ≤ n) && decide (n ≤ hi)
theorem within_ok (n lo hi : Int) : impl_within w (n, lo, hi) = some (inR n lo hi) := by
  apply impl_within_of
  simp only [impl_within_raw, inR]
  cases decide (lo ≤ n) <;> rfl
theorem l1In_ok (n lo hi : Int) : spec_l1In w (n, lo, hi) = some (inR n lo hi) := by
  apply spec_l1In_of
  simp only [spec_l1In_raw, inR]
  cases decide (lo ≤ n) <;> rfl
def entOk (e : XEntry) : Bool := inR e.1 1 1000 && inR e.2.1 0 1 && inR e.2.2.1 0 100000 && inR e.2.2.2.1 0 1000 && decide (((ByteArray.size e.2.2.2.2 : Nat) : Int) ≤ 8)
/-- The entry of a node: its cells, and whether there is one. -/
def entryOf (id : Int) : List XItem → Int × Int × Int × Int × ByteArray × Bool
  | [] => (0, 0, 0, 0, ByteArray.empty, false)
  | x :: l => if x.1 = id then (x.2.1, x.2.2.1, x.2.2.2.1, x.2.2.2.2.1, x.2.2.2.2.2, true) else entryOf id l
def floorOf (id : Int) : List XFloor → Int
  | [] => 0
  | x :: l => if x.1 = id then x.2 else floorOf id l
def entR (id : Int) : List XItem → (Bool × Int × Int × Int × Int × ByteArray) ⊕ Unit
  | [] => .inr ()
  | x :: l => if x.1 = id then .inl (true, x.2) else entR id l
theorem entR_entryOf (id : Int) : (l : List XItem) → elimS (entR id l) (fun u3 => some (u3.2.1, u3.2.2.1, u3.2.2.2.1, u3.2.2.2.2.1, u3.2.2.2.2.2, u3.1)) (fun z4 => some (0, 0, 0, 0, ByteArray.empty, false)) = some (entryOf id l)
  | [] => rfl
  | x :: l => by
    have ih := entR_entryOf id l
    by_cases h : x.1 = id
    · simp only [entR, entryOf, h, if_true, elimS, Sum.elim_inl]
    · simp only [entR, entryOf, h, if_false]; exact ih
def floR (id : Int) : List XFloor → Int ⊕ Unit
  | [] => .inr ()
  | x :: l => if x.1 = id then .inl x.2 else floR id l
theorem floR_floorOf (id : Int) : (l : List XFloor) → elimS (floR id l) (fun u3 => some u3) (fun z4 => some 0) = some (floorOf id l)
  | [] => rfl
  | x :: l => by
    have ih := floR_floorOf id l
    by_cases h : x.1 = id
    · simp only [floR, floorOf, h, if_true, elimS, Sum.elim_inl]
    · simp only [floR, floorOf, h, if_false]; exact ih
def okFloors : Int → List XFloor → Bool
  | _, [] => true
  | p, x :: l => inR x.1 0 4 && inR x.2 1 1000 && decide (p < x.1) && okFloors x.1 l
def okItems (fl : List XFloor) : Int → List XItem → Bool
  | _, [] => true
  | p, x :: l => inR x.1 0 4 && entOk x.2 && decide (floorOf x.1 fl < x.2.1) && decide (p < x.1) && okItems fl x.1 l
def stOk (s : XState) : Bool := okFloors (-1) s.2 && okItems s.2 (-1) s.1
/-- The id before place i. -/
def prevF (b : List XFloor) (i : Nat) : Int := if i = 0 then -1 else (b.getD (i - 1) (0, 0)).1
def prevI (b : List XItem) (i : Nat) : Int := if i = 0 then -1 else (b.getD (i - 1) zItem).1
theorem prevF_succ (b : List XFloor) {i : Nat} (h : i < b.length) : prevF b (i + 1) = b[i].1 := by simp [prevF, List.getD, h]
theorem prevI_succ (b : List XItem) {i : Nat} (h : i < b.length) : prevI b (i + 1) = b[i].1 := by simp [prevI, List.getD, h]
theorem prevF_get (b : List XFloor) {i : Nat} (h0 : 0 < i) (h : i - 1 < b.length) : prevF b i = b[i - 1].1 := by
  simp [prevF, List.getD, h, show ¬ i = 0 by omega]
theorem prevI_get (b : List XItem) {i : Nat} (h0 : 0 < i) (h : i - 1 < b.length) : prevI b i = b[i - 1].1 := by
  simp [prevI, List.getD, h, show ¬ i = 0 by omega]
theorem inR_node {n : Int} (h : inR n 0 4 = true) : -1 < n := by
  simp [inR] at h; omega
theorem dle_not (a b : Int) : decide (a ≤ b) = !decide (b < a) := by
  by_cases h : a ≤ b
  · rw [dt h, df (by omega)]; rfl
  · rw [df h, dt (by omega)]; rfl
end Go.Proofs.YtameehmkoglkeaaDoor.M

namespace Go.Proofs.YtameehmkoglkeaaDoor.M
open Go Go.Eng Go.Proofs
set_option linter.unusedVariables false
def mz_Deed (x : XEntry) : Nat := ByteArray.size x.2.2.2.2
def ft_Deed (x : XEntry) : Prop := ByteArray.size x.2.2.2.2 ≤ maxLen
theorem fit_Deed {x : XEntry} (h : FitV tEntry x) : ft_Deed x := h.2.2.2.2.1
def mz_DeedS (a : List XEntry) : Nat := a.length + sumL mz_Deed a
def ft_DeedS (a : List XEntry) : Prop := a.length ≤ maxLen ∧ ∀ x ∈ a, ft_Deed x
theorem eq_Deed (a0 : Int) (a1 : Int) (a2 : Int) (a3 : Int) (a4 : ByteArray) (h : mz_Deed (a0, a1, a2, a3, a4) ≤ 4294967296) : laws_eqDeed w (a0, a1, a2, a3, a4, a0, a1, a2, a3, a4) = some true := by
  apply laws_eqDeed_of
  simp only [mz_Deed] at h
  simp only [laws_eqDeed_raw, decide_true, Bool.not_true, cond_false, beqS_refl, beq_self_eq_true, Option.bind_some]
theorem eq_DeedS (a : List XEntry) (h : mz_DeedS a ≤ 4294967296) : laws_eqDeedS w (a, a) = some true := by
  apply laws_eqDeedS_of
  simp only [mz_DeedS] at h
  have e := loop_all a.length (fun i => laws_eqDeedS_k0 wl (a, a, (i : Int))) (.inr ())
    (fun i h1 r hk => by
      apply laws_eqDeedS_l0_of
      have hb := sumL_get mz_Deed a i h1
      simp only [laws_eqDeedS_l0, ilt h1, inb_of h1, rd1_get h1, inc h1 (show a.length ≤ maxLen by simp [maxLen]; omega), cond_true, decide_true, Bool.not_true, cond_false, beqS_refl, beq_self_eq_true, eq_Deed (a[i]).1 (a[i]).2.1 (a[i]).2.2.1 (a[i]).2.2.2.1 (a[i]).2.2.2.2 (show mz_Deed a[i] ≤ 4294967296 by omega), Option.bind_some]
      exact hk)
    (by
      apply laws_eqDeedS_l0_of
      simp only [laws_eqDeedS_l0, ilt_self, cond_false])
  simp only [Int.natCast_zero] at e
  simp only [laws_eqDeedS_raw, decide_true, Bool.not_true, cond_false, e, Option.bind_some, elimS, Sum.elim_inr]
def mz_IntS (a : List Int) : Nat := a.length
def ft_IntS (a : List Int) : Prop := a.length ≤ maxLen
def mz_Tree (x : XTree) : Nat := mz_IntS x.1
def ft_Tree (x : XTree) : Prop := ft_IntS x.1
theorem fit_Tree {x : XTree} (h : FitV tTree x) : ft_Tree x := h.1.1
def mz_Entry (x : XEntry) : Nat := ByteArray.size x.2.2.2.2
def ft_Entry (x : XEntry) : Prop := ByteArray.size x.2.2.2.2 ≤ maxLen
theorem fit_Entry {x : XEntry} (h : FitV tEntry x) : ft_Entry x := h.2.2.2.2.1
def mz_Item (x : XItem) : Nat := mz_Entry (x.2.1, x.2.2.1, x.2.2.2.1, x.2.2.2.2.1, x.2.2.2.2.2)
def ft_Item (x : XItem) : Prop := ft_Entry (x.2.1, x.2.2.1, x.2.2.2.1, x.2.2.2.2.1, x.2.2.2.2.2)
theorem fit_Item {x : XItem} (h : FitV tItem x) : ft_Item x := fit_Entry ⟨h.2.1, h.2.2.1, h.2.2.2.1, h.2.2.2.2.1, h.2.2.2.2.2.1, trivial⟩
def mz_ItemS (a : List XItem) : Nat := a.length + sumL mz_Item a
def ft_ItemS (a : List XItem) : Prop := a.length ≤ maxLen ∧ ∀ x ∈ a, ft_Item x
def mz_FloorS (a : List XFloor) : Nat := a.length
def ft_FloorS (a : List XFloor) : Prop := a.length ≤ maxLen
def mz_State (x : XState) : Nat := mz_ItemS x.1 + mz_FloorS x.2
def ft_State (x : XState) : Prop := ft_ItemS x.1 ∧ ft_FloorS x.2
theorem fit_State {x : XState} (h : FitV tState x) : ft_State x := ⟨⟨h.1.1, fun y hy => fit_Item (h.1.2 y hy)⟩, h.2.1.1⟩
def mz_MarkS (a : List XFloor) : Nat := a.length
def ft_MarkS (a : List XFloor) : Prop := a.length ≤ maxLen
def mz_Msg (x : XMsg) : Nat := mz_Tree (x.2.2.2.2.2.1, x.2.2.2.2.2.2.1) + mz_IntS x.2.2.2.2.2.2.2.1 + mz_IntS x.2.2.2.2.2.2.2.2.1 + mz_State (x.2.2.2.2.2.2.2.2.2.1, x.2.2.2.2.2.2.2.2.2.2.1) + mz_MarkS x.2.2.2.2.2.2.2.2.2.2.2
def ft_Msg (x : XMsg) : Prop := ft_Tree (x.2.2.2.2.2.1, x.2.2.2.2.2.2.1) ∧ ft_IntS x.2.2.2.2.2.2.2.1 ∧ ft_IntS x.2.2.2.2.2.2.2.2.1 ∧ ft_State (x.2.2.2.2.2.2.2.2.2.1, x.2.2.2.2.2.2.2.2.2.2.1) ∧ ft_MarkS x.2.2.2.2.2.2.2.2.2.2.2
theorem fit_Msg {x : XMsg} (h : FitV tMsg x) : ft_Msg x := ⟨fit_Tree ⟨h.2.2.2.2.2.1, h.2.2.2.2.2.2.1, trivial⟩, h.2.2.2.2.2.2.2.1.1, h.2.2.2.2.2.2.2.2.1.1, fit_State ⟨h.2.2.2.2.2.2.2.2.2.1, h.2.2.2.2.2.2.2.2.2.2.1, trivial⟩, h.2.2.2.2.2.2.2.2.2.2.2.1.1⟩
theorem markText_loop : ∀ (n : Nat) (k : Int) (out : ByteArray), 0 ≤ k → k ≤ 9223372036854775807 → k < 10 ^ n → ByteArray.size out + n ≤ 100000 → ∃ r, laws_markText_k0 wl (k, out) = some r ∧ ByteArray.size r ≤ 100000 := by
  intro n
  induction n with
  | zero =>
    intro k out h0 hm h1 h2
    have : k = 0 := by omega
    subst this
    refine ⟨out, ?_, by omega⟩
    apply laws_markText_l0_of
    simp only [laws_markText_l0, df (show ¬ (0 : Int) < 0 by omega), cond_false]
  | succ n ih =>
    intro k out h0 hm h1 h2
    by_cases hk : 0 < k
    · have hd := Int.tdiv_eq_ediv_of_nonneg (b := 10) h0
      obtain ⟨r, hr, hs⟩ := ih (Int.tdiv k 10) (toBytes [IntKind.wrap .u8 (IntKind.wrap .i64 (48 + Int.tmod k 10))] ++ out) (by omega) (by omega) (by rw [Int.pow_succ] at h1; omega) (by rw [ByteArray.size_append, toBytes_size]; simp; omega)
      refine ⟨r, ?_, hs⟩
      apply laws_markText_l0_of
      simp only [laws_markText_l0, dt hk, cond_true, dt (show (10 : Int) ≠ 0 by omega), toBytes_size, fits_of (show (List.length [IntKind.wrap .u8 (IntKind.wrap .i64 (48 + Int.tmod k 10))] + ByteArray.size out) * 1 ≤ 140737488351232 by simp; omega)]
      rw [w64 (n := Int.tdiv k 10) (by omega) (by omega)]
      exact hr
    · have : k = 0 := by omega
      subst this
      refine ⟨out, ?_, by omega⟩
      apply laws_markText_l0_of
      simp only [laws_markText_l0, df (show ¬ (0 : Int) < 0 by omega), cond_false]
noncomputable def markT (k : Int) : ByteArray := (laws_markText w k).getD ByteArray.empty
theorem markText_ok (k : Int) (h0 : 0 < k) (hm : k ≤ 9223372036854775807) : laws_markText w k = some (markT k) := by
  obtain ⟨r, hr, hs⟩ := markText_loop 30 k (⟨#[]⟩ : ByteArray) (by omega) hm (by omega) (by show 0 + 30 ≤ 100000; omega)
  have : laws_markText w k = some ((⟨#[109]⟩ : ByteArray) ++ r) := by
    apply laws_markText_of
    have h1 : ByteArray.size (⟨#[109]⟩ : ByteArray) = 1 := rfl
    simp only [laws_markText_raw, df (show ¬ k ≤ 0 by omega), cond_false, hr, Option.bind_some, fits_of (show (ByteArray.size (⟨#[109]⟩ : ByteArray) + ByteArray.size r) * 1 ≤ 140737488351232 by omega), cond_true]
  rw [markT, this]; rfl
noncomputable def mkf_Deed (x : XEntry) (n : Int) : XEntry := (n, (n + 1), ((n + 1) + 1), (((n + 1) + 1) + 1), markT ((((n + 1) + 1) + 1) + 1))
def mkc_Deed (x : XEntry) : Nat := 5
theorem mkc_le_Deed (x : XEntry) : mkc_Deed x ≤ 64 * (mz_Deed x + 1) := by
  simp only [mkc_Deed, mz_Deed]; omega
theorem sumc_DeedS (a : List XEntry) : sumL mkc_Deed a ≤ 64 * mz_DeedS a := by
  have h := sumL_lin mkc_Deed mz_Deed (fun x => mkc_le_Deed x) a
  simp only [mz_DeedS]; omega
theorem mark_DeedS (a : List XEntry) (k : Int) (hk : 0 < k) (hs : k + ((sumL mkc_Deed a : Nat) : Int) ≤ 1152921504606846976) (h : mz_DeedS a ≤ 4294967296) : laws_markDeedS w (a, k) = some (k + ((sumL mkc_Deed a : Nat) : Int), markL mkf_Deed mkc_Deed a k) := by
  apply laws_markDeedS_of
  simp only [mz_DeedS] at h
  have e := loop_mark mkf_Deed mkc_Deed a (fun k i ys => laws_markDeedS_k0 wl (k, (i : Int), ys)) (fun k ys => (k, ys)) 1152921504606846976
    (fun k i ys h1 r hy hm h0 hB hk => by
      apply laws_markDeedS_l0_of
      have hb := sumL_mem mz_Deed hm
      simp only [mkc_Deed] at hB
      have hw0 : IntKind.wrap .i64 (k + 1) = k + 1 := w64 (by omega) (by omega)
      have hw1 : IntKind.wrap .i64 ((k + 1) + 1) = (k + 1) + 1 := w64 (by omega) (by omega)
      have hw2 : IntKind.wrap .i64 (((k + 1) + 1) + 1) = ((k + 1) + 1) + 1 := w64 (by omega) (by omega)
      have hw3 : IntKind.wrap .i64 ((((k + 1) + 1) + 1) + 1) = (((k + 1) + 1) + 1) + 1 := w64 (by omega) (by omega)
      have hw4 : IntKind.wrap .i64 (((((k + 1) + 1) + 1) + 1) + 1) = ((((k + 1) + 1) + 1) + 1) + 1 := w64 (by omega) (by omega)
      have ht4 := markText_ok ((((k + 1) + 1) + 1) + 1) (by omega) (by omega)
      simp only [laws_markDeedS_l0, ilt h1, inb_of h1, rd1_get h1, rd1_set h1, List.length_set, List.set_set, inc h1 (show ys.length ≤ maxLen by simp [maxLen]; omega), cond_true, Int.toNat_natCast, Option.bind_some, dt (show (3 : Int) ≠ 0 by omega), hw0, hw1, hw2, hw3, hw4, ht4]
      have hk : laws_markDeedS_k0 wl (k + ((5 : Nat) : Int), ((i + 1 : Nat) : Int), ys.set i (k, (k + 1), ((k + 1) + 1), (((k + 1) + 1) + 1), markT ((((k + 1) + 1) + 1) + 1))) = some r := hk
      rw [show k + ((5 : Nat) : Int) = (((((k + 1) + 1) + 1) + 1) + 1) by omega] at hk
      exact hk)
    (fun k ys hy => by
      apply laws_markDeedS_l0_of
      simp only [laws_markDeedS_l0, ← hy, ilt_self, cond_false])
    k hk hs
  simp only [Int.natCast_zero] at e
  simp only [laws_markDeedS_raw, e, Option.bind_some]
theorem held_DeedS (a : List XEntry) (k : Int) (hk : 0 < k) (hs : k + ((sumL mkc_Deed a : Nat) : Int) ≤ 1152921504606846976) (h : mz_DeedS a ≤ 4294967296) : laws_heldDeedS w (markL mkf_Deed mkc_Deed a k, k) = some (k + ((sumL mkc_Deed a : Nat) : Int)) := by
  apply laws_heldDeedS_of
  simp only [mz_DeedS] at h
  have hl : (markL mkf_Deed mkc_Deed a k).length = a.length := markL_length _ _ a k
  have e := loop_held mkf_Deed mkc_Deed a k (fun l i => laws_heldDeedS_k0 wl ((markL mkf_Deed mkc_Deed a k), l, (i : Int))) 1152921504606846976
    (fun k1 i h1 x r hx hm h0 hB hk => by
      apply laws_heldDeedS_l0_of
      have hb := sumL_mem mz_Deed hx
      simp only [mkc_Deed] at hB
      simp only [mkf_Deed] at hm
      have hw0 : IntKind.wrap .i64 (k1 + 1) = k1 + 1 := w64 (by omega) (by omega)
      have hw1 : IntKind.wrap .i64 ((k1 + 1) + 1) = (k1 + 1) + 1 := w64 (by omega) (by omega)
      have hw2 : IntKind.wrap .i64 (((k1 + 1) + 1) + 1) = ((k1 + 1) + 1) + 1 := w64 (by omega) (by omega)
      have hw3 : IntKind.wrap .i64 ((((k1 + 1) + 1) + 1) + 1) = (((k1 + 1) + 1) + 1) + 1 := w64 (by omega) (by omega)
      have hw4 : IntKind.wrap .i64 (((((k1 + 1) + 1) + 1) + 1) + 1) = ((((k1 + 1) + 1) + 1) + 1) + 1 := w64 (by omega) (by omega)
      have ht4 := markText_ok ((((k1 + 1) + 1) + 1) + 1) (by omega) (by omega)
      simp only [laws_heldDeedS_l0, ilt h1, inb_of h1, rd1_get h1, hm, inc h1 (show (markL mkf_Deed mkc_Deed a k).length ≤ maxLen by rw [hl]; simp [maxLen]; omega), cond_true, cond_false, decide_true, Bool.not_true, beqS_refl, beq_self_eq_true, Option.bind_some, dt (show (3 : Int) ≠ 0 by omega), hw0, hw1, hw2, hw3, hw4, ht4]
      have hk : laws_heldDeedS_k0 wl ((markL mkf_Deed mkc_Deed a k), k1 + ((5 : Nat) : Int), ((i + 1 : Nat) : Int)) = some r := hk
      rw [show k1 + ((5 : Nat) : Int) = (((((k1 + 1) + 1) + 1) + 1) + 1) by omega] at hk
      exact hk)
    (fun l => by
      apply laws_heldDeedS_l0_of
      simp only [laws_heldDeedS_l0, hl, ilt_self, cond_false])
    hk hs
  simp only [Int.natCast_zero] at e
  simp only [laws_heldDeedS_raw, e, Option.bind_some, elimS, Sum.elim_inr]
end Go.Proofs.YtameehmkoglkeaaDoor.M

namespace Go.Proofs.YtameehmkoglkeaaDoor.M
open Go Go.Eng Go.Proofs
set_option linter.unusedVariables false
/-! Numbers as text. -/
def bsl (l : List UInt8) : ByteArray := ⟨l.toArray⟩
theorem bsl_app (l m : List UInt8) : bsl l ++ bsl m = bsl (l ++ m) := by
  apply ByteArray.ext
  simp [bsl]
theorem bsl_data (s : ByteArray) : bsl s.data.toList = s := by
  apply ByteArray.ext
  simp [bsl]
theorem bsl_size (l : List UInt8) : (bsl l).size = l.length := by simp [bsl, ByteArray.size]
def digits (n : Int) : ByteArray := bsl (Go.Lib.itoa n)
theorem Digits_ok (n : Int) (h0 : -9223372036854775808 ≤ n) (h1 : n ≤ 9223372036854775807) : impl_Digits w n = some (digits n) := by
  apply impl_Digits_of
  have e : strconv_Itoa w n = some (digits n) := by
    apply strconv_Itoa_of
    simp only [strconv_Itoa_raw, itoaX, dt (show (-9223372036854775808 : Int) ≤ n ∧ n ≤ 9223372036854775807 from ⟨h0, h1⟩), cond_true]; rfl
  simp only [impl_Digits_raw, e, Option.bind_some]
def digL (u : Nat) : List UInt8 := if u = 0 then [] else Go.Lib.decDigits u
theorem digL_step {u : Nat} (h : u ≠ 0) : digL u = digL (u / 10) ++ [UInt8.ofNat (48 + u % 10)] := by
  unfold digL
  rw [if_neg h]
  by_cases h10 : u < 10
  · rw [Go.Lib.decDigits, dif_pos h10, show u / 10 = 0 by omega, show u % 10 = u by omega]; rfl
  · rw [Go.Lib.decDigits, dif_neg h10, if_neg (show u / 10 ≠ 0 by omega)]
theorem digit_byte (d : Nat) (h : d < 10) : toBytes [IntKind.wrap .u8 (IntKind.wrap .i64 (48 + (d : Int)))] = bsl [UInt8.ofNat (48 + d)] := by
  have : d = 0 ∨ d = 1 ∨ d = 2 ∨ d = 3 ∨ d = 4 ∨ d = 5 ∨ d = 6 ∨ d = 7 ∨ d = 8 ∨ d = 9 := by omega
  rcases this with rfl | rfl | rfl | rfl | rfl | rfl | rfl | rfl | rfl | rfl <;> decide
theorem sDigits_loop (b : Bool) : (k u : Nat) → (y : Int) → (acc : List UInt8) → (y = (u : Int) ∨ y = -(u : Int)) → u < 10 ^ k → u ≤ 9223372036854775808 → (y = (u : Int) → u ≤ 9223372036854775807) → acc.length + k ≤ 1000 → spec_Digits_k0 wl (y, b, bsl acc) = some (b, bsl (digL u ++ acc))
  | 0, u, y, acc, hy, hu, _, _, _ => by
    apply spec_Digits_l0_of
    have h0 : u = 0 := by simpa using hu
    subst h0
    simp only [spec_Digits_l0, dt (show y = 0 by omega), Bool.not_true, cond_false, digL, if_true, List.nil_append]
  | k + 1, u, y, acc, hy, hu, hmx, hmx2, ha => by
    apply spec_Digits_l0_of
    by_cases h0 : u = 0
    · subst h0
      simp only [spec_Digits_l0, dt (show y = 0 by omega), Bool.not_true, cond_false, digL, if_true, List.nil_append]
    · have hlt : u / 10 < 10 ^ k := by rw [Nat.pow_succ] at hu; omega
      have hb := digit_byte (u % 10) (by omega)
      have hf : fits (ByteArray.size (bsl [UInt8.ofNat (48 + u % 10)]) + ByteArray.size (bsl acc)) 1 = true := by
        rw [bsl_size, bsl_size]; exact fits_of (by simp; omega)
      simp only [spec_Digits_l0, df (show ¬ y = 0 by omega), Bool.not_false, cond_true, dt (show (10 : Int) ≠ 0 by omega)]
      rw [digL_step h0, List.append_assoc]
      by_cases hy' : y = (u : Int)
      · have e1 : Int.tmod y 10 = ((u % 10 : Nat) : Int) := by rw [hy']; rfl
        have e2 : Int.tdiv y 10 = ((u / 10 : Nat) : Int) := by rw [hy']; rfl
        have ih := sDigits_loop b k (u / 10) ((u / 10 : Nat) : Int) ([UInt8.ofNat (48 + u % 10)] ++ acc) (.inl rfl) hlt (by omega) (fun _ => by omega) (by simp; omega)
        rw [e1, e2, df (show ¬ (((u % 10 : Nat) : Int) < 0) by omega), hb, hf, w64 (n := ((u / 10 : Nat) : Int)) (by omega) (by omega), bsl_app]
        exact ih
      · have hy2 : y = -(u : Int) := by omega
        have e1 : Int.tmod y 10 = -((u % 10 : Nat) : Int) := by rw [hy2, Int.neg_tmod]; rfl
        have e2 : Int.tdiv y 10 = -((u / 10 : Nat) : Int) := by rw [hy2, Int.neg_tdiv]; rfl
        have ih := sDigits_loop b k (u / 10) (-((u / 10 : Nat) : Int)) ([UInt8.ofNat (48 + u % 10)] ++ acc) (.inr rfl) hlt (by omega) (fun _ => by omega) (by simp; omega)
        rw [e1, e2]
        by_cases hz : u % 10 = 0
        · rw [hz] at hb hf ih ⊢
          rw [show (-((0 : Nat) : Int)) = ((0 : Nat) : Int) from rfl, df (show ¬ (((0 : Nat) : Int) < 0) by omega), hb, hf, w64 (n := -((u / 10 : Nat) : Int)) (by omega) (by omega), bsl_app]
          exact ih
        · rw [dt (show -((u % 10 : Nat) : Int) < 0 by omega), w64 (n := 0 - -((u % 10 : Nat) : Int)) (by omega) (by omega), show (0 : Int) - -((u % 10 : Nat) : Int) = ((u % 10 : Nat) : Int) by omega, hb, hf, w64 (n := -((u / 10 : Nat) : Int)) (by omega) (by omega), bsl_app]
          exact ih
theorem sDigits_ok (n : Int) (h0 : -9223372036854775808 ≤ n) (h1 : n ≤ 9223372036854775807) : spec_Digits w n = some (digits n) := by
  apply spec_Digits_of
  simp only [spec_Digits_raw]
  by_cases hz : n = 0
  · subst hz; simp only [decide_true, cond_true, digits, Go.Lib.itoa, if_neg (show ¬ (0 : Int) < 0 by omega), Int.toNat_zero, Go.Lib.decDigits_one (show 0 < 10 by omega)]; rfl
  · have e := sDigits_loop (decide (n < 0)) 20 n.natAbs n [] (by omega) (by omega) (by omega) (by omega) (by simp)
    have e' : spec_Digits_k0 wl (n, decide (n < 0), (⟨#[]⟩ : ByteArray)) = some (decide (n < 0), bsl (digL n.natAbs)) := by rw [List.append_nil] at e; exact e
    simp only [df hz, cond_false, e', Option.bind_some]
    have hd : digL n.natAbs = Go.Lib.decDigits n.natAbs := by unfold digL; rw [if_neg (by omega)]
    have hlen : (Go.Lib.decDigits n.natAbs).length ≤ 1000 := by
      rw [Go.Lib.decDigits_length]
      have := Go.Lib.nDigits_le20 n.natAbs (by omega)
      omega
    by_cases hn : n < 0
    · rw [dt hn, hd]
      simp only [cond_true]
      rw [fits_of (by rw [bsl_size]; show (1 + _) * 1 ≤ _; omega)]
      simp only [cond_true, digits, Go.Lib.itoa, if_pos hn]
      exact congrArg some (bsl_app [45] _)
    · rw [df hn, hd]
      simp only [cond_false, digits, Go.Lib.itoa, if_neg hn, show n.toNat = n.natAbs by omega]
end Go.Proofs.YtameehmkoglkeaaDoor.M

namespace Go.Proofs.YtameehmkoglkeaaDoor.M
open Go Go.Eng Go.Proofs
set_option linter.unusedVariables false
/-! A text in parts. -/
def splitL (c : UInt8) : List UInt8 → List (List UInt8)
  | [] => [[]]
  | x :: l => bif x == c then [] :: splitL c l else (match splitL c l with
    | [] => [[x]]
    | h :: t => (x :: h) :: t)
def preL (p : List UInt8) : List (List UInt8) → List (List UInt8)
  | [] => [p]
  | h :: t => (p ++ h) :: t
theorem splitL_ne (c : UInt8) : (l : List UInt8) → splitL c l ≠ []
  | [] => by simp [splitL]
  | x :: l => by
    unfold splitL
    cases x == c
    · simp only [cond_false]
      cases splitL c l <;> simp
    · simp
theorem preL_snoc (p : List UInt8) (x : UInt8) (c : UInt8) (l : List UInt8) (h : (x == c) = false) : preL p (splitL c (x :: l)) = preL (p ++ [x]) (splitL c l) := by
  rw [splitL, h, cond_false]
  have := splitL_ne c l
  cases hs : splitL c l with
  | nil => exact absurd hs this
  | cons a t => simp [preL]
theorem splitL_len (c : UInt8) : (l : List UInt8) → (splitL c l).length = l.count c + 1
  | [] => rfl
  | x :: l => by
    have ih := splitL_len c l
    rw [splitL, List.count_cons]
    cases h : x == c
    · simp only [cond_false]
      cases hs : splitL c l with
      | nil => exact absurd hs (splitL_ne c l)
      | cons a t => rw [hs] at ih; simpa using ih
    · simp only [cond_true, List.length_cons, ih, if_true]
theorem ofB_get (s : ByteArray) (i : Nat) (h : i < s.size) : (ofBytes s).getD i 0 = (((s.data.toList[i]'(by simpa using h)).toNat : Nat) : Int) := by
  simp [ofBytes, h]
theorem sParts_loop (s : ByteArray) (c : UInt8) (hs : s.size ≤ 1099511627776) : (m i from' : Nat) → (out : List ByteArray) → i + m = s.size → from' ≤ i → out.length ≤ from' → spec_Parts_k0 wl (s, ((c.toNat : Nat) : Int), (from' : Int), (i : Int), out) = some (out ++ (preL ((s.data.toList.drop from').take (i - from')) (splitL c (s.data.toList.drop i))).map bsl)
  | 0, i, from', out, hm, hf, ho => by
    have hi : i = s.size := by omega
    subst hi
    apply spec_Parts_l0_of
    have e1 : spec_Parts_k0 wl (s, ((c.toNat : Nat) : Int), ((s.size + 1 : Nat) : Int), ((s.size + 1 : Nat) : Int), out ++ [bsl ((s.data.toList.drop from').take (s.size - from'))]) = some (out ++ [bsl ((s.data.toList.drop from').take (s.size - from'))]) := by
      apply spec_Parts_l0_of
      simp only [spec_Parts_l0, df (show ¬ (((s.size + 1 : Nat) : Int) ≤ (s.size : Int)) by omega), cond_false]
    have ex : ByteArray.extract s from' s.size = bsl ((s.data.toList.drop from').take (s.size - from')) := by
      rw [← Go.Lib.extract_data, bsl_data]
    simp only [spec_Parts_l0, dt (show ((s.size : Nat) : Int) ≤ (s.size : Int) by omega), cond_true, decide_true, dt (show (0 : Int) ≤ (from' : Int) ∧ (from' : Int) ≤ (s.size : Int) ∧ (s.size : Int) ≤ (s.size : Int) by omega), Int.toNat_natCast, w64 (n := (s.size : Int) + 1) (by omega) (by omega)]
    rw [fits_of (by simp; omega), cond_true, ex, show (s.size : Int) + 1 = ((s.size + 1 : Nat) : Int) by omega, e1]
    have hd : s.data.toList.drop s.size = [] := List.drop_eq_nil_of_le (by simp)
    rw [hd]
    simp [splitL, preL]
  | m + 1, i, from', out, hm, hf, ho => by
    have hi : i < s.size := by omega
    have hil : i < s.data.toList.length := by simpa using hi
    apply spec_Parts_l0_of
    have ex : ByteArray.extract s from' i = bsl ((s.data.toList.drop from').take (i - from')) := by
      rw [← Go.Lib.extract_data, bsl_data]
    simp only [spec_Parts_l0, dt (show (i : Int) ≤ (s.size : Int) by omega), cond_true, df (show ¬ (i : Int) = (s.size : Int) by omega), cond_false, inb_of hi, Int.toNat_natCast, ofB_get s i hi, dt (show (0 : Int) ≤ (from' : Int) ∧ (from' : Int) ≤ (i : Int) ∧ (i : Int) ≤ (s.size : Int) by omega), w64 (n := (i : Int) + 1) (by omega) (by omega)]
    rw [List.drop_eq_getElem_cons hil]
    by_cases hc : s.data.toList[i] = c
    · have ih := sParts_loop s c hs m (i + 1) (i + 1) (out ++ [bsl ((s.data.toList.drop from').take (i - from'))]) (by omega) (Nat.le_refl _) (by simp; omega)
      rw [dt (show (((s.data.toList[i]).toNat : Nat) : Int) = ((c.toNat : Nat) : Int) by rw [hc])]
      rw [cond_true, fits_of (by simp; omega), cond_true, ex, show (i : Int) + 1 = ((i + 1 : Nat) : Int) by omega, ih]
      rw [splitL, show (s.data.toList[i] == c) = true by rw [hc]; simp]
      cases hsp : splitL c (s.data.toList.drop (i + 1)) with
      | nil => exact absurd hsp (splitL_ne _ _)
      | cons a t => simp [preL]
    · have ih := sParts_loop s c hs m (i + 1) from' out (by omega) (by omega) ho
      rw [df (show ¬ (((s.data.toList[i]).toNat : Nat) : Int) = ((c.toNat : Nat) : Int) by
        intro h; apply hc; have h' : (s.data.toList[i]).toNat = c.toNat := by omega
        exact UInt8.toNat_inj.1 h')]
      rw [cond_false, show (i : Int) + 1 = ((i + 1 : Nat) : Int) by omega, ih, preL_snoc _ _ _ _ (by simpa using hc)]
      rw [show i + 1 - from' = (i - from') + 1 by omega, List.take_succ_eq_append_getElem (by simp; omega)]
      simp [show from' + (i - from') = i by omega]
theorem sParts_ok (s : ByteArray) (c : UInt8) (hs : s.size ≤ 1099511627776) : spec_Parts w (s, ((c.toNat : Nat) : Int)) = some ((splitL c s.data.toList).map bsl) := by
  apply spec_Parts_of
  have e := sParts_loop s c hs s.size 0 0 [] (by omega) (Nat.le_refl _) (by simp)
  simp only [Int.natCast_zero] at e
  simp only [spec_Parts_raw, e, Option.bind_some]
  cases hsp : splitL c s.data.toList with
  | nil => exact absurd hsp (splitL_ne _ _)
  | cons a t => simp [preL, hsp]
end Go.Proofs.YtameehmkoglkeaaDoor.M

namespace Go.Proofs.YtameehmkoglkeaaDoor.M
open Go Go.Eng Go.Proofs
set_option linter.unusedVariables false
/-! Deeds as text. -/
theorem ixb_mem (c : UInt8) : (l : List UInt8) → (0 ≤ Go.Lib.indexByte l c ↔ c ∈ l)
  | [] => by simp [Go.Lib.indexByte]
  | x :: l => by
    have ih := ixb_mem c l
    have hg := Go.Lib.indexByte_ge l c
    rw [Go.Lib.indexByte]
    by_cases h : x = c
    · subst h; simp
    · rw [if_neg (by simpa using h)]
      by_cases h1 : Go.Lib.indexByte l c = -1
      · rw [h1] at ih ⊢
        have : c ∉ l := fun hm => by have := ih.2 hm; omega
        simp [this, Ne.symm h]
      · rw [if_neg (by simpa using h1)]
        have hm : c ∈ l := ih.1 (by omega)
        simp [hm]; omega
theorem Contains1_ok (s : ByteArray) (c : UInt8) : strings_Contains w (s, bsl [c]) = some (decide (c ∈ s.data.toList)) := by
  apply strings_Contains_of
  simp only [strings_Contains_raw, containsX, dt (show (bsl [c]).size = 1 from bsl_size _), cond_true]
  have e : (bsl [c]).data.getD 0 0 = c := rfl
  rw [e]
  exact congrArg some (by rw [decide_eq_decide]; exact ixb_mem c _)
theorem parts_one (s : ByteArray) (c : UInt8) : decide ((1 : Int) < (((splitL c s.data.toList).map bsl).length : Int)) = decide (c ∈ s.data.toList) := by
  rw [decide_eq_decide, List.length_map, splitL_len, ← List.count_pos_iff]
  omega
theorem Join_ok (xs : List ByteArray) (sep : ByteArray) (h1 : xs.length ≤ 140737488355328) (h2 : (Go.Lib.join (xs.map (·.data.toList)) sep.data.toList).length ≤ 140737488355328) : strings_Join w (xs, sep) = some (bsl (Go.Lib.join (xs.map (·.data.toList)) sep.data.toList)) := by
  apply strings_Join_of
  simp only [strings_Join_raw, joinX, dt (show xs.length ≤ 140737488355328 ∧ (Go.Lib.join (xs.map (·.data.toList)) sep.data.toList).length ≤ 140737488355328 from ⟨h1, h2⟩), cond_true]; rfl
theorem itoa_len (n : Int) (h0 : -9223372036854775808 ≤ n) (h1 : n ≤ 9223372036854775807) : (Go.Lib.itoa n).length ≤ 21 := Go.Lib.itoa_length_le n h0 h1
def deedText (k a b c : Int) (t : ByteArray) : ByteArray := bif inR k 0 7 && (!decide (8 < (t.size : Int)) && (!decide ((10 : UInt8) ∈ t.data.toList) && (inR a 0 999999 && (inR b 0 999999 && inR c 0 999999)))) then bsl (Go.Lib.itoa k ++ ([32] ++ (Go.Lib.itoa a ++ ([32] ++ (Go.Lib.itoa b ++ ([32] ++ (Go.Lib.itoa c ++ ([32] ++ t.data.toList)))))))) else ⟨#[]⟩
theorem inR_i64 {n lo hi : Int} (h : inR n lo hi = true) (h0 : 0 ≤ lo) (h1 : hi ≤ 1000000) : -9223372036854775808 ≤ n ∧ n ≤ 9223372036854775807 := by
  simp only [inR, Bool.and_eq_true, decide_eq_true_eq] at h
  omega
theorem DeedText_ok (k a b c : Int) (t : ByteArray) : impl_DeedText w (k, a, b, c, t) = some (deedText k a b c t) := by
  apply impl_DeedText_of
  have hb : (⟨#[10]⟩ : ByteArray) = bsl [10] := rfl
  simp only [impl_DeedText_raw, within_ok, Option.bind_some, deedText]
  cases hk : inR k 0 7
  · rfl
  by_cases h8 : (8 : Int) < (t.size : Int)
  · simp only [dt h8]; rfl
  simp only [df h8, Bool.not_true, cond_false, hb, Contains1_ok, Option.bind_some]
  cases hn : decide ((10 : UInt8) ∈ t.data.toList)
  · have hkr := inR_i64 hk (by omega) (by omega)
    simp only [cond_false, Digits_ok k hkr.1 hkr.2, Option.bind_some, Bool.not_false, Bool.true_and]
    have L3 : ∀ o : List ByteArray, o.length ≤ 10 → impl_DeedText_k0 wl (3, 3, k, a, b, c, t, o, [a, b, c]) = some (Sum.inr (k, a, b, c, t, o)) := fun o ho => by
      apply impl_DeedText_l0_of
      simp only [impl_DeedText_l0, df (show ¬ (3 : Int) < 3 by omega), cond_false]
    have S : ∀ (i : Nat) (x : Int) (o : List ByteArray) (r : ByteArray ⊕ (Int × Int × Int × Int × ByteArray × List ByteArray)), i < 3 → rd1 (0 : Int) [a, b, c] (i : Int) = x → o.length ≤ 5 → (inR x 0 999999 = true → impl_DeedText_k0 wl (3, ((i + 1 : Nat) : Int), k, a, b, c, t, o ++ [digits x], [a, b, c]) = some r) → (inR x 0 999999 = false → r = Sum.inl ⟨#[]⟩) → impl_DeedText_k0 wl (3, (i : Int), k, a, b, c, t, o, [a, b, c]) = some r := fun i x o r hi hx ho h1 h2 => by
      apply impl_DeedText_l0_of
      simp only [impl_DeedText_l0, dt (show (i : Int) < 3 by omega), cond_true, inb_of (show i < [a, b, c].length by simpa using hi), hx, within_ok, Option.bind_some, w64 (n := (i : Int) + 1) (by omega) (by omega)]
      cases hxr : inR x 0 999999
      · rw [h2 hxr]; rfl
      · have hr := inR_i64 hxr (by omega) (by omega)
        simp only [Bool.not_true, cond_false, Digits_ok x hr.1 hr.2, Option.bind_some]
        rw [fits_of (by simp; omega), cond_true]
        exact h1 hxr
    have hlen : ((List.length [a, b, c] : Nat) : Int) = 3 := rfl
    have main : impl_DeedText_k0 wl (3, 0, k, a, b, c, t, [digits k], [a, b, c]) = some (bif inR a 0 999999 && (inR b 0 999999 && inR c 0 999999) then Sum.inr (k, a, b, c, t, [digits k, digits a, digits b, digits c]) else Sum.inl ⟨#[]⟩) := by
      refine S 0 a [digits k] _ (by omega) rfl (by simp) (fun ha => ?_) (fun ha => by rw [ha]; rfl)
      refine S 1 b _ _ (by omega) rfl (by simp) (fun hb' => ?_) (fun hb' => by rw [ha, hb']; rfl)
      refine S 2 c _ _ (by omega) rfl (by simp) (fun hc => ?_) (fun hc => by rw [ha, hb', hc]; rfl)
      rw [ha, hb', hc]
      exact L3 _ (by simp)
    rw [hlen, main]
    simp only [Option.bind_some]
    cases hall : (inR a 0 999999 && (inR b 0 999999 && inR c 0 999999))
    · rfl
    · simp only [Bool.and_eq_true] at hall
      have ra := inR_i64 hall.1 (by omega) (by omega)
      have rb := inR_i64 hall.2.1 (by omega) (by omega)
      have rc := inR_i64 hall.2.2 (by omega) (by omega)
      have l0 := itoa_len k hkr.1 hkr.2
      have l1 := itoa_len a ra.1 ra.2
      have l2 := itoa_len b rb.1 rb.2
      have l3 := itoa_len c rc.1 rc.2
      have lt : t.data.toList.length ≤ 8 := by rw [← Go.Lib.size_eq]; omega
      have ej : Go.Lib.join ([digits k, digits a, digits b, digits c, t].map (·.data.toList)) ((⟨#[32]⟩ : ByteArray).data.toList) = Go.Lib.itoa k ++ ([32] ++ (Go.Lib.itoa a ++ ([32] ++ (Go.Lib.itoa b ++ ([32] ++ (Go.Lib.itoa c ++ ([32] ++ t.data.toList))))))) := by
        simp [Go.Lib.join_cons, Go.Lib.joinTail, digits, bsl]
      have hj := Join_ok [digits k, digits a, digits b, digits c, t] (⟨#[32]⟩ : ByteArray) (by simp) (by rw [ej]; simp only [List.length_append, List.length_cons, List.length_nil]; omega)
      rw [ej] at hj
      simp only [cond_true, elimS, Sum.elim_inr]
      rw [fits_of (by simp), cond_true]
      exact (congrArg (fun z => Option.bind z _) hj).trans rfl
  · rfl
theorem sDeedText_ok (k a b c : Int) (t : ByteArray) (ht : t.size ≤ 1099511627776) : spec_DeedText w (k, a, b, c, t) = some (deedText k a b c t) := by
  apply spec_DeedText_of
  have hp : spec_Parts w (t, 10) = some ((splitL 10 t.data.toList).map bsl) := sParts_ok t 10 ht
  simp only [spec_DeedText_raw, l1In_ok, Option.bind_some, deedText, hp, parts_one]
  cases hk : inR k 0 7
  · rfl
  cases ha : inR a 0 999999
  · simp only [Bool.and_false, Bool.false_and, cond_false, Bool.not_true, Bool.not_false, cond_true]
  cases hb : inR b 0 999999
  · simp only [Bool.and_false, Bool.false_and, cond_false, Bool.not_true, Bool.not_false, cond_true]
  cases hc : inR c 0 999999
  · simp only [Bool.and_false, Bool.false_and, cond_false, Bool.not_true, Bool.not_false, cond_true]
  by_cases h8 : (8 : Int) < (t.size : Int)
  · simp only [dt h8]; rfl
  cases hn : decide ((10 : UInt8) ∈ t.data.toList)
  · have rk := inR_i64 hk (by omega) (by omega)
    have ra := inR_i64 ha (by omega) (by omega)
    have rb := inR_i64 hb (by omega) (by omega)
    have rc := inR_i64 hc (by omega) (by omega)
    have l0 := itoa_len k rk.1 rk.2
    have l1 := itoa_len a ra.1 ra.2
    have l2 := itoa_len b rb.1 rb.2
    have l3 := itoa_len c rc.1 rc.2
    have lt : t.data.toList.length ≤ 8 := by rw [← Go.Lib.size_eq]; omega
    have et : t = bsl t.data.toList := (bsl_data t).symm
    simp only [df h8, Bool.not_true, Bool.not_false, cond_false, cond_true, Bool.true_and, Bool.and_true, sDigits_ok k rk.1 rk.2, sDigits_ok a ra.1 ra.2, sDigits_ok b rb.1 rb.2, sDigits_ok c rc.1 rc.2, Option.bind_some, digits]
    rw [show (⟨#[32]⟩ : ByteArray) = bsl [32] from rfl]
    generalize t.data.toList = tl at et lt
    subst et
    simp only [bsl_app, bsl_size]
    have F : ∀ n : Nat, n ≤ 1000 → fits n 1 = true := fun n h => fits_of (by omega)
    rw [F, F, F, F, F, F, F, F]
    · simp only [cond_true, List.append_assoc]
    all_goals (simp only [List.length_append, List.length_cons, List.length_nil]; omega)
  · simp only [df h8]; rfl
end Go.Proofs.YtameehmkoglkeaaDoor.M

namespace Go.Proofs.YtameehmkoglkeaaDoor.M
open Go Go.Eng Go.Proofs
set_option linter.unusedVariables false
/-! A list of deeds as text. -/
def deedT (d : XEntry) : ByteArray := deedText d.1 d.2.1 d.2.2.1 d.2.2.2.1 d.2.2.2.2
theorem deedT_size (d : XEntry) : (deedT d).size ≤ 100 := by
  unfold deedT deedText
  cases h : (inR d.1 0 7 && (!decide (8 < (d.2.2.2.2.size : Int)) && (!decide ((10 : UInt8) ∈ d.2.2.2.2.data.toList) && (inR d.2.1 0 999999 && (inR d.2.2.1 0 999999 && inR d.2.2.2.1 0 999999)))))
  · simp [ByteArray.size]
  · simp only [Bool.and_eq_true, Bool.not_eq_true', decide_eq_false_iff_not] at h
    obtain ⟨h1, h2, _, h4, h5, h6⟩ := h
    have r1 := inR_i64 h1 (by omega) (by omega)
    have r4 := inR_i64 h4 (by omega) (by omega)
    have r5 := inR_i64 h5 (by omega) (by omega)
    have r6 := inR_i64 h6 (by omega) (by omega)
    have l1 := itoa_len _ r1.1 r1.2
    have l4 := itoa_len _ r4.1 r4.2
    have l5 := itoa_len _ r5.1 r5.2
    have l6 := itoa_len _ r6.1 r6.2
    have lt : d.2.2.2.2.data.toList.length ≤ 8 := by rw [← Go.Lib.size_eq]; omega
    simp only [cond_true, bsl_size, List.length_append, List.length_cons, List.length_nil]
    omega
def deedsL : List XEntry → ByteArray → ByteArray ⊕ ByteArray
  | [], acc => .inr acc
  | d :: l, acc => bif beqS (deedT d) ⟨#[]⟩ then .inl ⟨#[]⟩ else deedsL l (acc ++ (deedT d ++ ⟨#[10]⟩))
def deedsText (l : List XEntry) : ByteArray := match deedsL l ⟨#[]⟩ with
  | .inl t => t
  | .inr t => t
theorem size10 : (⟨#[10]⟩ : ByteArray).size = 1 := rfl
end Go.Proofs.YtameehmkoglkeaaDoor.M

namespace Go.Proofs.YtameehmkoglkeaaDoor.M
open Go Go.Eng Go.Proofs
set_option linter.unusedVariables false
/-! A text that is cut at so many places. -/
def joinC (c : UInt8) : List (List UInt8) → List UInt8
  | [] => []
  | [x] => x
  | x :: y :: r => x ++ c :: joinC c (y :: r)
theorem joinC_split (c : UInt8) : (l : List UInt8) → joinC c (splitL c l) = l
  | [] => rfl
  | x :: l => by
    have ih := joinC_split c l
    rw [splitL]
    cases h : x == c
    · simp only [cond_false]
      cases hs : splitL c l with
      | nil => exact absurd hs (splitL_ne c l)
      | cons a t =>
        rw [hs] at ih
        cases t with
        | nil => simp only [joinC] at ih ⊢; rw [ih]
        | cons b r => simp only [joinC] at ih ⊢; rw [List.cons_append, ih]
    · have hx : x = c := by simpa using h
      simp only [cond_true]
      cases hs : splitL c l with
      | nil => exact absurd hs (splitL_ne c l)
      | cons a t => rw [hs] at ih; simp only [joinC, List.nil_append, ih, hx]
theorem ix_cons (c b : UInt8) (l : List UInt8) : Lib.index (b :: l) [c] = if b = c then 0 else if Lib.index l [c] = -1 then -1 else Lib.index l [c] + 1 := by
  rw [Lib.index]
  by_cases h : b = c
  · subst h; simp [List.isPrefixOf]
  · have : ([c] : List UInt8).isPrefixOf (b :: l) = false := by simp [List.isPrefixOf, Ne.symm h]
    rw [this, if_neg h]
    simp
theorem split_none (c : UInt8) : (l : List UInt8) → Lib.index l [c] = -1 → splitL c l = [l]
  | [], _ => rfl
  | b :: l, h => by
    rw [ix_cons] at h
    by_cases hb : b = c
    · rw [if_pos hb] at h; omega
    · rw [if_neg hb] at h
      by_cases hm : Lib.index l [c] = -1
      · rw [splitL, split_none c l hm, show (b == c) = false by simpa using hb]; rfl
      · rw [if_neg hm] at h
        have := Lib.index_ge l [c]
        omega
theorem split_at (c : UInt8) : (l : List UInt8) → (i : Nat) → Lib.index l [c] = i → splitL c l = l.take i :: splitL c (l.drop (i + 1))
  | [], i, h => by simp [Lib.index] at h
  | b :: l, i, h => by
    rw [ix_cons] at h
    by_cases hb : b = c
    · rw [if_pos hb] at h
      have : i = 0 := by omega
      subst this
      rw [splitL, show (b == c) = true by simpa using hb]; rfl
    · rw [if_neg hb] at h
      by_cases hm : Lib.index l [c] = -1
      · rw [if_pos hm] at h; omega
      · rw [if_neg hm] at h
        have hg := Lib.index_ge l [c]
        obtain ⟨j, hj⟩ : ∃ j : Nat, Lib.index l [c] = j := ⟨(Lib.index l [c]).toNat, by omega⟩
        have hi : i = j + 1 := by omega
        subst hi
        rw [splitL, split_at c l j hj, show (b == c) = false by simpa using hb]
        rfl
theorem splitK_eq (c : UInt8) : (k : Nat) → (l : List UInt8) → Lib.splitK [c] 0 k l = if (splitL c l).length ≤ k then splitL c l else (splitL c l).take k ++ [joinC c ((splitL c l).drop k)]
  | 0, l => by
    have h := splitL_len c l
    rw [Lib.splitK, if_neg (by omega), List.take_zero, List.drop_zero, joinC_split]; rfl
  | k + 1, l => by
    rw [Lib.splitK]
    by_cases hm : Lib.index l [c] = -1
    · rw [if_pos (beq_iff_eq.2 hm), split_none c l hm, if_pos (by simp)]
    · have hg := Lib.index_ge l [c]
      obtain ⟨i, hi⟩ : ∃ i : Nat, Lib.index l [c] = i := ⟨(Lib.index l [c]).toNat, by omega⟩
      rw [if_neg (fun e => hm (beq_iff_eq.1 e)), hi, split_at c l i hi, Int.toNat_natCast, Nat.add_zero, List.length_singleton, splitK_eq c k]
      simp only [List.length_cons, Nat.add_le_add_iff_right, List.take_succ_cons, List.drop_succ_cons, List.cons_append]
      split <;> rfl
/-! Digits that are read. -/
def rdD : Nat → List UInt8 → Option Nat
  | acc, [] => some acc
  | acc, b :: r => bif decide (48 ≤ b.toNat) && decide (b.toNat ≤ 57) then rdD (acc * 10 + (b.toNat - 48)) r else none
theorem rdD_app : (l : List UInt8) → (acc v : Nat) → (m : List UInt8) → rdD acc l = some v → rdD acc (l ++ m) = rdD v m
  | [], acc, v, m, h => by simp only [rdD, Option.some.injEq] at h; subst h; rfl
  | b :: l, acc, v, m, h => by
    rw [List.cons_append, rdD]
    rw [rdD] at h
    cases hb : decide (48 ≤ b.toNat) && decide (b.toNat ≤ 57)
    · rw [hb] at h; cases h
    · rw [hb] at h; exact rdD_app l _ v m h
theorem dig_nat (d : Nat) (h : d < 10) : (UInt8.ofNat (48 + d)).toNat = 48 + d := by
  rw [UInt8.toNat_ofNat']; omega
theorem rdD_one (acc d : Nat) (h : d < 10) : rdD acc [UInt8.ofNat (48 + d)] = some (acc * 10 + d) := by
  have e := dig_nat d h
  rw [rdD, e, decide_eq_true (by omega), decide_eq_true (by omega)]
  simp only [Bool.and_true, cond_true, rdD, Option.some.injEq]
  omega
theorem rdD_dec (u : Nat) : rdD 0 (Lib.decDigits u) = some u := by
  induction u using Nat.strongRecOn with
  | ind u ih =>
    by_cases h : u < 10
    · rw [Lib.decDigits, dif_pos h, rdD_one 0 u h]; simp
    · rw [Lib.decDigits, dif_neg h, rdD_app _ 0 (u / 10) _ (ih (u / 10) (by omega)), rdD_one _ _ (by omega)]
      congr 1; omega
theorem rdD_le : (l : List UInt8) → (acc v : Nat) → rdD acc l = some v → acc ≤ v
  | [], acc, v, h => by simp only [rdD, Option.some.injEq] at h; omega
  | b :: r, acc, v, h => by
    rw [rdD] at h
    cases hb : decide (48 ≤ b.toNat) && decide (b.toNat ≤ 57)
    · rw [hb] at h; cases h
    · rw [hb] at h; have := rdD_le r _ v h; omega
theorem parse_rd : (l : List UInt8) → (acc v : Nat) → rdD acc l = some v → v < 1000000 → Lib.parseUint10 acc l = .ok v
  | [], acc, v, h, _ => by simp only [rdD, Option.some.injEq] at h; subst h; rfl
  | b :: r, acc, v, h, hv => by
    rw [rdD] at h
    cases hb : decide (48 ≤ b.toNat) && decide (b.toNat ≤ 57)
    · rw [hb] at h; cases h
    · rw [hb, cond_true] at h
      simp only [Bool.and_eq_true, decide_eq_true_eq] at hb
      have hle : acc * 10 + (b.toNat - 48) ≤ v := rdD_le _ _ _ h
      rw [Lib.parseUint10, if_pos hb, if_neg (by omega), if_neg (by omega)]
      exact parse_rd r _ v h hv
theorem dec_head (u : Nat) : ∃ b r, Lib.decDigits u = b :: r ∧ 48 ≤ b.toNat ∧ b.toNat ≤ 57 := by
  have h := rdD_dec u
  cases hd : Lib.decDigits u with
  | nil => have := Lib.decDigits_length u; have := Lib.nDigits_pos u; rw [hd] at *; simp at *; omega
  | cons b r =>
    rw [hd, rdD] at h
    cases hb : decide (48 ≤ b.toNat) && decide (b.toNat ≤ 57)
    · rw [hb] at h; cases h
    · simp only [Bool.and_eq_true, decide_eq_true_eq] at hb; exact ⟨b, r, rfl, hb⟩
theorem atoi_dec (u : Nat) (h : u < 1000000) : Lib.atoiAll (Lib.decDigits u) = .ok (u : Int) := by
  obtain ⟨b, r, hd, h1, h2⟩ := dec_head u
  have hp : Lib.parseMag (b :: r) = .ok u := by
    unfold Lib.parseMag
    rw [if_neg (by simp), ← hd]
    exact parse_rd _ 0 u (rdD_dec u) h
  rw [hd]
  unfold Lib.atoiAll
  simp only
  rw [if_neg (by omega), hp]
  simp only
  rw [if_neg (by omega), if_neg (by omega), if_neg (by omega)]
end Go.Proofs.YtameehmkoglkeaaDoor.M

namespace Go.Proofs.YtameehmkoglkeaaDoor.M
open Go Go.Eng Go.Proofs
set_option linter.unusedVariables false
/-! Numbers that are written just so. -/
def numL (s : ByteArray) : Int × Bool := numA (Go.Lib.atoiAll s.data.toList) s
theorem Number_ok (s : ByteArray) (h : s.size ≤ 1099511627776) : impl_Number w s = some (numL s) := by
  apply impl_Number_of
  simp only [impl_Number_raw, numberX, dt h, cond_true, numL]
def numR (s : ByteArray) : Int × Bool := match rdD 0 s.data.toList with
  | some v => bif decide (1 ≤ s.size ∧ s.size ≤ 6) && beqS (digits (v : Int)) s then ((v : Int), true) else (0, false)
  | none => (0, false)
theorem numR_out (s : ByteArray) (h : ¬ (1 ≤ s.size ∧ s.size ≤ 6)) : numR s = (0, false) := by
  unfold numR
  cases rdD 0 s.data.toList with
  | none => rfl
  | some v => simp only [df h, Bool.false_and, cond_false]
theorem nd_le : (k u : Nat) → u < 10 ^ (k + 1) → Lib.nDigits u ≤ k + 1
  | 0, u, h => by rw [Lib.nDigits_small (by omega)]; omega
  | k + 1, u, h => by
    by_cases h10 : u < 10
    · rw [Lib.nDigits_small h10]; omega
    · rw [Lib.nDigits_big h10]
      have := nd_le k (u / 10) (by rw [Nat.pow_succ] at h; omega)
      omega
theorem itoa_nat (u : Nat) : Go.Lib.itoa (u : Int) = Go.Lib.decDigits u := by
  unfold Go.Lib.itoa
  rw [if_neg (by omega), Int.toNat_natCast]
theorem size_list (s : ByteArray) : s.size = s.data.toList.length := by rw [Array.length_toList]; rfl
theorem digits_of {s : ByteArray} {u : Nat} (h : s.data.toList = Lib.decDigits u) : digits (u : Int) = s := by
  unfold digits
  rw [itoa_nat, ← h, bsl_data]
theorem of_digits {s : ByteArray} {u : Nat} (h : digits (u : Int) = s) : s.data.toList = Lib.decDigits u := by
  rw [← h, digits, itoa_nat]; simp [bsl]
theorem numL_eq (s : ByteArray) : numL s = numR s := by
  by_cases h : ∃ u : Nat, u < 1000000 ∧ s.data.toList = Lib.decDigits u
  · obtain ⟨u, hu, hs⟩ := h
    have hd := digits_of hs
    have hsz : s.size = Lib.nDigits u := by rw [size_list, hs, Lib.decDigits_length]
    have h1 := Lib.nDigits_pos u
    have h2 := nd_le 5 u (by omega)
    have e1 : numL s = ((u : Int), true) := by
      unfold numL
      rw [hs, atoi_dec u hu]
      have hb : beqS (⟨(Go.Lib.itoa (u : Int)).toArray⟩ : ByteArray) s = true := by rw [beqS_eq]; exact decide_eq_true hd
      simp only [numA, dt (show 0 ≤ (u : Int) ∧ (u : Int) ≤ 999999 by omega), Bool.true_and, hb, cond_true]
    have e2 : numR s = ((u : Int), true) := by
      unfold numR
      rw [hs, rdD_dec]
      have hb : beqS (digits (u : Int)) s = true := by rw [beqS_eq]; exact decide_eq_true hd
      simp only [dt (show 1 ≤ s.size ∧ s.size ≤ 6 by omega), Bool.true_and, hb, cond_true]
    rw [e1, e2]
  · have e1 : numL s = (0, false) := by
      unfold numL
      cases ha : Go.Lib.atoiAll s.data.toList with
      | ok n =>
        by_cases hc : 0 ≤ n ∧ n ≤ 999999
        · by_cases hb : (⟨(Go.Lib.itoa n).toArray⟩ : ByteArray) = s
          · exfalso
            apply h
            obtain ⟨u, rfl⟩ : ∃ u : Nat, n = u := ⟨n.toNat, by omega⟩
            exact ⟨u, by omega, of_digits hb⟩
          · have : beqS (⟨(Go.Lib.itoa n).toArray⟩ : ByteArray) s = false := by rw [beqS_eq]; exact decide_eq_false hb
            simp only [numA, this, Bool.and_false, cond_false]
        · simp only [numA, df hc, Bool.false_and, cond_false]
      | _ => rfl
    have e2 : numR s = (0, false) := by
      unfold numR
      cases hr : rdD 0 s.data.toList with
      | none => rfl
      | some v =>
        by_cases hc : 1 ≤ s.size ∧ s.size ≤ 6
        · by_cases hb : digits (v : Int) = s
          · exfalso
            apply h
            have hl := of_digits hb
            refine ⟨v, ?_, hl⟩
            have h1 := Lib.lt_pow_nDigits v
            have h2 : Lib.nDigits v ≤ 6 := by rw [← Lib.decDigits_length, ← hl, ← size_list]; exact hc.2
            exact Nat.lt_of_lt_of_le h1 (Nat.le_trans (Nat.pow_le_pow_right (by omega) h2) (by omega))
          · have : beqS (digits (v : Int)) s = false := by rw [beqS_eq]; exact decide_eq_false hb
            simp only [this, Bool.and_false, cond_false]
        · simp only [df hc, Bool.false_and, cond_false]
    rw [e1, e2]
def numE (s : ByteArray) : Option Nat → (Int × Bool) ⊕ (ByteArray × Int)
  | some v => .inr (s, (v : Int))
  | none => .inl (0, false)
theorem sNum_loop (s : ByteArray) (hs : s.size ≤ 6) : (m i acc : Nat) → i + m = s.size → acc < 10 ^ i → spec_Number_k0 wl (s, (acc : Int), (i : Int)) = some (numE s (rdD acc (s.data.toList.drop i)))
  | 0, i, acc, hm, ha => by
    have hi : i = s.size := by omega
    subst hi
    apply spec_Number_l0_of
    rw [List.drop_eq_nil_of_le (by simp)]
    simp only [spec_Number_l0, ilt_self, cond_false, rdD, numE]
  | m + 1, i, acc, hm, ha => by
    have hi : i < s.size := by omega
    have hil : i < s.data.toList.length := by simpa using hi
    have hb : (s.data.toList[i]).toNat < 256 := UInt8.toNat_lt _
    have hp : acc < 1000000 := Nat.lt_of_lt_of_le ha (Nat.le_trans (Nat.pow_le_pow_right (by omega) (show i ≤ 6 by omega)) (by omega))
    apply spec_Number_l0_of
    rw [List.drop_eq_getElem_cons hil, rdD]
    simp only [spec_Number_l0, ilt hi, cond_true, inb_of hi, Int.toNat_natCast, ofB_get s i hi]
    by_cases h1 : 48 ≤ (s.data.toList[i]).toNat
    · by_cases h2 : (s.data.toList[i]).toNat ≤ 57
      · have ih := sNum_loop s hs m (i + 1) (acc * 10 + ((s.data.toList[i]).toNat - 48)) (by omega) (by rw [Nat.pow_succ]; omega)
        rw [df (show ¬ (((s.data.toList[i]).toNat : Nat) : Int) < 48 by omega), cond_false, df (show ¬ (57 : Int) < (((s.data.toList[i]).toNat : Nat) : Int) by omega), cond_false, dt h1, dt h2]
        simp only [Bool.and_true, cond_true]
        rw [w64 (n := 10 * (acc : Int)) (by omega) (by omega), w64 (n := (((s.data.toList[i]).toNat : Nat) : Int)) (by omega) (by omega), w64 (n := 10 * (acc : Int) + (((s.data.toList[i]).toNat : Nat) : Int)) (by omega) (by omega), w64 (n := 10 * (acc : Int) + (((s.data.toList[i]).toNat : Nat) : Int) - 48) (by omega) (by omega), w64 (n := (i : Int) + 1) (by omega) (by omega)]
        rw [show 10 * (acc : Int) + (((s.data.toList[i]).toNat : Nat) : Int) - 48 = ((acc * 10 + ((s.data.toList[i]).toNat - 48) : Nat) : Int) by omega, show (i : Int) + 1 = ((i + 1 : Nat) : Int) by omega]
        exact ih
      · rw [df (show ¬ (((s.data.toList[i]).toNat : Nat) : Int) < 48 by omega), cond_false, dt (show (57 : Int) < (((s.data.toList[i]).toNat : Nat) : Int) by omega), cond_true, dt h1, df h2]
        rfl
    · rw [dt (show (((s.data.toList[i]).toNat : Nat) : Int) < 48 by omega), cond_true, df h1]
      rfl
theorem rdD_lt' : (l : List UInt8) → (acc v k : Nat) → rdD acc l = some v → acc < 10 ^ k → v < 10 ^ (k + l.length)
  | [], acc, v, k, h, ha => by simp only [rdD, Option.some.injEq] at h; subst h; simpa using ha
  | b :: r, acc, v, k, h, ha => by
    rw [rdD] at h
    cases hb : decide (48 ≤ b.toNat) && decide (b.toNat ≤ 57)
    · rw [hb] at h; cases h
    · rw [hb, cond_true] at h
      simp only [Bool.and_eq_true, decide_eq_true_eq] at hb
      have := rdD_lt' r _ v (k + 1) h (by rw [Nat.pow_succ]; omega)
      rw [List.length_cons, show k + (r.length + 1) = k + 1 + r.length by omega]; exact this
theorem rdD_lt (l : List UInt8) (v n : Nat) (h : rdD 0 l = some v) (hl : l.length ≤ 6) : v < 10000000000 :=
  Nat.lt_of_lt_of_le (rdD_lt' l 0 v 0 h (by omega)) (Nat.le_trans (Nat.pow_le_pow_right (by omega) (show 0 + l.length ≤ 10 by omega)) (by omega))
theorem sNumber_ok (s : ByteArray) : spec_Number w s = some (numL s) := by
  rw [numL_eq]
  apply spec_Number_of
  by_cases h1 : s.size < 1
  · rw [numR_out s (by omega)]
    simp only [spec_Number_raw, dt (show ((s.size : Nat) : Int) < 1 by omega), cond_true]
  · by_cases h2 : 6 < s.size
    · rw [numR_out s (by omega)]
      simp only [spec_Number_raw, df (show ¬ ((s.size : Nat) : Int) < 1 by omega), dt (show (6 : Int) < ((s.size : Nat) : Int) by omega), cond_true, cond_false]
    · have e := sNum_loop s (by omega) s.size 0 0 (by omega) (by omega)
      simp only [Int.natCast_zero, List.drop_zero] at e
      simp only [spec_Number_raw, df (show ¬ ((s.size : Nat) : Int) < 1 by omega), df (show ¬ (6 : Int) < ((s.size : Nat) : Int) by omega), cond_false, e, Option.bind_some, numR]
      cases hr : rdD 0 s.data.toList with
      | none => rfl
      | some v =>
        have hv : v < 10000000000 := rdD_lt _ _ 0 hr (by rw [← size_list]; omega)
        simp only [numE, elimS, Sum.elim_inr, sDigits_ok (v : Int) (by omega) (by omega), Option.bind_some, dt (show 1 ≤ s.size ∧ s.size ≤ 6 by omega), Bool.true_and]
        cases beqS (digits (v : Int)) s <;> rfl
end Go.Proofs.YtameehmkoglkeaaDoor.M

namespace Go.Proofs.YtameehmkoglkeaaDoor.M
open Go Go.Eng Go.Proofs
set_option linter.unusedVariables false
/-! A text cut at four blanks. -/
theorem splitB_map (c : UInt8) (k : Nat) (s : ByteArray) : Go.Lib.splitB ⟨#[c]⟩ 0 k s = (Go.Lib.splitK [c] 0 k s.data.toList).map bsl := by
  have h := Go.Lib.splitB_data ⟨#[c]⟩ 0 k s
  have h2 : (Go.Lib.splitB ⟨#[c]⟩ 0 k s).map (fun x => bsl x.data.toList) = (Go.Lib.splitB ⟨#[c]⟩ 0 k s) := by
    rw [show (fun x : ByteArray => bsl x.data.toList) = fun x => x from funext bsl_data, List.map_id']
  rw [← h2, ← h, List.map_map]
  rfl
theorem cut_few (c : UInt8) (k : Nat) (l : List UInt8) (h : (splitL c l).length ≤ k + 1) : Go.Lib.splitK [c] 0 k l = splitL c l := by
  rw [splitK_eq]
  split
  · rfl
  · have hk : (splitL c l).length = k + 1 := by omega
    have hd : (splitL c l).drop k = [(splitL c l)[k]] := by
      rw [List.drop_eq_getElem_cons (by omega), List.drop_eq_nil_of_le (by omega)]
    rw [hd, joinC, ← hd, List.take_append_drop]
def words (s : ByteArray) : List ByteArray := Go.Lib.splitB ⟨#[32]⟩ 0 (min 5 (s.size + 1) - 1) s
theorem SplitN_ok (s : ByteArray) (h : s.size ≤ 1099511627) : strings_SplitN w (s, (⟨#[32]⟩ : ByteArray), 5) = some (words s) := by
  apply strings_SplitN_of
  have hc : s.size < 4294967281 ∧ 1 ≤ (⟨#[32]⟩ : ByteArray).size ∧ (1 : Int) ≤ 5 ∧ (5 : Int) ≤ 1000 := ⟨by omega, by decide, by omega, by omega⟩
  simp only [strings_SplitN_raw, splitNX, dt hc, cond_true, words]
  rfl
theorem words_few (s : ByteArray) (h : (splitL 32 s.data.toList).length < 5) : words s = (splitL 32 s.data.toList).map bsl := by
  unfold words
  rw [splitB_map, cut_few]
  have h1 := splitL_len 32 s.data.toList
  have h2 := List.count_le_length (a := (32 : UInt8)) (l := s.data.toList)
  rw [← size_list] at h2
  omega
theorem words_five (s : ByteArray) (p0 p1 p2 p3 p4 : List UInt8) (r : List (List UInt8)) (h : splitL 32 s.data.toList = p0 :: p1 :: p2 :: p3 :: p4 :: r) : words s = [bsl p0, bsl p1, bsl p2, bsl p3, bsl (joinC 32 (p4 :: r))] := by
  have h1 := splitL_len 32 s.data.toList
  have h2 := List.count_le_length (a := (32 : UInt8)) (l := s.data.toList)
  rw [← size_list] at h2
  rw [h] at h1
  simp only [List.length_cons] at h1
  unfold words
  rw [show min 5 (s.size + 1) - 1 = 4 by omega, splitB_map, splitK_eq, h, if_neg (by simp)]
  rfl
/-- What a text tells of a deed. -/
def deedP (s : ByteArray) (p0 p1 p2 p3 : List UInt8) (t : ByteArray) : Int × Int × Int × Int × ByteArray × Bool :=
  bif (numL (bsl p0)).2 && ((numL (bsl p1)).2 && ((numL (bsl p2)).2 && ((numL (bsl p3)).2 && beqS (deedText (numL (bsl p0)).1 (numL (bsl p1)).1 (numL (bsl p2)).1 (numL (bsl p3)).1 t) s))) then ((numL (bsl p0)).1, (numL (bsl p1)).1, (numL (bsl p2)).1, (numL (bsl p3)).1, t, true) else (0, 0, 0, 0, ByteArray.empty, false)
def deedOfL (s : ByteArray) : List (List UInt8) → Int × Int × Int × Int × ByteArray × Bool
  | p0 :: p1 :: p2 :: p3 :: p4 :: r => deedP s p0 p1 p2 p3 (bsl (joinC 32 (p4 :: r)))
  | _ => (0, 0, 0, 0, ByteArray.empty, false)
def deedOf (s : ByteArray) : Int × Int × Int × Int × ByteArray × Bool := deedOfL s (splitL 32 s.data.toList)
theorem joinC_cons (c : UInt8) : (x : List UInt8) → (r : List (List UInt8)) → joinC c (x :: r) = x ++ r.flatMap (fun y => c :: y)
  | x, [] => by simp [joinC]
  | x, y :: r => by rw [joinC, joinC_cons c y r]; simp
theorem joinC_len (c : UInt8) : (l : List (List UInt8)) → (x : List UInt8) → x ∈ l → x.length ≤ (joinC c l).length
  | [], x, h => by simp at h
  | [y], x, h => by simp only [List.mem_singleton] at h; subst h; simp [joinC]
  | y :: z :: r, x, h => by
    rw [joinC]
    rcases List.mem_cons.1 h with rfl | h
    · simp
    · have := joinC_len c (z :: r) x h; simp only [List.length_append, List.length_cons]; omega
theorem part_len (s : ByteArray) (x : List UInt8) (h : x ∈ splitL 32 s.data.toList) : (bsl x).size ≤ s.size := by
  have := joinC_len 32 _ x h
  rw [joinC_split, ← size_list] at this
  rw [bsl_size]; exact this
theorem DeedOf_ok (s : ByteArray) (h : s.size ≤ 1048576) : impl_DeedOf w s = some (deedOf s) := by
  apply impl_DeedOf_of
  have hw := SplitN_ok s (by omega)
  simp only [impl_DeedOf_raw, hw, Option.bind_some]
  unfold deedOf
  match hp : splitL 32 s.data.toList with
  | [] => rw [words_few s (by rw [hp]; simp), hp]; rfl
  | [_] => rw [words_few s (by rw [hp]; simp), hp]; rfl
  | [_, _] => rw [words_few s (by rw [hp]; simp), hp]; rfl
  | [_, _, _] => rw [words_few s (by rw [hp]; simp), hp]; rfl
  | [_, _, _, _] => rw [words_few s (by rw [hp]; simp), hp]; rfl
  | p0 :: p1 :: p2 :: p3 :: p4 :: r =>
    rw [words_five s p0 p1 p2 p3 p4 r hp]
    have z0 := part_len s p0 (by rw [hp]; simp)
    have z1 := part_len s p1 (by rw [hp]; simp)
    have z2 := part_len s p2 (by rw [hp]; simp)
    have z3 := part_len s p3 (by rw [hp]; simp)
    have n0 := Number_ok (bsl p0) (by omega)
    have n1 := Number_ok (bsl p1) (by omega)
    have n2 := Number_ok (bsl p2) (by omega)
    have n3 := Number_ok (bsl p3) (by omega)
    have s4 : ∀ (W : List ByteArray) (l : List Int), impl_DeedOf_k0 wl (s, W, [bsl p0, bsl p1, bsl p2, bsl p3], 4, 4, l) = some (.inr (s, W, l)) := fun W l => impl_DeedOf_l0_of rfl
    have st : ∀ (W : List ByteArray) (i : Nat) (p : List UInt8) (l : List Int), i < 4 → [bsl p0, bsl p1, bsl p2, bsl p3][i]? = some (bsl p) → impl_Number w (bsl p) = some (numL (bsl p)) → l.length ≤ 4 → ∀ o, (bif (numL (bsl p)).2 then impl_DeedOf_k0 wl (s, W, [bsl p0, bsl p1, bsl p2, bsl p3], 4, ((i + 1 : Nat) : Int), l ++ [(numL (bsl p)).1]) else some (.inl (false, 0, 0, 0, 0, ByteArray.empty))) = some o → impl_DeedOf_k0 wl (s, W, [bsl p0, bsl p1, bsl p2, bsl p3], 4, (i : Int), l) = some o := by
      intro W i p l hi hg hn hl o ho
      apply impl_DeedOf_l0_of
      have hin : inb (i : Int) [bsl p0, bsl p1, bsl p2, bsl p3].length = true := inb_of (by simpa using hi)
      have hrd : rd1 (ByteArray.empty : ByteArray) [bsl p0, bsl p1, bsl p2, bsl p3] (i : Int) = bsl p := by
        simp only [rd1, Int.toNat_natCast, List.getD, hg, Option.getD_some]
      simp only [impl_DeedOf_l0, dt (show (i : Int) < 4 by omega), cond_true, hin, hrd, hn, Option.bind_some]
      rw [w64 (n := (i : Int) + 1) (by omega) (by omega), fits_of (by simp; omega), cond_true, show (i : Int) + 1 = ((i + 1 : Nat) : Int) by omega]
      cases hb : (numL (bsl p)).2
      · rw [hb] at ho; exact ho
      · rw [hb] at ho; exact ho
    have hlen : decide ((([bsl p0, bsl p1, bsl p2, bsl p3, bsl (joinC 32 (p4 :: r))] : List ByteArray).length : Int) = 5) = true := rfl
    simp only [hlen, Bool.not_true, cond_false]
    rw [show decide ((0 : Int) ≤ 0 ∧ 0 ≤ (4 : Int) ∧ 4 ≤ (([bsl p0, bsl p1, bsl p2, bsl p3, bsl (joinC 32 (p4 :: r))] : List ByteArray).length : Int)) = true from rfl, cond_true]
    show (impl_DeedOf_k0 wl (s, [bsl p0, bsl p1, bsl p2, bsl p3, bsl (joinC 32 (p4 :: r))], [bsl p0, bsl p1, bsl p2, bsl p3], 4, ((0 : Nat) : Int), [])).bind _ = _
    have fin : ∃ o, impl_DeedOf_k0 wl (s, [bsl p0, bsl p1, bsl p2, bsl p3, bsl (joinC 32 (p4 :: r))], [bsl p0, bsl p1, bsl p2, bsl p3], 4, ((0 : Nat) : Int), []) = some o ∧
        o = bif (numL (bsl p0)).2 && ((numL (bsl p1)).2 && ((numL (bsl p2)).2 && (numL (bsl p3)).2)) then .inr (s, [bsl p0, bsl p1, bsl p2, bsl p3, bsl (joinC 32 (p4 :: r))], [(numL (bsl p0)).1, (numL (bsl p1)).1, (numL (bsl p2)).1, (numL (bsl p3)).1]) else .inl (false, 0, 0, 0, 0, ByteArray.empty) := by
      refine ⟨_, st _ 0 p0 [] (by omega) rfl n0 (by simp) _ ?_, rfl⟩
      cases b0 : (numL (bsl p0)).2
      · rfl
      · simp only [cond_true, Bool.true_and]
        refine st _ 1 p1 _ (by omega) rfl n1 (by simp) _ ?_
        cases b1 : (numL (bsl p1)).2
        · rfl
        · simp only [cond_true, Bool.true_and]
          refine st _ 2 p2 _ (by omega) rfl n2 (by simp) _ ?_
          cases b2 : (numL (bsl p2)).2
          · rfl
          · simp only [cond_true, Bool.true_and]
            refine st _ 3 p3 _ (by omega) rfl n3 (by simp) _ ?_
            cases b3 : (numL (bsl p3)).2
            · rfl
            · exact s4 _ _
    obtain ⟨o, e, ho⟩ := fin
    rw [e, Option.bind_some, ho]
    have hdo : deedOfL s (p0 :: p1 :: p2 :: p3 :: p4 :: r) = deedP s p0 p1 p2 p3 (bsl (joinC 32 (p4 :: r))) := rfl
    rw [hdo]
    unfold deedP
    cases b0 : (numL (bsl p0)).2
    · rfl
    cases b1 : (numL (bsl p1)).2
    · rfl
    cases b2 : (numL (bsl p2)).2
    · rfl
    cases b3 : (numL (bsl p3)).2
    · rfl
    have hd := DeedText_ok (numL (bsl p0)).1 (numL (bsl p1)).1 (numL (bsl p2)).1 (numL (bsl p3)).1 (bsl (joinC 32 (p4 :: r)))
    simp only [Bool.true_and, cond_true, elimS, Sum.elim_inr]
    show (impl_DeedText w ((numL (bsl p0)).1, (numL (bsl p1)).1, (numL (bsl p2)).1, (numL (bsl p3)).1, bsl (joinC 32 (p4 :: r)))).bind _ = _
    rw [hd, Option.bind_some]
    cases beqS (deedText (numL (bsl p0)).1 (numL (bsl p1)).1 (numL (bsl p2)).1 (numL (bsl p3)).1 (bsl (joinC 32 (p4 :: r)))) s <;> rfl
end Go.Proofs.YtameehmkoglkeaaDoor.M

namespace Go.Proofs.YtameehmkoglkeaaDoor.M
open Go Go.Eng Go.Proofs
set_option linter.unusedVariables false
theorem sText_loop (y0 : ByteArray) (y1 : Int) (y2 : Bool) (y3 : Int) (y4 : Bool) (y5 : Int) (y6 : Bool) (y7 : Int) (y8 : Bool) (W : List ByteArray) (hW : W.length ≤ 2000000) : (l : List (List UInt8)) → (i : Nat) → (acc : List UInt8) → W.drop i = l.map bsl → acc.length + (l.flatMap (fun y => (32 : UInt8) :: y)).length ≤ 2000000 →
    spec_DeedOf_k0 wl (y0, y1, y2, y3, y4, y5, y6, y7, y8, bsl acc, (i : Int), W) = some (y0, y1, y2, y3, y4, y5, y6, y7, y8, bsl (acc ++ l.flatMap (fun y => (32 : UInt8) :: y)))
  | [], i, acc, h, hb => by
    have hi : W.length ≤ i := by
      have := congrArg List.length h
      simp at this
      omega
    apply spec_DeedOf_l0_of
    simp only [spec_DeedOf_l0, df (show ¬ (i : Int) < ((W.length : Nat) : Int) by omega), cond_false, List.flatMap_nil, List.append_nil]
  | x :: l, i, acc, h, hb => by
    have hi : i < W.length := by
      have := congrArg List.length h
      simp at this
      omega
    rw [List.drop_eq_getElem_cons hi, List.map_cons] at h
    obtain ⟨h1, h2⟩ := List.cons.inj h
    simp only [List.flatMap_cons, List.length_append, List.length_cons] at hb
    have ih := sText_loop y0 y1 y2 y3 y4 y5 y6 y7 y8 W hW l (i + 1) (acc ++ 32 :: x) h2 (by simp only [List.length_append, List.length_cons]; omega)
    apply spec_DeedOf_l0_of
    have e : (bsl acc ++ (⟨#[32]⟩ : ByteArray)) ++ bsl x = bsl (acc ++ 32 :: x) := by
      rw [show (⟨#[32]⟩ : ByteArray) = bsl [32] from rfl, bsl_app, bsl_app]; simp
    have s1 : (⟨#[32]⟩ : ByteArray).size = 1 := rfl
    simp only [spec_DeedOf_l0, ilt hi, cond_true, inb_of hi, rd1_get hi, h1, ByteArray.size_append, bsl_size, s1]
    rw [fits_of (by omega), cond_true, fits_of (by omega), cond_true, e, w64 (n := (i : Int) + 1) (by omega) (by omega), show (i : Int) + 1 = ((i + 1 : Nat) : Int) by omega, ih]
    simp
theorem joinC_tail (c : UInt8) (x y : List UInt8) (r : List (List UInt8)) : (joinC c (y :: r)).length ≤ (joinC c (x :: y :: r)).length := by
  rw [joinC]; simp; omega
theorem sDeedOf_ok (s : ByteArray) (h : s.size ≤ 1048576) : spec_DeedOf w s = some (deedOf s) := by
  apply spec_DeedOf_of
  have hw : spec_Parts w (s, 32) = some ((splitL 32 s.data.toList).map bsl) := sParts_ok s 32 (by omega)
  simp only [spec_DeedOf_raw, hw, Option.bind_some]
  unfold deedOf
  have hln := splitL_len 32 s.data.toList
  have hct := List.count_le_length (a := (32 : UInt8)) (l := s.data.toList)
  rw [← size_list] at hct
  have hj := joinC_split 32 s.data.toList
  match hp : splitL 32 s.data.toList with
  | [] => rfl
  | [_] => rfl
  | [_, _] => rfl
  | [_, _, _] => rfl
  | [_, _, _, _] => rfl
  | p0 :: p1 :: p2 :: p3 :: p4 :: r =>
    rw [hp] at hln hj
    simp only [List.length_cons] at hln
    have hjl : (joinC 32 (p4 :: r)).length ≤ s.size := by
      have a := joinC_tail 32 p3 p4 r
      have b := joinC_tail 32 p2 p3 (p4 :: r)
      have c := joinC_tail 32 p1 p2 (p3 :: p4 :: r)
      have d := joinC_tail 32 p0 p1 (p2 :: p3 :: p4 :: r)
      rw [hj, ← size_list] at d
      omega
    have hjc := joinC_cons 32 p4 r
    have hl : ¬ ((((p0 :: p1 :: p2 :: p3 :: p4 :: r).map bsl).length : Nat) : Int) < 5 := by simp; omega
    have hin : ∀ k : Nat, k < 5 → inb (k : Int) ((p0 :: p1 :: p2 :: p3 :: p4 :: r).map bsl).length = true := fun k hk => inb_of (by simp; omega)
    have i0 := hin 0 (by omega)
    have i1 := hin 1 (by omega)
    have i2 := hin 2 (by omega)
    have i3 := hin 3 (by omega)
    have i4 := hin 4 (by omega)
    simp only [Int.natCast_zero] at i0
    have i1 : inb 1 ((p0 :: p1 :: p2 :: p3 :: p4 :: r).map bsl).length = true := i1
    have i2 : inb 2 ((p0 :: p1 :: p2 :: p3 :: p4 :: r).map bsl).length = true := i2
    have i3 : inb 3 ((p0 :: p1 :: p2 :: p3 :: p4 :: r).map bsl).length = true := i3
    have i4 : inb 4 ((p0 :: p1 :: p2 :: p3 :: p4 :: r).map bsl).length = true := i4
    have r0 : rd1 (ByteArray.empty : ByteArray) ((p0 :: p1 :: p2 :: p3 :: p4 :: r).map bsl) 0 = bsl p0 := rfl
    have r1 : rd1 (ByteArray.empty : ByteArray) ((p0 :: p1 :: p2 :: p3 :: p4 :: r).map bsl) 1 = bsl p1 := rfl
    have r2 : rd1 (ByteArray.empty : ByteArray) ((p0 :: p1 :: p2 :: p3 :: p4 :: r).map bsl) 2 = bsl p2 := rfl
    have r3 : rd1 (ByteArray.empty : ByteArray) ((p0 :: p1 :: p2 :: p3 :: p4 :: r).map bsl) 3 = bsl p3 := rfl
    have r4 : rd1 (ByteArray.empty : ByteArray) ((p0 :: p1 :: p2 :: p3 :: p4 :: r).map bsl) 4 = bsl p4 := rfl
    have hlp := sText_loop s (numL (bsl p0)).1 (numL (bsl p0)).2 (numL (bsl p1)).1 (numL (bsl p1)).2 (numL (bsl p2)).1 (numL (bsl p2)).2 (numL (bsl p3)).1 (numL (bsl p3)).2 ((p0 :: p1 :: p2 :: p3 :: p4 :: r).map bsl) (by simp; omega) r 5 p4 rfl (by rw [← List.length_append, ← hjc]; omega)
    rw [← hjc] at hlp
    have hlp : spec_DeedOf_k0 wl (s, (numL (bsl p0)).1, (numL (bsl p0)).2, (numL (bsl p1)).1, (numL (bsl p1)).2, (numL (bsl p2)).1, (numL (bsl p2)).2, (numL (bsl p3)).1, (numL (bsl p3)).2, bsl p4, 5, (p0 :: p1 :: p2 :: p3 :: p4 :: r).map bsl) = _ := hlp
    simp only [df hl, cond_false, i0, i1, i2, i3, i4, cond_true, r0, r1, r2, r3, r4, sNumber_ok, Option.bind_some, hlp]
    have hdo : deedOfL s (p0 :: p1 :: p2 :: p3 :: p4 :: r) = deedP s p0 p1 p2 p3 (bsl (joinC 32 (p4 :: r))) := rfl
    rw [hdo]
    unfold deedP
    have hd := sDeedText_ok (numL (bsl p0)).1 (numL (bsl p1)).1 (numL (bsl p2)).1 (numL (bsl p3)).1 (bsl (joinC 32 (p4 :: r))) (by rw [bsl_size]; omega)
    rw [hd]
    cases b0 : (numL (bsl p0)).2
    · rfl
    cases b1 : (numL (bsl p1)).2
    · rfl
    cases b2 : (numL (bsl p2)).2
    · rfl
    cases b3 : (numL (bsl p3)).2
    · rfl
    simp only [Bool.true_and, Bool.not_true, cond_false, Option.bind_some]
    cases beqS (deedText (numL (bsl p0)).1 (numL (bsl p1)).1 (numL (bsl p2)).1 (numL (bsl p3)).1 (bsl (joinC 32 (p4 :: r)))) s <;> rfl
theorem deedOf_text (s : ByteArray) : (deedOf s).2.2.2.2.1.size ≤ s.size := by
  have hj := joinC_split 32 s.data.toList
  unfold deedOf
  match hp : splitL 32 s.data.toList with
  | [] => exact Nat.zero_le _
  | [_] => exact Nat.zero_le _
  | [_, _] => exact Nat.zero_le _
  | [_, _, _] => exact Nat.zero_le _
  | [_, _, _, _] => exact Nat.zero_le _
  | p0 :: p1 :: p2 :: p3 :: p4 :: r =>
    rw [hp] at hj
    have hjl : (joinC 32 (p4 :: r)).length ≤ s.size := by
      have a := joinC_tail 32 p3 p4 r
      have b := joinC_tail 32 p2 p3 (p4 :: r)
      have c := joinC_tail 32 p1 p2 (p3 :: p4 :: r)
      have d := joinC_tail 32 p0 p1 (p2 :: p3 :: p4 :: r)
      rw [hj, ← size_list] at d
      omega
    show (deedP s p0 p1 p2 p3 (bsl (joinC 32 (p4 :: r)))).2.2.2.2.1.size ≤ s.size
    unfold deedP
    cases ((numL (bsl p0)).2 && ((numL (bsl p1)).2 && ((numL (bsl p2)).2 && ((numL (bsl p3)).2 && beqS (deedText (numL (bsl p0)).1 (numL (bsl p1)).1 (numL (bsl p2)).1 (numL (bsl p3)).1 (bsl (joinC 32 (p4 :: r)))) s))))
    · exact Nat.zero_le _
    · simp only [cond_true, bsl_size]; exact hjl
end Go.Proofs.YtameehmkoglkeaaDoor.M

namespace Go.Proofs.YtameehmkoglkeaaDoor.M
open Go Go.Eng Go.Proofs
set_option linter.unusedVariables false
/-! A text of lines, one deed each. -/
theorem splitL_end (c : UInt8) : (l : List UInt8) → splitL c (l ++ [c]) = splitL c l ++ [[]]
  | [] => by simp [splitL]
  | x :: l => by
    have ih := splitL_end c l
    rw [List.cons_append, splitL, splitL, ih]
    cases x == c
    · simp only [cond_false]
      cases hs : splitL c l with
      | nil => exact absurd hs (splitL_ne c l)
      | cons a t => rfl
    · rfl
theorem splitL_snoc (c x : UInt8) (hx : (x == c) = false) : (l : List UInt8) → ∃ t a, splitL c (l ++ [x]) = t ++ [a ++ [x]]
  | [] => ⟨[], [], by simp [splitL, hx]⟩
  | y :: l => by
    obtain ⟨t, a, h⟩ := splitL_snoc c x hx l
    rw [List.cons_append, splitL, h]
    cases y == c
    · simp only [cond_false]
      cases t with
      | nil => exact ⟨[], y :: a, rfl⟩
      | cons b t => exact ⟨(y :: b) :: t, a, rfl⟩
    · exact ⟨[] :: t, a, rfl⟩
theorem splitL_sum (c : UInt8) : (l : List UInt8) → sumL (fun p => p.length + 1) (splitL c l) = l.length + 1
  | [] => rfl
  | x :: l => by
    have ih := splitL_sum c l
    rw [splitL]
    cases x == c
    · simp only [cond_false]
      cases hs : splitL c l with
      | nil => exact absurd hs (splitL_ne c l)
      | cons a t =>
        rw [hs] at ih
        simp only [sumL_cons, List.length_cons] at ih ⊢
        omega
    · simp only [cond_true, sumL_cons, List.length_nil, List.length_cons, ih]; omega
theorem beqS_nil : beqS (bsl []) (⟨#[]⟩ : ByteArray) = true := beqS_refl (bsl [])
def deedsOfL : List (List UInt8) → List XEntry → (Bool × List XEntry) ⊕ List XEntry
  | [], acc => .inr acc
  | p :: r, acc => bif (deedOf (bsl p)).2.2.2.2.2 then deedsOfL r (acc ++ [((deedOf (bsl p)).1, (deedOf (bsl p)).2.1, (deedOf (bsl p)).2.2.1, (deedOf (bsl p)).2.2.2.1, (deedOf (bsl p)).2.2.2.2.1)]) else .inl (false, [])
def lstOf : (Bool × List XEntry) ⊕ List XEntry → List XEntry × Bool
  | .inl u => (u.2, u.1)
  | .inr z => (z, true)
theorem deedsOfL_mz : (P : List (List UInt8)) → (acc : List XEntry) → mz_DeedS (lstOf (deedsOfL P acc)).1 ≤ mz_DeedS acc + sumL (fun p => p.length + 1) P
  | [], acc => by simp [deedsOfL, lstOf]
  | p :: r, acc => by
    have ih := deedsOfL_mz r (acc ++ [((deedOf (bsl p)).1, (deedOf (bsl p)).2.1, (deedOf (bsl p)).2.2.1, (deedOf (bsl p)).2.2.2.1, (deedOf (bsl p)).2.2.2.2.1)])
    have ht := deedOf_text (bsl p)
    rw [bsl_size] at ht
    rw [deedsOfL]
    cases (deedOf (bsl p)).2.2.2.2.2
    · simp [lstOf, mz_DeedS, sumL]
    · simp only [cond_true]
      have e : mz_DeedS (acc ++ [((deedOf (bsl p)).1, (deedOf (bsl p)).2.1, (deedOf (bsl p)).2.2.1, (deedOf (bsl p)).2.2.2.1, (deedOf (bsl p)).2.2.2.2.1)]) = mz_DeedS acc + 1 + (deedOf (bsl p)).2.2.2.2.1.size := by
        simp only [mz_DeedS, List.length_append, List.length_singleton, sumL_append, sumL, mz_Deed]
        omega
      rw [sumL_cons]
      omega
theorem dsOf_loop (P : List (List UInt8)) (hP : ∀ p ∈ P, p.length ≤ 1048576) (hl : P.length ≤ 2000000) : (m i : Nat) → (acc : List XEntry) → i + m = P.length → acc.length ≤ i → impl_DeedsOf_k0 wl (P.map bsl, ((P.length : Nat) : Int), (i : Int), acc) = some (deedsOfL (P.drop i) acc)
  | 0, i, acc, hm, ha => by
    have hi : i = P.length := by omega
    subst hi
    apply impl_DeedsOf_l0_of
    simp only [impl_DeedsOf_l0, ilt_self, cond_false, List.drop_length, deedsOfL]
  | m + 1, i, acc, hm, ha => by
    have hi : i < P.length := by omega
    have hi' : i < (P.map bsl).length := by simpa using hi
    have hp : (bsl P[i]).size ≤ 1048576 := by rw [bsl_size]; exact hP _ (List.getElem_mem hi)
    have ih := dsOf_loop P hP hl m (i + 1) (acc ++ [((deedOf (bsl P[i])).1, (deedOf (bsl P[i])).2.1, (deedOf (bsl P[i])).2.2.1, (deedOf (bsl P[i])).2.2.2.1, (deedOf (bsl P[i])).2.2.2.2.1)]) (by omega) (by simp; omega)
    apply impl_DeedsOf_l0_of
    rw [List.drop_eq_getElem_cons hi, deedsOfL]
    simp only [impl_DeedsOf_l0, ilt hi, cond_true, inb_of hi', rd1_get hi', List.getElem_map, DeedOf_ok _ hp, Option.bind_some]
    cases (deedOf (bsl P[i])).2.2.2.2.2
    · rfl
    · rw [fits_of (by simp; omega)]
      simp only [Bool.not_true, cond_false, cond_true, inc hi (show P.length ≤ maxLen by simp only [maxLen]; omega)]
      exact ih
theorem sdsOf_loop (P : List (List UInt8)) (e : ByteArray) (hP : ∀ p ∈ P, p.length ≤ 1048576) (hl : P.length ≤ 2000000) : (m i : Nat) → (acc : List XEntry) → i + m = P.length → acc.length ≤ i → spec_DeedsOf_k0 wl ((i : Int), acc, P.map bsl ++ [e]) = some (deedsOfL (P.drop i) acc)
  | 0, i, acc, hm, ha => by
    have hi : i = P.length := by omega
    subst hi
    have hw : IntKind.wrap .i64 ((((P.map bsl ++ [e]).length : Nat) : Int) - 1) = ((P.length : Nat) : Int) := by
      rw [show ((((P.map bsl ++ [e]).length : Nat) : Int) - 1) = ((P.length : Nat) : Int) by simp, w64 (by omega) (by omega)]
    apply spec_DeedsOf_l0_of
    simp only [spec_DeedsOf_l0, hw, ilt_self, cond_false, List.drop_length, deedsOfL]
  | m + 1, i, acc, hm, ha => by
    have hi : i < P.length := by omega
    have hi' : i < (P.map bsl ++ [e]).length := by simp; omega
    have hp : (bsl P[i]).size ≤ 1048576 := by rw [bsl_size]; exact hP _ (List.getElem_mem hi)
    have hw : IntKind.wrap .i64 ((((P.map bsl ++ [e]).length : Nat) : Int) - 1) = ((P.length : Nat) : Int) := by
      rw [show ((((P.map bsl ++ [e]).length : Nat) : Int) - 1) = ((P.length : Nat) : Int) by simp, w64 (by omega) (by omega)]
    have hg : rd1 (ByteArray.empty : ByteArray) (P.map bsl ++ [e]) (i : Int) = bsl P[i] := by
      rw [rd1_get hi', List.getElem_append_left (by simpa using hi), List.getElem_map]
    have ih := sdsOf_loop P e hP hl m (i + 1) (acc ++ [((deedOf (bsl P[i])).1, (deedOf (bsl P[i])).2.1, (deedOf (bsl P[i])).2.2.1, (deedOf (bsl P[i])).2.2.2.1, (deedOf (bsl P[i])).2.2.2.2.1)]) (by omega) (by simp; omega)
    apply spec_DeedsOf_l0_of
    rw [List.drop_eq_getElem_cons hi, deedsOfL]
    simp only [spec_DeedsOf_l0, hw, ilt hi, cond_true, inb_of hi', hg, sDeedOf_ok _ hp, Option.bind_some]
    cases (deedOf (bsl P[i])).2.2.2.2.2
    · rfl
    · rw [fits_of (by simp; omega)]
      simp only [Bool.not_true, cond_false, cond_true, inc hi (show P.length ≤ maxLen by simp only [maxLen]; omega)]
      exact ih
theorem Split_ok (l : List UInt8) (h : l.length ≤ 1048576) : strings_Split w (bsl l, (⟨#[10]⟩ : ByteArray)) = some ((splitL 10 l).map bsl) := by
  apply strings_Split_of
  have hc : (bsl l).size < 4294967281 ∧ 1 ≤ (⟨#[10]⟩ : ByteArray).size := ⟨by rw [bsl_size]; omega, by decide⟩
  simp only [strings_Split_raw, splitX, dt hc, cond_true]
  have hk : Go.Lib.countB (bsl l) ⟨#[10]⟩ = l.count 10 := by
    show Go.Lib.count (bsl l).data.toList [10] = _
    rw [Go.Lib.count_one]; simp [bsl]
  rw [splitB_map, hk, show (bsl l).data.toList = l by simp [bsl], cut_few _ _ _ (by rw [splitL_len]; omega)]
theorem cut_end (l : List UInt8) (b : UInt8) (h : l.length ≤ 1048576) : strings_CutSuffix w (bsl (l ++ [b]), (⟨#[10]⟩ : ByteArray)) = some (bif b == 10 then (bsl l, true) else (bsl (l ++ [b]), false)) := by
  have s1 : (⟨#[10]⟩ : ByteArray).size = 1 := rfl
  have sz : (bsl (l ++ [b])).size = l.length + 1 := by rw [bsl_size]; simp
  have hw : IntKind.wrap .i64 ((((bsl (l ++ [b])).size : Nat) : Int) - (((⟨#[10]⟩ : ByteArray).size : Nat) : Int)) = ((l.length : Nat) : Int) := by
    rw [sz, s1, w64 (by omega) (by omega)]; omega
  have dl : (bsl (l ++ [b])).data.toList = l ++ [b] := by simp [bsl]
  have x1 : ByteArray.extract (bsl (l ++ [b])) l.length (bsl (l ++ [b])).size = bsl [b] := by
    rw [← bsl_data (ByteArray.extract _ _ _), Go.Lib.extract_data, dl, sz]; simp
  have x2 : ByteArray.extract (bsl (l ++ [b])) 0 l.length = bsl l := by
    rw [← bsl_data (ByteArray.extract _ _ _), Go.Lib.extract_data, dl]; simp
  have hb : beqS (bsl [b]) (⟨#[10]⟩ : ByteArray) = (b == 10) := by
    rw [beqS_eq]
    by_cases e : b = 10
    · subst e; rfl
    · rw [decide_eq_false (fun he => e (by have := congrArg (fun x : ByteArray => x.data.toList) he; simpa [bsl] using this))]
      simpa using e
  have hs : internal_stringslite_HasSuffix w (bsl (l ++ [b]), (⟨#[10]⟩ : ByteArray)) = some (b == 10) := by
    apply internal_stringslite_HasSuffix_of
    simp only [internal_stringslite_HasSuffix_raw, hw, dt (show (((⟨#[10]⟩ : ByteArray).size : Nat) : Int) ≤ (((bsl (l ++ [b])).size : Nat) : Int) by rw [sz, s1]; omega), dt (show (0 : Int) ≤ ((l.length : Nat) : Int) ∧ ((l.length : Nat) : Int) ≤ (((bsl (l ++ [b])).size : Nat) : Int) ∧ (((bsl (l ++ [b])).size : Nat) : Int) ≤ (((bsl (l ++ [b])).size : Nat) : Int) by rw [sz]; omega), cond_true, Int.toNat_natCast, x1, hb]
  apply strings_CutSuffix_of
  have hc : internal_stringslite_CutSuffix w (bsl (l ++ [b]), (⟨#[10]⟩ : ByteArray)) = some (bif b == 10 then (bsl l, true) else (bsl (l ++ [b]), false)) := by
    apply internal_stringslite_CutSuffix_of
    simp only [internal_stringslite_CutSuffix_raw, hs, Option.bind_some, hw, dt (show (0 : Int) ≤ 0 ∧ (0 : Int) ≤ ((l.length : Nat) : Int) ∧ ((l.length : Nat) : Int) ≤ (((bsl (l ++ [b])).size : Nat) : Int) by rw [sz]; omega), cond_true, Int.toNat_natCast, Int.toNat_zero, x2]
    cases b == 10 <;> rfl
  simp only [strings_CutSuffix_raw, hc, Option.bind_some]
theorem DeedsOf_both (s : ByteArray) (h : s.size ≤ 1048576) : ∃ r : List XEntry × Bool, impl_DeedsOf w s = some r ∧ spec_DeedsOf w s = some r ∧ mz_DeedS r.1 ≤ 4294967 := by
  have hp : spec_Parts w (s, 10) = some ((splitL 10 s.data.toList).map bsl) := sParts_ok s 10 (by omega)
  rw [size_list] at h
  rcases List.eq_nil_or_concat s.data.toList with hn | ⟨l, b, hn⟩
  · have hs : s = bsl [] := by rw [← hn, bsl_data]
    subst hs
    refine ⟨([], true), ?_, ?_, by simp [mz_DeedS, sumL]⟩
    · apply impl_DeedsOf_of
      rw [impl_DeedsOf_raw, beqS_nil, cond_true]
    · apply spec_DeedsOf_of
      have e := sdsOf_loop [] (bsl []) (fun p hp => by cases hp) (by simp) 0 0 [] rfl (by simp)
      have e : spec_DeedsOf_k0 wl (0, [], [bsl []]) = some (.inr []) := e
      simp only [spec_DeedsOf_raw, hp, Option.bind_some]
      rw [show (splitL 10 (bsl []).data.toList).map bsl = [bsl []] from rfl]
      rw [show inb (IntKind.wrap .i64 ((([bsl []] : List ByteArray).length : Int) - 1)) ([bsl []] : List ByteArray).length = true from rfl, cond_true]
      rw [show rd1 (ByteArray.empty : ByteArray) [bsl []] (IntKind.wrap .i64 ((([bsl []] : List ByteArray).length : Int) - 1)) = bsl [] from rfl, beqS_nil, e]
      rfl
  · have hs : s = bsl (l ++ [b]) := by rw [← bsl_data s, hn]; simp
    subst hs
    have dl : (bsl (l ++ [b])).data.toList = l ++ [b] := by simp [bsl]
    rw [dl] at h hp
    simp only [List.length_append, List.length_singleton] at h
    have hne : beqS (bsl (l ++ [b])) (⟨#[]⟩ : ByteArray) = false := by
      rw [beqS_eq]
      exact decide_eq_false (fun he => by have := congrArg ByteArray.size he; rw [bsl_size] at this; simp [ByteArray.size] at this)
    have hcut := cut_end l b (by omega)
    cases hb : b == 10
    · rw [hb] at hcut
      refine ⟨([], false), ?_, ?_, by simp [mz_DeedS, sumL]⟩
      · apply impl_DeedsOf_of
        simp only [impl_DeedsOf_raw, hne, cond_false, hcut, Option.bind_some, Bool.not_false, cond_true]
      · apply spec_DeedsOf_of
        obtain ⟨t, a, ht⟩ := splitL_snoc 10 b hb l
        have hlen := splitL_len 10 (l ++ [b])
        have hcl := List.count_le_length (a := (10 : UInt8)) (l := l ++ [b])
        rw [ht] at hp hlen
        simp only [List.length_append, List.length_singleton] at hlen hcl
        have hlm : (((t ++ [a ++ [b]]).map bsl).length : Int) - 1 = ((t.length : Nat) : Int) := by simp
        have hin : inb ((t.length : Nat) : Int) ((t ++ [a ++ [b]]).map bsl).length = true := inb_of (by simp)
        have hg : rd1 (ByteArray.empty : ByteArray) ((t ++ [a ++ [b]]).map bsl) ((t.length : Nat) : Int) = bsl (a ++ [b]) := by
          rw [rd1_get (by simp)]; simp
        have hne2 : beqS (bsl (a ++ [b])) (⟨#[]⟩ : ByteArray) = false := by
          rw [beqS_eq]
          exact decide_eq_false (fun he => by have := congrArg ByteArray.size he; rw [bsl_size] at this; simp [ByteArray.size] at this)
        simp only [spec_DeedsOf_raw, hp, Option.bind_some, hlm, w64 (n := ((t.length : Nat) : Int)) (by omega) (by omega), hin, cond_true, hg, hne2, Bool.not_false]
    · have hb' : b = 10 := by simpa using hb
      subst hb'
      rw [hb] at hcut
      simp only [cond_true] at hcut
      have hlen := splitL_len 10 l
      have hcl := List.count_le_length (a := (10 : UInt8)) (l := l)
      have hP : ∀ p ∈ splitL 10 l, p.length ≤ 1048576 := fun p hm => by
        have := joinC_len 10 _ p hm
        rw [joinC_split] at this; omega
      have hsum := splitL_sum 10 l
      refine ⟨lstOf (deedsOfL (splitL 10 l) []), ?_, ?_, ?_⟩
      · apply impl_DeedsOf_of
        have e := dsOf_loop (splitL 10 l) hP (by omega) (splitL 10 l).length 0 [] (by omega) (by simp)
        simp only [Int.natCast_zero, List.drop_zero] at e
        simp only [impl_DeedsOf_raw, hne, cond_false, hcut, Option.bind_some, Bool.not_true, Split_ok l (by omega), List.length_map, e]
        cases deedsOfL (splitL 10 l) [] <;> rfl
      · apply spec_DeedsOf_of
        have e := sdsOf_loop (splitL 10 l) (bsl []) hP (by omega) (splitL 10 l).length 0 [] (by omega) (by simp)
        simp only [Int.natCast_zero, List.drop_zero] at e
        rw [splitL_end, List.map_append, show List.map bsl [[]] = [bsl []] from rfl] at hp
        have hlm : (((splitL 10 l).map bsl ++ [bsl []]).length : Int) - 1 = (((splitL 10 l).length : Nat) : Int) := by simp
        have hin : inb (((splitL 10 l).length : Nat) : Int) ((splitL 10 l).map bsl ++ [bsl []]).length = true := inb_of (by simp)
        have hg : rd1 (ByteArray.empty : ByteArray) ((splitL 10 l).map bsl ++ [bsl []]) (((splitL 10 l).length : Nat) : Int) = bsl [] := by
          rw [rd1_get (by simp)]; simp
        simp only [spec_DeedsOf_raw, hp, Option.bind_some, hlm, w64 (n := (((splitL 10 l).length : Nat) : Int)) (by omega) (by omega), hin, cond_true, hg, beqS_nil, Bool.not_true, cond_false, e]
        cases deedsOfL (splitL 10 l) [] <;> rfl
      · have := deedsOfL_mz (splitL 10 l) []
        have z : mz_DeedS [] = 0 := rfl
        omega
theorem law_DeedsOf (a0 : ByteArray) (hf : a0.size ≤ maxLen) : laws_FnExactDeedsOf w a0 = some true := by
  apply laws_FnExactDeedsOf_of
  simp only [laws_FnExactDeedsOf_raw]
  by_cases h : (1048576 : Int) < ((a0.size : Nat) : Int)
  · simp only [dt h, cond_true]
  · obtain ⟨r, hi, hs, hm⟩ := DeedsOf_both a0 (by omega)
    have hc := sumc_DeedS r.1
    have he := eq_DeedS r.1 (by omega)
    have hk := mark_DeedS r.1 1 (by omega) (by omega) (by omega)
    have hh := held_DeedS r.1 1 (by omega) (by omega) (by omega)
    simp only [df h, cond_false, hs, hi, he, hk, hh, Option.bind_some, beq_self_eq_true, Bool.not_true, df (show ¬ (1 + ((sumL mkc_Deed r.1 : Nat) : Int)) < 0 by omega), decide_true]
end Go.Proofs.YtameehmkoglkeaaDoor.M
