/- What the plain forms that FnExactDeedsText reaches come to: PFam. No conditions but those that each theorem states. -/
import Derived.Test.YtameehmkoglkeaaDoorFnExactDeedsTextPState
set_option linter.all false
namespace Go.Proofs.YtameehmkoglkeaaDoor.M
open Go Go.Eng Go.Proofs
set_option linter.unusedVariables false
def mz_Deed (x : XEntry) : Nat := ByteArray.size x.2.2.2.2
def ft_Deed (x : XEntry) : Prop := ByteArray.size x.2.2.2.2 ≤ maxLen
theorem fit_Deed {x : XEntry} (h : FitV tEntry x) : ft_Deed x := h.2.2.2.2.1
theorem sz_Deed (a0 : Int) (a1 : Int) (a2 : Int) (a3 : Int) (a4 : ByteArray) (l : Int) (h0 : 0 ≤ l) (hB : l ≤ 1048576) (hf : ft_Deed (a0, a1, a2, a3, a4)) : laws_szDeed w (a0, a1, a2, a3, a4, l) = some (szI (mz_Deed (a0, a1, a2, a3, a4)) l) := by
  apply laws_szDeed_of
  simp only [ft_Deed] at hf
  have e : mz_Deed (a0, a1, a2, a3, a4) = (ByteArray.size a4 + 0) := by simp only [mz_Deed]; omega
  rw [e]
  simp only [laws_szDeed_raw]
  refine sz_len (by omega) (by omega) (hf) fun _ => ?_
  rw [w64 (by omega) (by omega)]
  exact sz_last (by omega)
theorem to_Deed (a0 : Int) (a1 : Int) (a2 : Int) (a3 : Int) (a4 : ByteArray) (h : mz_Deed (a0, a1, a2, a3, a4) ≤ 4294967296) : laws_toDeed w (a0, a1, a2, a3, a4) = some (a0, a1, a2, a3, a4) := by
  apply laws_toDeed_of
  simp only [mz_Deed] at h
  simp only [laws_toDeed_raw]
def mz_DeedS (a : List XEntry) : Nat := a.length + sumL mz_Deed a
def ft_DeedS (a : List XEntry) : Prop := a.length ≤ maxLen ∧ ∀ x ∈ a, ft_Deed x
theorem sz_DeedS (a : List XEntry) (l : Int) (h0 : 0 ≤ l) (hB : l ≤ 1048576) (hf : ft_DeedS a) : laws_szDeedS w (a, l) = some (szI (mz_DeedS a) l) := by
  apply laws_szDeedS_of
  simp only [laws_szDeedS_raw, mz_DeedS]
  refine sz_len h0 hB hf.1 fun h => ?_
  have e := loop_sz mz_Deed a (fun l i => laws_szDeedS_k0 wl (a, l, (i : Int))) 1048576
    (fun l i h1 r h0 hB h2 hk => by
      apply laws_szDeedS_l0_of
      have hs := sz_Deed (a[i]).1 (a[i]).2.1 (a[i]).2.2.1 (a[i]).2.2.2.1 (a[i]).2.2.2.2 l (by omega) (by omega) (hf.2 _ (List.getElem_mem h1))
      have hs2 : szI (mz_Deed a[i]) l = l - mz_Deed a[i] := szI_pos h2
      simp only [laws_szDeedS_l0, ilt h1, inb_of h1, rd1_get h1, inc h1 (show a.length ≤ maxLen from hf.1), cond_true, hs, Option.bind_some]
      simp only [show szI (mz_Deed ((a[i]).1, (a[i]).2.1, (a[i]).2.2.1, (a[i]).2.2.2.1, (a[i]).2.2.2.2)) l = l - mz_Deed a[i] from hs2, df (show ¬ l - (mz_Deed a[i] : Int) < 0 by omega), cond_false]
      exact hk)
    (fun l i h1 h0 hB h2 => by
      apply laws_szDeedS_l0_of
      have hs := sz_Deed (a[i]).1 (a[i]).2.1 (a[i]).2.2.1 (a[i]).2.2.2.1 (a[i]).2.2.2.2 l (by omega) (by omega) (hf.2 _ (List.getElem_mem h1))
      have hs2 : szI (mz_Deed a[i]) l = -1 := szI_neg h2
      simp only [laws_szDeedS_l0, ilt h1, inb_of h1, rd1_get h1, cond_true, hs, Option.bind_some]
      simp only [show szI (mz_Deed ((a[i]).1, (a[i]).2.1, (a[i]).2.2.1, (a[i]).2.2.2.1, (a[i]).2.2.2.2)) l = -1 from hs2, dt (show (-1 : Int) < 0 by omega), cond_true])
    (fun l => by
      apply laws_szDeedS_l0_of
      simp only [laws_szDeedS_l0, ilt_self, cond_false])
    (l - a.length) (by omega) (by omega)
  have hl := hf.1
  simp only [maxLen] at hl
  rw [w64 (by omega) (by omega)]
  simp only [Int.natCast_zero] at e
  rw [e, Option.bind_some, elim_szR]
theorem to_DeedS (a : List XEntry) (h : mz_DeedS a ≤ 4294967296) : laws_toDeedS w a = some a := by
  apply laws_toDeedS_of
  simp only [mz_DeedS] at h
  have e := loop_map a (fun x => x) (fun i out => laws_toDeedS_k0 wl (a, (i : Int), out)) (fun out => out)
    (fun i h1 out r ho hk => by
      apply laws_toDeedS_l0_of
      have hb := sumL_get mz_Deed a i h1
      simp only [laws_toDeedS_l0, ilt h1, ho, inb_of h1, rd1_get h1, inc h1 (show a.length ≤ maxLen by simp [maxLen]; omega), cond_true, Int.toNat_natCast, to_Deed (a[i]).1 (a[i]).2.1 (a[i]).2.2.1 (a[i]).2.2.2.1 (a[i]).2.2.2.2 (show mz_Deed a[i] ≤ 4294967296 by omega), Option.bind_some]
      exact hk)
    (fun out ho => by
      apply laws_toDeedS_l0_of
      simp only [laws_toDeedS_l0, ilt_self, cond_false])
    (List.replicate a.length (0, 0, 0, 0, ByteArray.empty)) (by simp)
  rw [List.map_id'] at e
  have hf : fits a.length 48 = true := fits_of (by omega)
  simp only [laws_toDeedS_raw, Int.toNat_natCast, hf]
  simp
  exact e
theorem eq_Deed (a0 : Int) (a1 : Int) (a2 : Int) (a3 : Int) (a4 : ByteArray) (h : mz_Deed (a0, a1, a2, a3, a4) ≤ 4294967296) : laws_eqDeed w (a0, a1, a2, a3, a4, a0, a1, a2, a3, a4) = some true := by
  apply laws_eqDeed_of
  simp only [mz_Deed] at h
  simp only [laws_eqDeed_raw, decide_true, Bool.not_true, cond_false, beqS_refl, beq_self_eq_true, Option.bind_some]
theorem eq_DeedS (a : List XEntry) (h : mz_DeedS a ≤ 4294967296) : laws_eqDeedS w (a, a) = some true := by
  apply laws_eqDeedS_of
  simp only [mz_DeedS] at h
  have e := loop_all a.length (fun i => laws_eqDeedS_k0 wl (a, a, (i : Int))) (.inr ())
    (fun i h1 r hk => by
      apply laws_eqDeedS_l0_of
      have hb := sumL_get mz_Deed a i h1
      simp only [laws_eqDeedS_l0, ilt h1, inb_of h1, rd1_get h1, inc h1 (show a.length ≤ maxLen by simp [maxLen]; omega), cond_true, decide_true, Bool.not_true, cond_false, beqS_refl, beq_self_eq_true, eq_Deed (a[i]).1 (a[i]).2.1 (a[i]).2.2.1 (a[i]).2.2.2.1 (a[i]).2.2.2.2 (show mz_Deed a[i] ≤ 4294967296 by omega), Option.bind_some]
      exact hk)
    (by
      apply laws_eqDeedS_l0_of
      simp only [laws_eqDeedS_l0, ilt_self, cond_false])
  simp only [Int.natCast_zero] at e
  simp only [laws_eqDeedS_raw, decide_true, Bool.not_true, cond_false, e, Option.bind_some, elimS, Sum.elim_inr]
def mz_IntS (a : List Int) : Nat := a.length
def ft_IntS (a : List Int) : Prop := a.length ≤ maxLen
def mz_Tree (x : XTree) : Nat := mz_IntS x.1
def ft_Tree (x : XTree) : Prop := ft_IntS x.1
theorem fit_Tree {x : XTree} (h : FitV tTree x) : ft_Tree x := h.1.1
def mz_Entry (x : XEntry) : Nat := ByteArray.size x.2.2.2.2
def ft_Entry (x : XEntry) : Prop := ByteArray.size x.2.2.2.2 ≤ maxLen
theorem fit_Entry {x : XEntry} (h : FitV tEntry x) : ft_Entry x := h.2.2.2.2.1
def mz_Item (x : XItem) : Nat := mz_Entry (x.2.1, x.2.2.1, x.2.2.2.1, x.2.2.2.2.1, x.2.2.2.2.2)
def ft_Item (x : XItem) : Prop := ft_Entry (x.2.1, x.2.2.1, x.2.2.2.1, x.2.2.2.2.1, x.2.2.2.2.2)
theorem fit_Item {x : XItem} (h : FitV tItem x) : ft_Item x := fit_Entry ⟨h.2.1, h.2.2.1, h.2.2.2.1, h.2.2.2.2.1, h.2.2.2.2.2.1, trivial⟩
def mz_ItemS (a : List XItem) : Nat := a.length + sumL mz_Item a
def ft_ItemS (a : List XItem) : Prop := a.length ≤ maxLen ∧ ∀ x ∈ a, ft_Item x
def mz_FloorS (a : List XFloor) : Nat := a.length
def ft_FloorS (a : List XFloor) : Prop := a.length ≤ maxLen
def mz_State (x : XState) : Nat := mz_ItemS x.1 + mz_FloorS x.2
def ft_State (x : XState) : Prop := ft_ItemS x.1 ∧ ft_FloorS x.2
theorem fit_State {x : XState} (h : FitV tState x) : ft_State x := ⟨⟨h.1.1, fun y hy => fit_Item (h.1.2 y hy)⟩, h.2.1.1⟩
def mz_MarkS (a : List XFloor) : Nat := a.length
def ft_MarkS (a : List XFloor) : Prop := a.length ≤ maxLen
def mz_Msg (x : XMsg) : Nat := mz_Tree (x.2.2.2.2.2.1, x.2.2.2.2.2.2.1) + mz_IntS x.2.2.2.2.2.2.2.1 + mz_IntS x.2.2.2.2.2.2.2.2.1 + mz_State (x.2.2.2.2.2.2.2.2.2.1, x.2.2.2.2.2.2.2.2.2.2.1) + mz_MarkS x.2.2.2.2.2.2.2.2.2.2.2
def ft_Msg (x : XMsg) : Prop := ft_Tree (x.2.2.2.2.2.1, x.2.2.2.2.2.2.1) ∧ ft_IntS x.2.2.2.2.2.2.2.1 ∧ ft_IntS x.2.2.2.2.2.2.2.2.1 ∧ ft_State (x.2.2.2.2.2.2.2.2.2.1, x.2.2.2.2.2.2.2.2.2.2.1) ∧ ft_MarkS x.2.2.2.2.2.2.2.2.2.2.2
theorem fit_Msg {x : XMsg} (h : FitV tMsg x) : ft_Msg x := ⟨fit_Tree ⟨h.2.2.2.2.2.1, h.2.2.2.2.2.2.1, trivial⟩, h.2.2.2.2.2.2.2.1.1, h.2.2.2.2.2.2.2.2.1.1, fit_State ⟨h.2.2.2.2.2.2.2.2.2.1, h.2.2.2.2.2.2.2.2.2.2.1, trivial⟩, h.2.2.2.2.2.2.2.2.2.2.2.1.1⟩
end Go.Proofs.YtameehmkoglkeaaDoor.M
