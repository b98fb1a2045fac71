/- What the plain forms that FnExactPlain reaches come to: PFam. No conditions but those that each theorem states. -/
import Derived.Test.YtgkobeililjgbaaFnExactPlainRaw0
import Derived.Test.YtgkobeililjgbaaFnExactPlainRaw1
import Derived.Test.YtgkobeililjgbaaFnExactPlainRaw2
namespace Go.Proofs.Ytgkobeililjgbaa.M
open Go Go.Eng Go.Proofs
set_option linter.unusedVariables false
def mz_IntS (a : List Int) : Nat := a.length
def ft_IntS (a : List Int) : Prop := a.length ≤ maxLen
def mz_Entry (x : XEntry) : Nat := ByteArray.size x.2.2.2.2
def ft_Entry (x : XEntry) : Prop := ByteArray.size x.2.2.2.2 ≤ maxLen
theorem fit_Entry {x : XEntry} (h : FitV tEntry x) : ft_Entry x := h.2.2.2.2.1
theorem sz_Entry (a0 : Int) (a1 : Int) (a2 : Int) (a3 : Int) (a4 : ByteArray) (l : Int) (h0 : 0 ≤ l) (hB : l ≤ 1048576) (hf : ft_Entry (a0, a1, a2, a3, a4)) : laws_szEntry w (a0, a1, a2, a3, a4, l) = some (szI (mz_Entry (a0, a1, a2, a3, a4)) l) := by
  apply laws_szEntry_of
  simp only [ft_Entry] at hf
  have e : mz_Entry (a0, a1, a2, a3, a4) = (ByteArray.size a4 + 0) := by simp only [mz_Entry]; omega
  rw [e]
  simp only [laws_szEntry_raw]
  refine sz_len (by omega) (by omega) (hf) fun _ => ?_
  rw [w64 (by omega) (by omega)]
  exact sz_last (by omega)
def mz_Item (x : XItem) : Nat := mz_Entry (x.2.1, x.2.2.1, x.2.2.2.1, x.2.2.2.2.1, x.2.2.2.2.2)
def ft_Item (x : XItem) : Prop := ft_Entry (x.2.1, x.2.2.1, x.2.2.2.1, x.2.2.2.2.1, x.2.2.2.2.2)
theorem fit_Item {x : XItem} (h : FitV tItem x) : ft_Item x := fit_Entry ⟨h.2.1, h.2.2.1, h.2.2.2.1, h.2.2.2.2.1, h.2.2.2.2.2.1, trivial⟩
theorem sz_Item (a0 : Int) (a1 : Int) (a2 : Int) (a3 : Int) (a4 : Int) (a5 : ByteArray) (l : Int) (h0 : 0 ≤ l) (hB : l ≤ 1048576) (hf : ft_Item (a0, a1, a2, a3, a4, a5)) : laws_szItem w (a0, a1, a2, a3, a4, a5, l) = some (szI (mz_Item (a0, a1, a2, a3, a4, a5)) l) := by
  apply laws_szItem_of
  simp only [ft_Item] at hf
  have e : mz_Item (a0, a1, a2, a3, a4, a5) = (mz_Entry (a1, a2, a3, a4, a5) + 0) := by simp only [mz_Item]; omega
  rw [e]
  simp only [laws_szItem_raw]
  refine sz_bind (by omega) (sz_Entry a1 a2 a3 a4 a5 _ (by omega) (by omega) (hf)) fun _ => ?_
  exact sz_last (by omega)
def mz_ItemS (a : List XItem) : Nat := a.length + sumL mz_Item a
def ft_ItemS (a : List XItem) : Prop := a.length ≤ maxLen ∧ ∀ x ∈ a, ft_Item x
theorem sz_ItemS (a : List XItem) (l : Int) (h0 : 0 ≤ l) (hB : l ≤ 1048576) (hf : ft_ItemS a) : laws_szItemS w (a, l) = some (szI (mz_ItemS a) l) := by
  apply laws_szItemS_of
  simp only [laws_szItemS_raw, mz_ItemS]
  refine sz_len h0 hB hf.1 fun h => ?_
  have e := loop_sz mz_Item a (fun l i => laws_szItemS_k0 wl (a, l, (i : Int))) 1048576
    (fun l i h1 r h0 hB h2 hk => by
      apply laws_szItemS_l0_of
      have hs := sz_Item (a[i]).1 (a[i]).2.1 (a[i]).2.2.1 (a[i]).2.2.2.1 (a[i]).2.2.2.2.1 (a[i]).2.2.2.2.2 l (by omega) (by omega) (hf.2 _ (List.getElem_mem h1))
      have hs2 : szI (mz_Item a[i]) l = l - mz_Item a[i] := szI_pos h2
      simp only [laws_szItemS_l0, ilt h1, inb_of h1, rd1_get h1, inc h1 (show a.length ≤ maxLen from hf.1), cond_true, hs, Option.bind_some]
      simp only [show szI (mz_Item ((a[i]).1, (a[i]).2.1, (a[i]).2.2.1, (a[i]).2.2.2.1, (a[i]).2.2.2.2.1, (a[i]).2.2.2.2.2)) l = l - mz_Item a[i] from hs2, df (show ¬ l - (mz_Item a[i] : Int) < 0 by omega), cond_false]
      exact hk)
    (fun l i h1 h0 hB h2 => by
      apply laws_szItemS_l0_of
      have hs := sz_Item (a[i]).1 (a[i]).2.1 (a[i]).2.2.1 (a[i]).2.2.2.1 (a[i]).2.2.2.2.1 (a[i]).2.2.2.2.2 l (by omega) (by omega) (hf.2 _ (List.getElem_mem h1))
      have hs2 : szI (mz_Item a[i]) l = -1 := szI_neg h2
      simp only [laws_szItemS_l0, ilt h1, inb_of h1, rd1_get h1, cond_true, hs, Option.bind_some]
      simp only [show szI (mz_Item ((a[i]).1, (a[i]).2.1, (a[i]).2.2.1, (a[i]).2.2.2.1, (a[i]).2.2.2.2.1, (a[i]).2.2.2.2.2)) l = -1 from hs2, dt (show (-1 : Int) < 0 by omega), cond_true])
    (fun l => by
      apply laws_szItemS_l0_of
      simp only [laws_szItemS_l0, ilt_self, cond_false])
    (l - a.length) (by omega) (by omega)
  have hl := hf.1
  simp only [maxLen] at hl
  rw [w64 (by omega) (by omega)]
  simp only [Int.natCast_zero] at e
  rw [e, Option.bind_some, elim_szR]
def mz_FloorS (a : List XFloor) : Nat := a.length
def ft_FloorS (a : List XFloor) : Prop := a.length ≤ maxLen
theorem sz_FloorS (a : List XFloor) (l : Int) (h0 : 0 ≤ l) (hB : l ≤ 1048576) (hf : ft_FloorS a) : laws_szFloorS w (a, l) = some (szI (mz_FloorS a) l) := by
  apply laws_szFloorS_of
  simp only [laws_szFloorS_raw]
  exact sz_len (m := 0) h0 hB hf fun h => by rw [w64 (by omega) (by omega)]; exact sz_last (by omega)
def mz_State (x : XState) : Nat := mz_ItemS x.1 + mz_FloorS x.2
def ft_State (x : XState) : Prop := ft_ItemS x.1 ∧ ft_FloorS x.2
theorem fit_State {x : XState} (h : FitV tState x) : ft_State x := ⟨⟨h.1.1, fun y hy => fit_Item (h.1.2 y hy)⟩, h.2.1.1⟩
theorem sz_State (a0 : List XItem) (a1 : List XFloor) (l : Int) (h0 : 0 ≤ l) (hB : l ≤ 1048576) (hf : ft_State (a0, a1)) : laws_szState w (a0, a1, l) = some (szI (mz_State (a0, a1)) l) := by
  apply laws_szState_of
  simp only [ft_State] at hf
  have e : mz_State (a0, a1) = (mz_ItemS a0 + (mz_FloorS a1 + 0)) := by simp only [mz_State]; omega
  rw [e]
  simp only [laws_szState_raw]
  refine sz_bind (by omega) (sz_ItemS a0 _ (by omega) (by omega) (hf.1)) fun _ => ?_
  refine sz_bind (by omega) (sz_FloorS a1 _ (by omega) (by omega) (hf.2)) fun _ => ?_
  exact sz_last (by omega)
def mz_StateS (a : List XState) : Nat := a.length + sumL mz_State a
def ft_StateS (a : List XState) : Prop := a.length ≤ maxLen ∧ ∀ x ∈ a, ft_State x
theorem sz_StateS (a : List XState) (l : Int) (h0 : 0 ≤ l) (hB : l ≤ 1048576) (hf : ft_StateS a) : laws_szStateS w (a, l) = some (szI (mz_StateS a) l) := by
  apply laws_szStateS_of
  simp only [laws_szStateS_raw, mz_StateS]
  refine sz_len h0 hB hf.1 fun h => ?_
  have e := loop_sz mz_State a (fun l i => laws_szStateS_k0 wl (a, l, (i : Int))) 1048576
    (fun l i h1 r h0 hB h2 hk => by
      apply laws_szStateS_l0_of
      have hs := sz_State (a[i]).1 (a[i]).2 l (by omega) (by omega) (hf.2 _ (List.getElem_mem h1))
      have hs2 : szI (mz_State a[i]) l = l - mz_State a[i] := szI_pos h2
      simp only [laws_szStateS_l0, ilt h1, inb_of h1, rd1_get h1, inc h1 (show a.length ≤ maxLen from hf.1), cond_true, hs, Option.bind_some]
      simp only [show szI (mz_State ((a[i]).1, (a[i]).2)) l = l - mz_State a[i] from hs2, df (show ¬ l - (mz_State a[i] : Int) < 0 by omega), cond_false]
      exact hk)
    (fun l i h1 h0 hB h2 => by
      apply laws_szStateS_l0_of
      have hs := sz_State (a[i]).1 (a[i]).2 l (by omega) (by omega) (hf.2 _ (List.getElem_mem h1))
      have hs2 : szI (mz_State a[i]) l = -1 := szI_neg h2
      simp only [laws_szStateS_l0, ilt h1, inb_of h1, rd1_get h1, cond_true, hs, Option.bind_some]
      simp only [show szI (mz_State ((a[i]).1, (a[i]).2)) l = -1 from hs2, dt (show (-1 : Int) < 0 by omega), cond_true])
    (fun l => by
      apply laws_szStateS_l0_of
      simp only [laws_szStateS_l0, ilt_self, cond_false])
    (l - a.length) (by omega) (by omega)
  have hl := hf.1
  simp only [maxLen] at hl
  rw [w64 (by omega) (by omega)]
  simp only [Int.natCast_zero] at e
  rw [e, Option.bind_some, elim_szR]
theorem to_Entry (a0 : Int) (a1 : Int) (a2 : Int) (a3 : Int) (a4 : ByteArray) (h : mz_Entry (a0, a1, a2, a3, a4) ≤ 4294967296) : laws_toEntry w (a0, a1, a2, a3, a4) = some (a0, a1, a2, a3, a4) := by
  apply laws_toEntry_of
  simp only [mz_Entry] at h
  simp only [laws_toEntry_raw]
theorem to_Item (a0 : Int) (a1 : Int) (a2 : Int) (a3 : Int) (a4 : Int) (a5 : ByteArray) (h : mz_Item (a0, a1, a2, a3, a4, a5) ≤ 4294967296) : laws_toItem w (a0, a1, a2, a3, a4, a5) = some (a0, a1, a2, a3, a4, a5) := by
  apply laws_toItem_of
  simp only [mz_Item] at h
  simp only [laws_toItem_raw, to_Entry a1 a2 a3 a4 a5 (by omega), Option.bind_some]
theorem to_ItemS (a : List XItem) (h : mz_ItemS a ≤ 4294967296) : laws_toItemS w a = some a := by
  apply laws_toItemS_of
  simp only [mz_ItemS] at h
  have e := loop_map a (fun x => x) (fun i out => laws_toItemS_k0 wl (a, (i : Int), out)) (fun out => out)
    (fun i h1 out r ho hk => by
      apply laws_toItemS_l0_of
      have hb := sumL_get mz_Item a i h1
      simp only [laws_toItemS_l0, ilt h1, ho, inb_of h1, rd1_get h1, inc h1 (show a.length ≤ maxLen by simp [maxLen]; omega), cond_true, Int.toNat_natCast, to_Item (a[i]).1 (a[i]).2.1 (a[i]).2.2.1 (a[i]).2.2.2.1 (a[i]).2.2.2.2.1 (a[i]).2.2.2.2.2 (show mz_Item a[i] ≤ 4294967296 by omega), Option.bind_some]
      exact hk)
    (fun out ho => by
      apply laws_toItemS_l0_of
      simp only [laws_toItemS_l0, ilt_self, cond_false])
    (List.replicate a.length (0, 0, 0, 0, 0, ByteArray.empty)) (by simp)
  rw [List.map_id'] at e
  have hf : fits a.length 56 = true := fits_of (by omega)
  simp only [laws_toItemS_raw, Int.toNat_natCast, hf]
  simp
  exact e
theorem to_Floor (a0 : Int) (a1 : Int) : laws_toFloor w (a0, a1) = some (a0, a1) := by
  apply laws_toFloor_of
  simp only [laws_toFloor_raw]
theorem to_FloorS (a : List XFloor) (h : mz_FloorS a ≤ 4294967296) : laws_toFloorS w a = some a := by
  apply laws_toFloorS_of
  simp only [mz_FloorS] at h
  have e := loop_map a (fun x => x) (fun i out => laws_toFloorS_k0 wl (a, (i : Int), out)) (fun out => out)
    (fun i h1 out r ho hk => by
      apply laws_toFloorS_l0_of
      simp only [laws_toFloorS_l0, ilt h1, ho, inb_of h1, rd1_get h1, inc h1 (show a.length ≤ maxLen by simp [maxLen]; omega), cond_true, Int.toNat_natCast, to_Floor (a[i]).1 (a[i]).2, Option.bind_some]
      exact hk)
    (fun out ho => by
      apply laws_toFloorS_l0_of
      simp only [laws_toFloorS_l0, ilt_self, cond_false])
    (List.replicate a.length (0, 0)) (by simp)
  rw [List.map_id'] at e
  have hf : fits a.length 16 = true := fits_of (by omega)
  simp only [laws_toFloorS_raw, Int.toNat_natCast, hf]
  simp
  exact e
theorem to_State (a0 : List XItem) (a1 : List XFloor) (h : mz_State (a0, a1) ≤ 4294967296) : laws_toState w (a0, a1) = some (a0, a1) := by
  apply laws_toState_of
  simp only [mz_State] at h
  simp only [laws_toState_raw, to_ItemS a0 (by omega), to_FloorS a1 (by omega), Option.bind_some]
theorem to_StateS (a : List XState) (h : mz_StateS a ≤ 4294967296) : laws_toStateS w a = some a := by
  apply laws_toStateS_of
  simp only [mz_StateS] at h
  have e := loop_map a (fun x => x) (fun i out => laws_toStateS_k0 wl (a, (i : Int), out)) (fun out => out)
    (fun i h1 out r ho hk => by
      apply laws_toStateS_l0_of
      have hb := sumL_get mz_State a i h1
      simp only [laws_toStateS_l0, ilt h1, ho, inb_of h1, rd1_get h1, inc h1 (show a.length ≤ maxLen by simp [maxLen]; omega), cond_true, Int.toNat_natCast, to_State (a[i]).1 (a[i]).2 (show mz_State a[i] ≤ 4294967296 by omega), Option.bind_some]
      exact hk)
    (fun out ho => by
      apply laws_toStateS_l0_of
      simp only [laws_toStateS_l0, ilt_self, cond_false])
    (List.replicate a.length ([], [])) (by simp)
  rw [List.map_id'] at e
  have hf : fits a.length 48 = true := fits_of (by omega)
  simp only [laws_toStateS_raw, Int.toNat_natCast, hf]
  simp
  exact e
theorem eq_Entry (a0 : Int) (a1 : Int) (a2 : Int) (a3 : Int) (a4 : ByteArray) (h : mz_Entry (a0, a1, a2, a3, a4) ≤ 4294967296) : laws_eqEntry w (a0, a1, a2, a3, a4, a0, a1, a2, a3, a4) = some true := by
  apply laws_eqEntry_of
  simp only [mz_Entry] at h
  simp only [laws_eqEntry_raw, decide_true, Bool.not_true, cond_false, beqS_refl, beq_self_eq_true, Option.bind_some]
theorem eq_Item (a0 : Int) (a1 : Int) (a2 : Int) (a3 : Int) (a4 : Int) (a5 : ByteArray) (h : mz_Item (a0, a1, a2, a3, a4, a5) ≤ 4294967296) : laws_eqItem w (a0, a1, a2, a3, a4, a5, a0, a1, a2, a3, a4, a5) = some true := by
  apply laws_eqItem_of
  simp only [mz_Item] at h
  simp only [laws_eqItem_raw, eq_Entry a1 a2 a3 a4 a5 (by omega), decide_true, Bool.not_true, cond_false, beqS_refl, beq_self_eq_true, Option.bind_some]
theorem eq_ItemS (a : List XItem) (h : mz_ItemS a ≤ 4294967296) : laws_eqItemS w (a, a) = some true := by
  apply laws_eqItemS_of
  simp only [mz_ItemS] at h
  have e := loop_all a.length (fun i => laws_eqItemS_k0 wl (a, a, (i : Int))) (.inr ())
    (fun i h1 r hk => by
      apply laws_eqItemS_l0_of
      have hb := sumL_get mz_Item a i h1
      simp only [laws_eqItemS_l0, ilt h1, inb_of h1, rd1_get h1, inc h1 (show a.length ≤ maxLen by simp [maxLen]; omega), cond_true, decide_true, Bool.not_true, cond_false, beqS_refl, beq_self_eq_true, eq_Item (a[i]).1 (a[i]).2.1 (a[i]).2.2.1 (a[i]).2.2.2.1 (a[i]).2.2.2.2.1 (a[i]).2.2.2.2.2 (show mz_Item a[i] ≤ 4294967296 by omega), Option.bind_some]
      exact hk)
    (by
      apply laws_eqItemS_l0_of
      simp only [laws_eqItemS_l0, ilt_self, cond_false])
  simp only [Int.natCast_zero] at e
  simp only [laws_eqItemS_raw, decide_true, Bool.not_true, cond_false, e, Option.bind_some, elimS, Sum.elim_inr]
theorem eq_Floor (a0 : Int) (a1 : Int) : laws_eqFloor w (a0, a1, a0, a1) = some true := by
  apply laws_eqFloor_of
  simp only [laws_eqFloor_raw, decide_true, Bool.not_true, cond_false, beqS_refl, beq_self_eq_true, Option.bind_some]
theorem eq_FloorS (a : List XFloor) (h : mz_FloorS a ≤ 4294967296) : laws_eqFloorS w (a, a) = some true := by
  apply laws_eqFloorS_of
  simp only [mz_FloorS] at h
  have e := loop_all a.length (fun i => laws_eqFloorS_k0 wl (a, a, (i : Int))) (.inr ())
    (fun i h1 r hk => by
      apply laws_eqFloorS_l0_of
      simp only [laws_eqFloorS_l0, ilt h1, inb_of h1, rd1_get h1, inc h1 (show a.length ≤ maxLen by simp [maxLen]; omega), cond_true, decide_true, Bool.not_true, cond_false, beqS_refl, beq_self_eq_true, eq_Floor (a[i]).1 (a[i]).2, Option.bind_some]
      exact hk)
    (by
      apply laws_eqFloorS_l0_of
      simp only [laws_eqFloorS_l0, ilt_self, cond_false])
  simp only [Int.natCast_zero] at e
  simp only [laws_eqFloorS_raw, decide_true, Bool.not_true, cond_false, e, Option.bind_some, elimS, Sum.elim_inr]
theorem eq_State (a0 : List XItem) (a1 : List XFloor) (h : mz_State (a0, a1) ≤ 4294967296) : laws_eqState w (a0, a1, a0, a1) = some true := by
  apply laws_eqState_of
  simp only [mz_State] at h
  simp only [laws_eqState_raw, eq_ItemS a0 (by omega), eq_FloorS a1 (by omega), decide_true, Bool.not_true, cond_false, beqS_refl, beq_self_eq_true, Option.bind_some]
theorem eq_StateS (a : List XState) (h : mz_StateS a ≤ 4294967296) : laws_eqStateS w (a, a) = some true := by
  apply laws_eqStateS_of
  simp only [mz_StateS] at h
  have e := loop_all a.length (fun i => laws_eqStateS_k0 wl (a, a, (i : Int))) (.inr ())
    (fun i h1 r hk => by
      apply laws_eqStateS_l0_of
      have hb := sumL_get mz_State a i h1
      simp only [laws_eqStateS_l0, ilt h1, inb_of h1, rd1_get h1, inc h1 (show a.length ≤ maxLen by simp [maxLen]; omega), cond_true, decide_true, Bool.not_true, cond_false, beqS_refl, beq_self_eq_true, eq_State (a[i]).1 (a[i]).2 (show mz_State a[i] ≤ 4294967296 by omega), Option.bind_some]
      exact hk)
    (by
      apply laws_eqStateS_l0_of
      simp only [laws_eqStateS_l0, ilt_self, cond_false])
  simp only [Int.natCast_zero] at e
  simp only [laws_eqStateS_raw, decide_true, Bool.not_true, cond_false, e, Option.bind_some, elimS, Sum.elim_inr]
def mz_Tree (x : XTree) : Nat := mz_IntS x.1
def ft_Tree (x : XTree) : Prop := ft_IntS x.1
theorem fit_Tree {x : XTree} (h : FitV tTree x) : ft_Tree x := h.1.1
def mz_MarkS (a : List XFloor) : Nat := a.length
def ft_MarkS (a : List XFloor) : Prop := a.length ≤ maxLen
def mz_Msg (x : XMsg) : Nat := mz_Tree (x.2.2.2.2.2.1, x.2.2.2.2.2.2.1) + mz_IntS x.2.2.2.2.2.2.2.1 + mz_IntS x.2.2.2.2.2.2.2.2.1 + mz_State (x.2.2.2.2.2.2.2.2.2.1, x.2.2.2.2.2.2.2.2.2.2.1) + mz_MarkS x.2.2.2.2.2.2.2.2.2.2.2
def ft_Msg (x : XMsg) : Prop := ft_Tree (x.2.2.2.2.2.1, x.2.2.2.2.2.2.1) ∧ ft_IntS x.2.2.2.2.2.2.2.1 ∧ ft_IntS x.2.2.2.2.2.2.2.2.1 ∧ ft_State (x.2.2.2.2.2.2.2.2.2.1, x.2.2.2.2.2.2.2.2.2.2.1) ∧ ft_MarkS x.2.2.2.2.2.2.2.2.2.2.2
theorem fit_Msg {x : XMsg} (h : FitV tMsg x) : ft_Msg x := ⟨fit_Tree ⟨h.2.2.2.2.2.1, h.2.2.2.2.2.2.1, trivial⟩, h.2.2.2.2.2.2.2.1.1, h.2.2.2.2.2.2.2.2.1.1, fit_State ⟨h.2.2.2.2.2.2.2.2.2.1, h.2.2.2.2.2.2.2.2.2.2.1, trivial⟩, h.2.2.2.2.2.2.2.2.2.2.2.1.1⟩
def mz_Log (x : XLog) : Nat := mz_StateS x.2.2
def ft_Log (x : XLog) : Prop := ft_StateS x.2.2
theorem fit_Log {x : XLog} (h : FitV tLog x) : ft_Log x := ⟨h.2.2.1.1, fun y hy => fit_State (h.2.2.1.2 y hy)⟩
def mz_IntSS (a : List (List Int)) : Nat := a.length + sumL mz_IntS a
def ft_IntSS (a : List (List Int)) : Prop := a.length ≤ maxLen ∧ ∀ x ∈ a, ft_IntS x
def mz_SessS (a : List XSess) : Nat := a.length
def ft_SessS (a : List XSess) : Prop := a.length ≤ maxLen
def mz_RiseS (a : List XRise) : Nat := a.length
def ft_RiseS (a : List XRise) : Prop := a.length ≤ maxLen
def mz_Node (x : XNode) : Nat := mz_State (x.2.2.1, x.2.2.2.1) + mz_Tree (x.2.2.2.2.1, x.2.2.2.2.2.1) + mz_Log (x.2.2.2.2.2.2.1, x.2.2.2.2.2.2.2.1, x.2.2.2.2.2.2.2.2.1) + mz_IntS x.2.2.2.2.2.2.2.2.2.1 + mz_IntS x.2.2.2.2.2.2.2.2.2.2.1 + mz_IntSS x.2.2.2.2.2.2.2.2.2.2.2.1 + mz_SessS x.2.2.2.2.2.2.2.2.2.2.2.2.2.2.1 + mz_RiseS x.2.2.2.2.2.2.2.2.2.2.2.2.2.2.2.2.2.2
def ft_Node (x : XNode) : Prop := ft_State (x.2.2.1, x.2.2.2.1) ∧ ft_Tree (x.2.2.2.2.1, x.2.2.2.2.2.1) ∧ ft_Log (x.2.2.2.2.2.2.1, x.2.2.2.2.2.2.2.1, x.2.2.2.2.2.2.2.2.1) ∧ ft_IntS x.2.2.2.2.2.2.2.2.2.1 ∧ ft_IntS x.2.2.2.2.2.2.2.2.2.2.1 ∧ ft_IntSS x.2.2.2.2.2.2.2.2.2.2.2.1 ∧ ft_SessS x.2.2.2.2.2.2.2.2.2.2.2.2.2.2.1 ∧ ft_RiseS x.2.2.2.2.2.2.2.2.2.2.2.2.2.2.2.2.2.2
theorem fit_Node {x : XNode} (h : FitV tNode x) : ft_Node x := ⟨fit_State ⟨h.2.2.1, h.2.2.2.1, trivial⟩, fit_Tree ⟨h.2.2.2.2.1, h.2.2.2.2.2.1, trivial⟩, fit_Log ⟨h.2.2.2.2.2.2.1, h.2.2.2.2.2.2.2.1, h.2.2.2.2.2.2.2.2.1, trivial⟩, h.2.2.2.2.2.2.2.2.2.1.1, h.2.2.2.2.2.2.2.2.2.2.1.1, ⟨h.2.2.2.2.2.2.2.2.2.2.2.1.1, fun y hy => ((h.2.2.2.2.2.2.2.2.2.2.2.1.2 y hy).1).1⟩, h.2.2.2.2.2.2.2.2.2.2.2.2.2.2.1.1, h.2.2.2.2.2.2.2.2.2.2.2.2.2.2.2.2.2.2.1.1⟩
theorem markText_loop : ∀ (n : Nat) (k : Int) (out : ByteArray), 0 ≤ k → k ≤ 9223372036854775807 → k < 10 ^ n → ByteArray.size out + n ≤ 100000 → ∃ r, laws_markText_k0 wl (k, out) = some r ∧ ByteArray.size r ≤ 100000 := by
  intro n
  induction n with
  | zero =>
    intro k out h0 hm h1 h2
    have : k = 0 := by omega
    subst this
    refine ⟨out, ?_, by omega⟩
    apply laws_markText_l0_of
    simp only [laws_markText_l0, df (show ¬ (0 : Int) < 0 by omega), cond_false]
  | succ n ih =>
    intro k out h0 hm h1 h2
    by_cases hk : 0 < k
    · have hd := Int.tdiv_eq_ediv_of_nonneg (b := 10) h0
      obtain ⟨r, hr, hs⟩ := ih (Int.tdiv k 10) (toBytes [IntKind.wrap .u8 (IntKind.wrap .i64 (48 + Int.tmod k 10))] ++ out) (by omega) (by omega) (by rw [Int.pow_succ] at h1; omega) (by rw [ByteArray.size_append, toBytes_size]; simp; omega)
      refine ⟨r, ?_, hs⟩
      apply laws_markText_l0_of
      simp only [laws_markText_l0, dt hk, cond_true, dt (show (10 : Int) ≠ 0 by omega), toBytes_size, fits_of (show (List.length [IntKind.wrap .u8 (IntKind.wrap .i64 (48 + Int.tmod k 10))] + ByteArray.size out) * 1 ≤ 140737488351232 by simp; omega)]
      rw [w64 (n := Int.tdiv k 10) (by omega) (by omega)]
      exact hr
    · have : k = 0 := by omega
      subst this
      refine ⟨out, ?_, by omega⟩
      apply laws_markText_l0_of
      simp only [laws_markText_l0, df (show ¬ (0 : Int) < 0 by omega), cond_false]
noncomputable def markT (k : Int) : ByteArray := (laws_markText w k).getD ByteArray.empty
theorem markText_ok (k : Int) (h0 : 0 < k) (hm : k ≤ 9223372036854775807) : laws_markText w k = some (markT k) := by
  obtain ⟨r, hr, hs⟩ := markText_loop 30 k (⟨#[]⟩ : ByteArray) (by omega) hm (by omega) (by show 0 + 30 ≤ 100000; omega)
  have : laws_markText w k = some ((⟨#[109]⟩ : ByteArray) ++ r) := by
    apply laws_markText_of
    have h1 : ByteArray.size (⟨#[109]⟩ : ByteArray) = 1 := rfl
    simp only [laws_markText_raw, df (show ¬ k ≤ 0 by omega), cond_false, hr, Option.bind_some, fits_of (show (ByteArray.size (⟨#[109]⟩ : ByteArray) + ByteArray.size r) * 1 ≤ 140737488351232 by omega), cond_true]
  rw [markT, this]; rfl
theorem sumc_IntS (a : List Int) : sumL (fun _ => 1) a ≤ 64 * mz_IntS a := by
  have h := sumL_lin0 (fun _ => 1) (fun _ => by omega) a
  simp only [mz_IntS]; omega
noncomputable def mkf_Entry (x : XEntry) (n : Int) : XEntry := (n, (n + 1), ((n + 1) + 1), (((n + 1) + 1) + 1), markT ((((n + 1) + 1) + 1) + 1))
def mkc_Entry (x : XEntry) : Nat := 5
theorem mkc_le_Entry (x : XEntry) : mkc_Entry x ≤ 64 * (mz_Entry x + 1) := by
  simp only [mkc_Entry, mz_Entry]; omega
noncomputable def mkf_Item (x : XItem) (n : Int) : XItem := (n, (n + 1), ((n + 1) + 1), (((n + 1) + 1) + 1), ((((n + 1) + 1) + 1) + 1), markT (((((n + 1) + 1) + 1) + 1) + 1))
def mkc_Item (x : XItem) : Nat := 6
theorem mkc_le_Item (x : XItem) : mkc_Item x ≤ 64 * (mz_Item x + 1) := by
  simp only [mkc_Item, mz_Entry, mz_Item]; omega
theorem sumc_ItemS (a : List XItem) : sumL mkc_Item a ≤ 64 * mz_ItemS a := by
  have h := sumL_lin mkc_Item mz_Item (fun x => mkc_le_Item x) a
  simp only [mz_ItemS]; omega
theorem mark_ItemS (a : List XItem) (k : Int) (hk : 0 < k) (hs : k + ((sumL mkc_Item a : Nat) : Int) ≤ 1152921504606846976) (h : mz_ItemS a ≤ 4294967296) : laws_markItemS w (a, k) = some (k + ((sumL mkc_Item a : Nat) : Int), markL mkf_Item mkc_Item a k) := by
  apply laws_markItemS_of
  simp only [mz_ItemS] at h
  have e := loop_mark mkf_Item mkc_Item a (fun k i ys => laws_markItemS_k0 wl (k, (i : Int), ys)) (fun k ys => (k, ys)) 1152921504606846976
    (fun k i ys h1 r hy hm h0 hB hk => by
      apply laws_markItemS_l0_of
      have hb := sumL_mem mz_Item hm
      simp only [mkc_Item] at hB
      have hw0 : IntKind.wrap .i64 (k + 1) = k + 1 := w64 (by omega) (by omega)
      have hw1 : IntKind.wrap .i64 ((k + 1) + 1) = (k + 1) + 1 := w64 (by omega) (by omega)
      have hw2 : IntKind.wrap .i64 (((k + 1) + 1) + 1) = ((k + 1) + 1) + 1 := w64 (by omega) (by omega)
      have hw3 : IntKind.wrap .i64 ((((k + 1) + 1) + 1) + 1) = (((k + 1) + 1) + 1) + 1 := w64 (by omega) (by omega)
      have hw4 : IntKind.wrap .i64 (((((k + 1) + 1) + 1) + 1) + 1) = ((((k + 1) + 1) + 1) + 1) + 1 := w64 (by omega) (by omega)
      have hw5 : IntKind.wrap .i64 ((((((k + 1) + 1) + 1) + 1) + 1) + 1) = (((((k + 1) + 1) + 1) + 1) + 1) + 1 := w64 (by omega) (by omega)
      have ht5 := markText_ok (((((k + 1) + 1) + 1) + 1) + 1) (by omega) (by omega)
      simp only [laws_markItemS_l0, ilt h1, inb_of h1, rd1_get h1, rd1_set h1, List.length_set, List.set_set, inc h1 (show ys.length ≤ maxLen by simp [maxLen]; omega), cond_true, Int.toNat_natCast, Option.bind_some, dt (show (3 : Int) ≠ 0 by omega), hw0, hw1, hw2, hw3, hw4, hw5, ht5]
      have hk : laws_markItemS_k0 wl (k + ((6 : Nat) : Int), ((i + 1 : Nat) : Int), ys.set i (k, (k + 1), ((k + 1) + 1), (((k + 1) + 1) + 1), ((((k + 1) + 1) + 1) + 1), markT (((((k + 1) + 1) + 1) + 1) + 1))) = some r := hk
      rw [show k + ((6 : Nat) : Int) = ((((((k + 1) + 1) + 1) + 1) + 1) + 1) by omega] at hk
      exact hk)
    (fun k ys hy => by
      apply laws_markItemS_l0_of
      simp only [laws_markItemS_l0, ← hy, ilt_self, cond_false])
    k hk hs
  simp only [Int.natCast_zero] at e
  simp only [laws_markItemS_raw, e, Option.bind_some]
theorem held_ItemS (a : List XItem) (k : Int) (hk : 0 < k) (hs : k + ((sumL mkc_Item a : Nat) : Int) ≤ 1152921504606846976) (h : mz_ItemS a ≤ 4294967296) : laws_heldItemS w (markL mkf_Item mkc_Item a k, k) = some (k + ((sumL mkc_Item a : Nat) : Int)) := by
  apply laws_heldItemS_of
  simp only [mz_ItemS] at h
  have hl : (markL mkf_Item mkc_Item a k).length = a.length := markL_length _ _ a k
  have e := loop_held mkf_Item mkc_Item a k (fun l i => laws_heldItemS_k0 wl ((markL mkf_Item mkc_Item a k), l, (i : Int))) 1152921504606846976
    (fun k1 i h1 x r hx hm h0 hB hk => by
      apply laws_heldItemS_l0_of
      have hb := sumL_mem mz_Item hx
      simp only [mkc_Item] at hB
      simp only [mkf_Item] at hm
      have hw0 : IntKind.wrap .i64 (k1 + 1) = k1 + 1 := w64 (by omega) (by omega)
      have hw1 : IntKind.wrap .i64 ((k1 + 1) + 1) = (k1 + 1) + 1 := w64 (by omega) (by omega)
      have hw2 : IntKind.wrap .i64 (((k1 + 1) + 1) + 1) = ((k1 + 1) + 1) + 1 := w64 (by omega) (by omega)
      have hw3 : IntKind.wrap .i64 ((((k1 + 1) + 1) + 1) + 1) = (((k1 + 1) + 1) + 1) + 1 := w64 (by omega) (by omega)
      have hw4 : IntKind.wrap .i64 (((((k1 + 1) + 1) + 1) + 1) + 1) = ((((k1 + 1) + 1) + 1) + 1) + 1 := w64 (by omega) (by omega)
      have hw5 : IntKind.wrap .i64 ((((((k1 + 1) + 1) + 1) + 1) + 1) + 1) = (((((k1 + 1) + 1) + 1) + 1) + 1) + 1 := w64 (by omega) (by omega)
      have ht5 := markText_ok (((((k1 + 1) + 1) + 1) + 1) + 1) (by omega) (by omega)
      simp only [laws_heldItemS_l0, ilt h1, inb_of h1, rd1_get h1, hm, inc h1 (show (markL mkf_Item mkc_Item a k).length ≤ maxLen by rw [hl]; simp [maxLen]; omega), cond_true, cond_false, decide_true, Bool.not_true, beqS_refl, beq_self_eq_true, Option.bind_some, dt (show (3 : Int) ≠ 0 by omega), hw0, hw1, hw2, hw3, hw4, hw5, ht5]
      have hk : laws_heldItemS_k0 wl ((markL mkf_Item mkc_Item a k), k1 + ((6 : Nat) : Int), ((i + 1 : Nat) : Int)) = some r := hk
      rw [show k1 + ((6 : Nat) : Int) = ((((((k1 + 1) + 1) + 1) + 1) + 1) + 1) by omega] at hk
      exact hk)
    (fun l => by
      apply laws_heldItemS_l0_of
      simp only [laws_heldItemS_l0, hl, ilt_self, cond_false])
    hk hs
  simp only [Int.natCast_zero] at e
  simp only [laws_heldItemS_raw, e, Option.bind_some, elimS, Sum.elim_inr]
noncomputable def mkf_Floor (x : XFloor) (n : Int) : XFloor := (n, (n + 1))
def mkc_Floor (x : XFloor) : Nat := 2
theorem mkc_le_Floor (x : XFloor) : mkc_Floor x ≤ 64 := by
  simp only [mkc_Floor]; omega
theorem sumc_FloorS (a : List XFloor) : sumL mkc_Floor a ≤ 64 * mz_FloorS a := by
  have h := sumL_lin0 mkc_Floor (fun x => mkc_le_Floor x) a
  simp only [mz_FloorS]; omega
theorem mark_FloorS (a : List XFloor) (k : Int) (hk : 0 < k) (hs : k + ((sumL mkc_Floor a : Nat) : Int) ≤ 1152921504606846976) (h : mz_FloorS a ≤ 4294967296) : laws_markFloorS w (a, k) = some (k + ((sumL mkc_Floor a : Nat) : Int), markL mkf_Floor mkc_Floor a k) := by
  apply laws_markFloorS_of
  simp only [mz_FloorS] at h
  have e := loop_mark mkf_Floor mkc_Floor a (fun k i ys => laws_markFloorS_k0 wl (k, (i : Int), ys)) (fun k ys => (k, ys)) 1152921504606846976
    (fun k i ys h1 r hy hm h0 hB hk => by
      apply laws_markFloorS_l0_of
      simp only [mkc_Floor] at hB
      have hw0 : IntKind.wrap .i64 (k + 1) = k + 1 := w64 (by omega) (by omega)
      have hw1 : IntKind.wrap .i64 ((k + 1) + 1) = (k + 1) + 1 := w64 (by omega) (by omega)
      simp only [laws_markFloorS_l0, ilt h1, inb_of h1, rd1_get h1, rd1_set h1, List.length_set, List.set_set, inc h1 (show ys.length ≤ maxLen by simp [maxLen]; omega), cond_true, Int.toNat_natCast, Option.bind_some, dt (show (3 : Int) ≠ 0 by omega), hw0, hw1]
      have hk : laws_markFloorS_k0 wl (k + ((2 : Nat) : Int), ((i + 1 : Nat) : Int), ys.set i (k, (k + 1))) = some r := hk
      rw [show k + ((2 : Nat) : Int) = ((k + 1) + 1) by omega] at hk
      exact hk)
    (fun k ys hy => by
      apply laws_markFloorS_l0_of
      simp only [laws_markFloorS_l0, ← hy, ilt_self, cond_false])
    k hk hs
  simp only [Int.natCast_zero] at e
  simp only [laws_markFloorS_raw, e, Option.bind_some]
noncomputable def mkf_State (x : XState) (n : Int) : XState := (markL mkf_Item mkc_Item x.1 n, markL mkf_Floor mkc_Floor x.2 (n + ((sumL mkc_Item x.1 : Nat) : Int)))
def mkc_State (x : XState) : Nat := sumL mkc_Item x.1 + sumL mkc_Floor x.2
theorem mkc_le_State (x : XState) : mkc_State x ≤ 64 * (mz_State x + 1) := by
  have h0 := sumc_ItemS x.1
  have h1 := sumc_FloorS x.2
  simp only [mkc_State, mz_State]; omega
theorem sumc_StateS (a : List XState) : sumL mkc_State a ≤ 64 * mz_StateS a := by
  have h := sumL_lin mkc_State mz_State (fun x => mkc_le_State x) a
  simp only [mz_StateS]; omega
theorem mark_StateS (a : List XState) (k : Int) (hk : 0 < k) (hs : k + ((sumL mkc_State a : Nat) : Int) ≤ 1152921504606846976) (h : mz_StateS a ≤ 4294967296) : laws_markStateS w (a, k) = some (k + ((sumL mkc_State a : Nat) : Int), markL mkf_State mkc_State a k) := by
  apply laws_markStateS_of
  simp only [mz_StateS] at h
  have e := loop_mark mkf_State mkc_State a (fun k i ys => laws_markStateS_k0 wl (k, (i : Int), ys)) (fun k ys => (k, ys)) 1152921504606846976
    (fun k i ys h1 r hy hm h0 hB hk => by
      apply laws_markStateS_l0_of
      have hb := sumL_mem mz_State hm
      simp only [mkc_State] at hB
      simp only [mz_State] at hb
      simp only [laws_markStateS_l0, ilt h1, inb_of h1, rd1_get h1, rd1_set h1, List.length_set, List.set_set, inc h1 (show ys.length ≤ maxLen by simp [maxLen]; omega), cond_true, Int.toNat_natCast, Option.bind_some, dt (show (3 : Int) ≠ 0 by omega), mark_ItemS ((ys[i]).1) k (by omega) (by omega) (by first | omega | (simp only [mz_ItemS]; omega)), mark_FloorS ((ys[i]).2) (k + ((sumL mkc_Item ((ys[i]).1) : Nat) : Int)) (by omega) (by omega) (by first | omega | (simp only [mz_FloorS]; omega))]
      have hk : laws_markStateS_k0 wl (k + ((sumL mkc_Item ((ys[i]).1) + sumL mkc_Floor ((ys[i]).2) : Nat) : Int), ((i + 1 : Nat) : Int), ys.set i (markL mkf_Item mkc_Item ((ys[i]).1) k, markL mkf_Floor mkc_Floor ((ys[i]).2) (k + ((sumL mkc_Item ((ys[i]).1) : Nat) : Int)))) = some r := hk
      rw [show k + ((sumL mkc_Item ((ys[i]).1) + sumL mkc_Floor ((ys[i]).2) : Nat) : Int) = ((k + ((sumL mkc_Item ((ys[i]).1) : Nat) : Int)) + ((sumL mkc_Floor ((ys[i]).2) : Nat) : Int)) by omega] at hk
      exact hk)
    (fun k ys hy => by
      apply laws_markStateS_l0_of
      simp only [laws_markStateS_l0, ← hy, ilt_self, cond_false])
    k hk hs
  simp only [Int.natCast_zero] at e
  simp only [laws_markStateS_raw, e, Option.bind_some]
end Go.Proofs.Ytgkobeililjgbaa.M
