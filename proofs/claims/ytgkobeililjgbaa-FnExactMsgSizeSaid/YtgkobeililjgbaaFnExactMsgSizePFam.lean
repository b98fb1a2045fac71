/- What the plain forms that FnExactMsgSize reaches come to: PFam. No conditions but those that each theorem states. -/
import Derived.Test.YtgkobeililjgbaaFnExactMsgSizeRaw0
import Derived.Test.YtgkobeililjgbaaFnExactMsgSizeRaw1
import Derived.Test.YtgkobeililjgbaaFnExactMsgSizeRaw2
import Derived.Test.YtgkobeililjgbaaFnExactMsgSizeRaw3
namespace Go.Proofs.Ytgkobeililjgbaa.M
open Go Go.Eng Go.Proofs
set_option linter.unusedVariables false
def mz_IntS (a : List Int) : Nat := a.length
def ft_IntS (a : List Int) : Prop := a.length ≤ maxLen
theorem to_IntS (a : List Int) (h : mz_IntS a ≤ 4294967296) : laws_toIntS w a = some a := by
  apply laws_toIntS_of
  simp only [mz_IntS] at h
  have e := loop_map a (fun x => x) (fun i out => laws_toIntS_k0 wl (a, (i : Int), out)) (fun out => out)
    (fun i h1 out r ho hk => by
      apply laws_toIntS_l0_of
      simp only [laws_toIntS_l0, ilt h1, ho, inb_of h1, rd1_get h1, inc h1 (show a.length ≤ maxLen by simp [maxLen]; omega), cond_true, Int.toNat_natCast]
      exact hk)
    (fun out ho => by
      apply laws_toIntS_l0_of
      simp only [laws_toIntS_l0, ilt_self, cond_false])
    (List.replicate a.length 0) (by simp)
  rw [List.map_id'] at e
  have hf : fits a.length 8 = true := fits_of (by omega)
  simp only [laws_toIntS_raw, Int.toNat_natCast, hf]
  simp
  exact e
theorem eq_IntS (a : List Int) (h : mz_IntS a ≤ 4294967296) : laws_eqIntS w (a, a) = some true := by
  apply laws_eqIntS_of
  simp only [mz_IntS] at h
  have e := loop_all a.length (fun i => laws_eqIntS_k0 wl (a, a, (i : Int))) (.inr ())
    (fun i h1 r hk => by
      apply laws_eqIntS_l0_of
      simp only [laws_eqIntS_l0, ilt h1, inb_of h1, rd1_get h1, inc h1 (show a.length ≤ maxLen by simp [maxLen]; omega), cond_true, decide_true, Bool.not_true, cond_false, beqS_refl, beq_self_eq_true]
      exact hk)
    (by
      apply laws_eqIntS_l0_of
      simp only [laws_eqIntS_l0, ilt_self, cond_false])
  simp only [Int.natCast_zero] at e
  simp only [laws_eqIntS_raw, decide_true, Bool.not_true, cond_false, e, Option.bind_some, elimS, Sum.elim_inr]
def mz_Entry (x : XEntry) : Nat := ByteArray.size x.2.2.2.2
def ft_Entry (x : XEntry) : Prop := ByteArray.size x.2.2.2.2 ≤ maxLen
theorem fit_Entry {x : XEntry} (h : FitV tEntry x) : ft_Entry x := h.2.2.2.2.1
theorem sz_Entry (a0 : Int) (a1 : Int) (a2 : Int) (a3 : Int) (a4 : ByteArray) (l : Int) (h0 : 0 ≤ l) (hB : l ≤ 1048576) (hf : ft_Entry (a0, a1, a2, a3, a4)) : laws_szEntry w (a0, a1, a2, a3, a4, l) = some (szI (mz_Entry (a0, a1, a2, a3, a4)) l) := by
  apply laws_szEntry_of
  simp only [ft_Entry] at hf
  have e : mz_Entry (a0, a1, a2, a3, a4) = (ByteArray.size a4 + 0) := by simp only [mz_Entry]; omega
  rw [e]
  simp only [laws_szEntry_raw]
  refine sz_len (by omega) (by omega) (hf) fun _ => ?_
  rw [w64 (by omega) (by omega)]
  exact sz_last (by omega)
def mz_Item (x : XItem) : Nat := mz_Entry (x.2.1, x.2.2.1, x.2.2.2.1, x.2.2.2.2.1, x.2.2.2.2.2)
def ft_Item (x : XItem) : Prop := ft_Entry (x.2.1, x.2.2.1, x.2.2.2.1, x.2.2.2.2.1, x.2.2.2.2.2)
theorem fit_Item {x : XItem} (h : FitV tItem x) : ft_Item x := fit_Entry ⟨h.2.1, h.2.2.1, h.2.2.2.1, h.2.2.2.2.1, h.2.2.2.2.2.1, trivial⟩
theorem sz_Item (a0 : Int) (a1 : Int) (a2 : Int) (a3 : Int) (a4 : Int) (a5 : ByteArray) (l : Int) (h0 : 0 ≤ l) (hB : l ≤ 1048576) (hf : ft_Item (a0, a1, a2, a3, a4, a5)) : laws_szItem w (a0, a1, a2, a3, a4, a5, l) = some (szI (mz_Item (a0, a1, a2, a3, a4, a5)) l) := by
  apply laws_szItem_of
  simp only [ft_Item] at hf
  have e : mz_Item (a0, a1, a2, a3, a4, a5) = (mz_Entry (a1, a2, a3, a4, a5) + 0) := by simp only [mz_Item]; omega
  rw [e]
  simp only [laws_szItem_raw]
  refine sz_bind (by omega) (sz_Entry a1 a2 a3 a4 a5 _ (by omega) (by omega) (hf)) fun _ => ?_
  exact sz_last (by omega)
def mz_ItemS (a : List XItem) : Nat := a.length + sumL mz_Item a
def ft_ItemS (a : List XItem) : Prop := a.length ≤ maxLen ∧ ∀ x ∈ a, ft_Item x
theorem sz_ItemS (a : List XItem) (l : Int) (h0 : 0 ≤ l) (hB : l ≤ 1048576) (hf : ft_ItemS a) : laws_szItemS w (a, l) = some (szI (mz_ItemS a) l) := by
  apply laws_szItemS_of
  simp only [laws_szItemS_raw, mz_ItemS]
  refine sz_len h0 hB hf.1 fun h => ?_
  have e := loop_sz mz_Item a (fun l i => laws_szItemS_k0 wl (a, l, (i : Int))) 1048576
    (fun l i h1 r h0 hB h2 hk => by
      apply laws_szItemS_l0_of
      have hs := sz_Item (a[i]).1 (a[i]).2.1 (a[i]).2.2.1 (a[i]).2.2.2.1 (a[i]).2.2.2.2.1 (a[i]).2.2.2.2.2 l (by omega) (by omega) (hf.2 _ (List.getElem_mem h1))
      have hs2 : szI (mz_Item a[i]) l = l - mz_Item a[i] := szI_pos h2
      simp only [laws_szItemS_l0, ilt h1, inb_of h1, rd1_get h1, inc h1 (show a.length ≤ maxLen from hf.1), cond_true, hs, Option.bind_some]
      simp only [show szI (mz_Item ((a[i]).1, (a[i]).2.1, (a[i]).2.2.1, (a[i]).2.2.2.1, (a[i]).2.2.2.2.1, (a[i]).2.2.2.2.2)) l = l - mz_Item a[i] from hs2, df (show ¬ l - (mz_Item a[i] : Int) < 0 by omega), cond_false]
      exact hk)
    (fun l i h1 h0 hB h2 => by
      apply laws_szItemS_l0_of
      have hs := sz_Item (a[i]).1 (a[i]).2.1 (a[i]).2.2.1 (a[i]).2.2.2.1 (a[i]).2.2.2.2.1 (a[i]).2.2.2.2.2 l (by omega) (by omega) (hf.2 _ (List.getElem_mem h1))
      have hs2 : szI (mz_Item a[i]) l = -1 := szI_neg h2
      simp only [laws_szItemS_l0, ilt h1, inb_of h1, rd1_get h1, cond_true, hs, Option.bind_some]
      simp only [show szI (mz_Item ((a[i]).1, (a[i]).2.1, (a[i]).2.2.1, (a[i]).2.2.2.1, (a[i]).2.2.2.2.1, (a[i]).2.2.2.2.2)) l = -1 from hs2, dt (show (-1 : Int) < 0 by omega), cond_true])
    (fun l => by
      apply laws_szItemS_l0_of
      simp only [laws_szItemS_l0, ilt_self, cond_false])
    (l - a.length) (by omega) (by omega)
  have hl := hf.1
  simp only [maxLen] at hl
  rw [w64 (by omega) (by omega)]
  simp only [Int.natCast_zero] at e
  rw [e, Option.bind_some, elim_szR]
def mz_FloorS (a : List XFloor) : Nat := a.length
def ft_FloorS (a : List XFloor) : Prop := a.length ≤ maxLen
theorem sz_FloorS (a : List XFloor) (l : Int) (h0 : 0 ≤ l) (hB : l ≤ 1048576) (hf : ft_FloorS a) : laws_szFloorS w (a, l) = some (szI (mz_FloorS a) l) := by
  apply laws_szFloorS_of
  simp only [laws_szFloorS_raw]
  exact sz_len (m := 0) h0 hB hf fun h => by rw [w64 (by omega) (by omega)]; exact sz_last (by omega)
def mz_State (x : XState) : Nat := mz_ItemS x.1 + mz_FloorS x.2
def ft_State (x : XState) : Prop := ft_ItemS x.1 ∧ ft_FloorS x.2
theorem fit_State {x : XState} (h : FitV tState x) : ft_State x := ⟨⟨h.1.1, fun y hy => fit_Item (h.1.2 y hy)⟩, h.2.1.1⟩
theorem sz_State (a0 : List XItem) (a1 : List XFloor) (l : Int) (h0 : 0 ≤ l) (hB : l ≤ 1048576) (hf : ft_State (a0, a1)) : laws_szState w (a0, a1, l) = some (szI (mz_State (a0, a1)) l) := by
  apply laws_szState_of
  simp only [ft_State] at hf
  have e : mz_State (a0, a1) = (mz_ItemS a0 + (mz_FloorS a1 + 0)) := by simp only [mz_State]; omega
  rw [e]
  simp only [laws_szState_raw]
  refine sz_bind (by omega) (sz_ItemS a0 _ (by omega) (by omega) (hf.1)) fun _ => ?_
  refine sz_bind (by omega) (sz_FloorS a1 _ (by omega) (by omega) (hf.2)) fun _ => ?_
  exact sz_last (by omega)
def mz_StateS (a : List XState) : Nat := a.length + sumL mz_State a
def ft_StateS (a : List XState) : Prop := a.length ≤ maxLen ∧ ∀ x ∈ a, ft_State x
theorem to_Entry (a0 : Int) (a1 : Int) (a2 : Int) (a3 : Int) (a4 : ByteArray) (h : mz_Entry (a0, a1, a2, a3, a4) ≤ 4294967296) : laws_toEntry w (a0, a1, a2, a3, a4) = some (a0, a1, a2, a3, a4) := by
  apply laws_toEntry_of
  simp only [mz_Entry] at h
  simp only [laws_toEntry_raw]
theorem to_Item (a0 : Int) (a1 : Int) (a2 : Int) (a3 : Int) (a4 : Int) (a5 : ByteArray) (h : mz_Item (a0, a1, a2, a3, a4, a5) ≤ 4294967296) : laws_toItem w (a0, a1, a2, a3, a4, a5) = some (a0, a1, a2, a3, a4, a5) := by
  apply laws_toItem_of
  simp only [mz_Item] at h
  simp only [laws_toItem_raw, to_Entry a1 a2 a3 a4 a5 (by omega), Option.bind_some]
theorem to_ItemS (a : List XItem) (h : mz_ItemS a ≤ 4294967296) : laws_toItemS w a = some a := by
  apply laws_toItemS_of
  simp only [mz_ItemS] at h
  have e := loop_map a (fun x => x) (fun i out => laws_toItemS_k0 wl (a, (i : Int), out)) (fun out => out)
    (fun i h1 out r ho hk => by
      apply laws_toItemS_l0_of
      have hb := sumL_get mz_Item a i h1
      simp only [laws_toItemS_l0, ilt h1, ho, inb_of h1, rd1_get h1, inc h1 (show a.length ≤ maxLen by simp [maxLen]; omega), cond_true, Int.toNat_natCast, to_Item (a[i]).1 (a[i]).2.1 (a[i]).2.2.1 (a[i]).2.2.2.1 (a[i]).2.2.2.2.1 (a[i]).2.2.2.2.2 (show mz_Item a[i] ≤ 4294967296 by omega), Option.bind_some]
      exact hk)
    (fun out ho => by
      apply laws_toItemS_l0_of
      simp only [laws_toItemS_l0, ilt_self, cond_false])
    (List.replicate a.length (0, 0, 0, 0, 0, ByteArray.empty)) (by simp)
  rw [List.map_id'] at e
  have hf : fits a.length 56 = true := fits_of (by omega)
  simp only [laws_toItemS_raw, Int.toNat_natCast, hf]
  simp
  exact e
theorem to_Floor (a0 : Int) (a1 : Int) : laws_toFloor w (a0, a1) = some (a0, a1) := by
  apply laws_toFloor_of
  simp only [laws_toFloor_raw]
theorem to_FloorS (a : List XFloor) (h : mz_FloorS a ≤ 4294967296) : laws_toFloorS w a = some a := by
  apply laws_toFloorS_of
  simp only [mz_FloorS] at h
  have e := loop_map a (fun x => x) (fun i out => laws_toFloorS_k0 wl (a, (i : Int), out)) (fun out => out)
    (fun i h1 out r ho hk => by
      apply laws_toFloorS_l0_of
      simp only [laws_toFloorS_l0, ilt h1, ho, inb_of h1, rd1_get h1, inc h1 (show a.length ≤ maxLen by simp [maxLen]; omega), cond_true, Int.toNat_natCast, to_Floor (a[i]).1 (a[i]).2, Option.bind_some]
      exact hk)
    (fun out ho => by
      apply laws_toFloorS_l0_of
      simp only [laws_toFloorS_l0, ilt_self, cond_false])
    (List.replicate a.length (0, 0)) (by simp)
  rw [List.map_id'] at e
  have hf : fits a.length 16 = true := fits_of (by omega)
  simp only [laws_toFloorS_raw, Int.toNat_natCast, hf]
  simp
  exact e
theorem to_State (a0 : List XItem) (a1 : List XFloor) (h : mz_State (a0, a1) ≤ 4294967296) : laws_toState w (a0, a1) = some (a0, a1) := by
  apply laws_toState_of
  simp only [mz_State] at h
  simp only [laws_toState_raw, to_ItemS a0 (by omega), to_FloorS a1 (by omega), Option.bind_some]
theorem eq_Entry (a0 : Int) (a1 : Int) (a2 : Int) (a3 : Int) (a4 : ByteArray) (h : mz_Entry (a0, a1, a2, a3, a4) ≤ 4294967296) : laws_eqEntry w (a0, a1, a2, a3, a4, a0, a1, a2, a3, a4) = some true := by
  apply laws_eqEntry_of
  simp only [mz_Entry] at h
  simp only [laws_eqEntry_raw, decide_true, Bool.not_true, cond_false, beqS_refl, beq_self_eq_true, Option.bind_some]
theorem eq_Item (a0 : Int) (a1 : Int) (a2 : Int) (a3 : Int) (a4 : Int) (a5 : ByteArray) (h : mz_Item (a0, a1, a2, a3, a4, a5) ≤ 4294967296) : laws_eqItem w (a0, a1, a2, a3, a4, a5, a0, a1, a2, a3, a4, a5) = some true := by
  apply laws_eqItem_of
  simp only [mz_Item] at h
  simp only [laws_eqItem_raw, eq_Entry a1 a2 a3 a4 a5 (by omega), decide_true, Bool.not_true, cond_false, beqS_refl, beq_self_eq_true, Option.bind_some]
theorem eq_ItemS (a : List XItem) (h : mz_ItemS a ≤ 4294967296) : laws_eqItemS w (a, a) = some true := by
  apply laws_eqItemS_of
  simp only [mz_ItemS] at h
  have e := loop_all a.length (fun i => laws_eqItemS_k0 wl (a, a, (i : Int))) (.inr ())
    (fun i h1 r hk => by
      apply laws_eqItemS_l0_of
      have hb := sumL_get mz_Item a i h1
      simp only [laws_eqItemS_l0, ilt h1, inb_of h1, rd1_get h1, inc h1 (show a.length ≤ maxLen by simp [maxLen]; omega), cond_true, decide_true, Bool.not_true, cond_false, beqS_refl, beq_self_eq_true, eq_Item (a[i]).1 (a[i]).2.1 (a[i]).2.2.1 (a[i]).2.2.2.1 (a[i]).2.2.2.2.1 (a[i]).2.2.2.2.2 (show mz_Item a[i] ≤ 4294967296 by omega), Option.bind_some]
      exact hk)
    (by
      apply laws_eqItemS_l0_of
      simp only [laws_eqItemS_l0, ilt_self, cond_false])
  simp only [Int.natCast_zero] at e
  simp only [laws_eqItemS_raw, decide_true, Bool.not_true, cond_false, e, Option.bind_some, elimS, Sum.elim_inr]
theorem eq_Floor (a0 : Int) (a1 : Int) : laws_eqFloor w (a0, a1, a0, a1) = some true := by
  apply laws_eqFloor_of
  simp only [laws_eqFloor_raw, decide_true, Bool.not_true, cond_false, beqS_refl, beq_self_eq_true, Option.bind_some]
theorem eq_FloorS (a : List XFloor) (h : mz_FloorS a ≤ 4294967296) : laws_eqFloorS w (a, a) = some true := by
  apply laws_eqFloorS_of
  simp only [mz_FloorS] at h
  have e := loop_all a.length (fun i => laws_eqFloorS_k0 wl (a, a, (i : Int))) (.inr ())
    (fun i h1 r hk => by
      apply laws_eqFloorS_l0_of
      simp only [laws_eqFloorS_l0, ilt h1, inb_of h1, rd1_get h1, inc h1 (show a.length ≤ maxLen by simp [maxLen]; omega), cond_true, decide_true, Bool.not_true, cond_false, beqS_refl, beq_self_eq_true, eq_Floor (a[i]).1 (a[i]).2, Option.bind_some]
      exact hk)
    (by
      apply laws_eqFloorS_l0_of
      simp only [laws_eqFloorS_l0, ilt_self, cond_false])
  simp only [Int.natCast_zero] at e
  simp only [laws_eqFloorS_raw, decide_true, Bool.not_true, cond_false, e, Option.bind_some, elimS, Sum.elim_inr]
theorem eq_State (a0 : List XItem) (a1 : List XFloor) (h : mz_State (a0, a1) ≤ 4294967296) : laws_eqState w (a0, a1, a0, a1) = some true := by
  apply laws_eqState_of
  simp only [mz_State] at h
  simp only [laws_eqState_raw, eq_ItemS a0 (by omega), eq_FloorS a1 (by omega), decide_true, Bool.not_true, cond_false, beqS_refl, beq_self_eq_true, Option.bind_some]
theorem sz_IntS (a : List Int) (l : Int) (h0 : 0 ≤ l) (hB : l ≤ 1048576) (hf : ft_IntS a) : laws_szIntS w (a, l) = some (szI (mz_IntS a) l) := by
  apply laws_szIntS_of
  simp only [laws_szIntS_raw]
  exact sz_len (m := 0) h0 hB hf fun h => by rw [w64 (by omega) (by omega)]; exact sz_last (by omega)
def mz_Tree (x : XTree) : Nat := mz_IntS x.1
def ft_Tree (x : XTree) : Prop := ft_IntS x.1
theorem fit_Tree {x : XTree} (h : FitV tTree x) : ft_Tree x := h.1.1
theorem sz_Tree (a0 : List Int) (a1 : Int) (l : Int) (h0 : 0 ≤ l) (hB : l ≤ 1048576) (hf : ft_Tree (a0, a1)) : laws_szTree w (a0, a1, l) = some (szI (mz_Tree (a0, a1)) l) := by
  apply laws_szTree_of
  simp only [ft_Tree] at hf
  have e : mz_Tree (a0, a1) = (mz_IntS a0 + 0) := by simp only [mz_Tree]; omega
  rw [e]
  simp only [laws_szTree_raw]
  refine sz_bind (by omega) (sz_IntS a0 _ (by omega) (by omega) (hf)) fun _ => ?_
  exact sz_last (by omega)
def mz_MarkS (a : List XFloor) : Nat := a.length
def ft_MarkS (a : List XFloor) : Prop := a.length ≤ maxLen
theorem sz_MarkS (a : List XFloor) (l : Int) (h0 : 0 ≤ l) (hB : l ≤ 1048576) (hf : ft_MarkS a) : laws_szMarkS w (a, l) = some (szI (mz_MarkS a) l) := by
  apply laws_szMarkS_of
  simp only [laws_szMarkS_raw]
  exact sz_len (m := 0) h0 hB hf fun h => by rw [w64 (by omega) (by omega)]; exact sz_last (by omega)
def mz_Msg (x : XMsg) : Nat := mz_Tree (x.2.2.2.2.2.1, x.2.2.2.2.2.2.1) + mz_IntS x.2.2.2.2.2.2.2.1 + mz_IntS x.2.2.2.2.2.2.2.2.1 + mz_State (x.2.2.2.2.2.2.2.2.2.1, x.2.2.2.2.2.2.2.2.2.2.1) + mz_MarkS x.2.2.2.2.2.2.2.2.2.2.2
def ft_Msg (x : XMsg) : Prop := ft_Tree (x.2.2.2.2.2.1, x.2.2.2.2.2.2.1) ∧ ft_IntS x.2.2.2.2.2.2.2.1 ∧ ft_IntS x.2.2.2.2.2.2.2.2.1 ∧ ft_State (x.2.2.2.2.2.2.2.2.2.1, x.2.2.2.2.2.2.2.2.2.2.1) ∧ ft_MarkS x.2.2.2.2.2.2.2.2.2.2.2
theorem fit_Msg {x : XMsg} (h : FitV tMsg x) : ft_Msg x := ⟨fit_Tree ⟨h.2.2.2.2.2.1, h.2.2.2.2.2.2.1, trivial⟩, h.2.2.2.2.2.2.2.1.1, h.2.2.2.2.2.2.2.2.1.1, fit_State ⟨h.2.2.2.2.2.2.2.2.2.1, h.2.2.2.2.2.2.2.2.2.2.1, trivial⟩, h.2.2.2.2.2.2.2.2.2.2.2.1.1⟩
theorem sz_Msg (a0 : Int) (a1 : Int) (a2 : Int) (a3 : Int) (a4 : Int) (a5 : List Int) (a6 : Int) (a7 : List Int) (a8 : List Int) (a9 : List XItem) (a10 : List XFloor) (a11 : List XFloor) (l : Int) (h0 : 0 ≤ l) (hB : l ≤ 1048576) (hf : ft_Msg (a0, a1, a2, a3, a4, a5, a6, a7, a8, a9, a10, a11)) : laws_szMsg w (a0, a1, a2, a3, a4, a5, a6, a7, a8, a9, a10, a11, l) = some (szI (mz_Msg (a0, a1, a2, a3, a4, a5, a6, a7, a8, a9, a10, a11)) l) := by
  apply laws_szMsg_of
  simp only [ft_Msg] at hf
  have e : mz_Msg (a0, a1, a2, a3, a4, a5, a6, a7, a8, a9, a10, a11) = (mz_Tree (a5, a6) + (mz_IntS a7 + (mz_IntS a8 + (mz_State (a9, a10) + (mz_MarkS a11 + 0))))) := by simp only [mz_Msg]; omega
  rw [e]
  simp only [laws_szMsg_raw]
  refine sz_bind (by omega) (sz_Tree a5 a6 _ (by omega) (by omega) (hf.1)) fun _ => ?_
  refine sz_bind (by omega) (sz_IntS a7 _ (by omega) (by omega) (hf.2.1)) fun _ => ?_
  refine sz_bind (by omega) (sz_IntS a8 _ (by omega) (by omega) (hf.2.2.1)) fun _ => ?_
  refine sz_bind (by omega) (sz_State a9 a10 _ (by omega) (by omega) (hf.2.2.2.1)) fun _ => ?_
  refine sz_bind (by omega) (sz_MarkS a11 _ (by omega) (by omega) (hf.2.2.2.2)) fun _ => ?_
  exact sz_last (by omega)
theorem to_Tree (a0 : List Int) (a1 : Int) (h : mz_Tree (a0, a1) ≤ 4294967296) : laws_toTree w (a0, a1) = some (a0, a1) := by
  apply laws_toTree_of
  simp only [mz_Tree] at h
  simp only [laws_toTree_raw, to_IntS a0 (by omega), Option.bind_some]
theorem to_Mark (a0 : Int) (a1 : Int) : laws_toMark w (a0, a1) = some (a0, a1) := by
  apply laws_toMark_of
  simp only [laws_toMark_raw]
theorem to_MarkS (a : List XFloor) (h : mz_MarkS a ≤ 4294967296) : laws_toMarkS w a = some a := by
  apply laws_toMarkS_of
  simp only [mz_MarkS] at h
  have e := loop_map a (fun x => x) (fun i out => laws_toMarkS_k0 wl (a, (i : Int), out)) (fun out => out)
    (fun i h1 out r ho hk => by
      apply laws_toMarkS_l0_of
      simp only [laws_toMarkS_l0, ilt h1, ho, inb_of h1, rd1_get h1, inc h1 (show a.length ≤ maxLen by simp [maxLen]; omega), cond_true, Int.toNat_natCast, to_Mark (a[i]).1 (a[i]).2, Option.bind_some]
      exact hk)
    (fun out ho => by
      apply laws_toMarkS_l0_of
      simp only [laws_toMarkS_l0, ilt_self, cond_false])
    (List.replicate a.length (0, 0)) (by simp)
  rw [List.map_id'] at e
  have hf : fits a.length 16 = true := fits_of (by omega)
  simp only [laws_toMarkS_raw, Int.toNat_natCast, hf]
  simp
  exact e
theorem to_Msg (a0 : Int) (a1 : Int) (a2 : Int) (a3 : Int) (a4 : Int) (a5 : List Int) (a6 : Int) (a7 : List Int) (a8 : List Int) (a9 : List XItem) (a10 : List XFloor) (a11 : List XFloor) (h : mz_Msg (a0, a1, a2, a3, a4, a5, a6, a7, a8, a9, a10, a11) ≤ 4294967296) : laws_toMsg w (a0, a1, a2, a3, a4, a5, a6, a7, a8, a9, a10, a11) = some (a0, a1, a2, a3, a4, a5, a6, a7, a8, a9, a10, a11) := by
  apply laws_toMsg_of
  simp only [mz_Msg] at h
  simp only [laws_toMsg_raw, to_Tree a5 a6 (by omega), to_IntS a7 (by omega), to_IntS a8 (by omega), to_State a9 a10 (by omega), to_MarkS a11 (by omega), Option.bind_some]
theorem eq_Tree (a0 : List Int) (a1 : Int) (h : mz_Tree (a0, a1) ≤ 4294967296) : laws_eqTree w (a0, a1, a0, a1) = some true := by
  apply laws_eqTree_of
  simp only [mz_Tree] at h
  simp only [laws_eqTree_raw, eq_IntS a0 (by omega), decide_true, Bool.not_true, cond_false, beqS_refl, beq_self_eq_true, Option.bind_some]
theorem eq_Mark (a0 : Int) (a1 : Int) : laws_eqMark w (a0, a1, a0, a1) = some true := by
  apply laws_eqMark_of
  simp only [laws_eqMark_raw, decide_true, Bool.not_true, cond_false, beqS_refl, beq_self_eq_true, Option.bind_some]
theorem eq_MarkS (a : List XFloor) (h : mz_MarkS a ≤ 4294967296) : laws_eqMarkS w (a, a) = some true := by
  apply laws_eqMarkS_of
  simp only [mz_MarkS] at h
  have e := loop_all a.length (fun i => laws_eqMarkS_k0 wl (a, a, (i : Int))) (.inr ())
    (fun i h1 r hk => by
      apply laws_eqMarkS_l0_of
      simp only [laws_eqMarkS_l0, ilt h1, inb_of h1, rd1_get h1, inc h1 (show a.length ≤ maxLen by simp [maxLen]; omega), cond_true, decide_true, Bool.not_true, cond_false, beqS_refl, beq_self_eq_true, eq_Mark (a[i]).1 (a[i]).2, Option.bind_some]
      exact hk)
    (by
      apply laws_eqMarkS_l0_of
      simp only [laws_eqMarkS_l0, ilt_self, cond_false])
  simp only [Int.natCast_zero] at e
  simp only [laws_eqMarkS_raw, decide_true, Bool.not_true, cond_false, e, Option.bind_some, elimS, Sum.elim_inr]
theorem eq_Msg (a0 : Int) (a1 : Int) (a2 : Int) (a3 : Int) (a4 : Int) (a5 : List Int) (a6 : Int) (a7 : List Int) (a8 : List Int) (a9 : List XItem) (a10 : List XFloor) (a11 : List XFloor) (h : mz_Msg (a0, a1, a2, a3, a4, a5, a6, a7, a8, a9, a10, a11) ≤ 4294967296) : laws_eqMsg w (a0, a1, a2, a3, a4, a5, a6, a7, a8, a9, a10, a11, a0, a1, a2, a3, a4, a5, a6, a7, a8, a9, a10, a11) = some true := by
  apply laws_eqMsg_of
  simp only [mz_Msg] at h
  simp only [laws_eqMsg_raw, eq_Tree a5 a6 (by omega), eq_IntS a7 (by omega), eq_IntS a8 (by omega), eq_State a9 a10 (by omega), eq_MarkS a11 (by omega), decide_true, Bool.not_true, cond_false, beqS_refl, beq_self_eq_true, Option.bind_some]
def mz_Log (x : XLog) : Nat := mz_StateS x.2.2
def ft_Log (x : XLog) : Prop := ft_StateS x.2.2
theorem fit_Log {x : XLog} (h : FitV tLog x) : ft_Log x := ⟨h.2.2.1.1, fun y hy => fit_State (h.2.2.1.2 y hy)⟩
def mz_IntSS (a : List (List Int)) : Nat := a.length + sumL mz_IntS a
def ft_IntSS (a : List (List Int)) : Prop := a.length ≤ maxLen ∧ ∀ x ∈ a, ft_IntS x
def mz_SessS (a : List XSess) : Nat := a.length
def ft_SessS (a : List XSess) : Prop := a.length ≤ maxLen
def mz_RiseS (a : List XRise) : Nat := a.length
def ft_RiseS (a : List XRise) : Prop := a.length ≤ maxLen
def mz_Node (x : XNode) : Nat := mz_State (x.2.2.1, x.2.2.2.1) + mz_Tree (x.2.2.2.2.1, x.2.2.2.2.2.1) + mz_Log (x.2.2.2.2.2.2.1, x.2.2.2.2.2.2.2.1, x.2.2.2.2.2.2.2.2.1) + mz_IntS x.2.2.2.2.2.2.2.2.2.1 + mz_IntS x.2.2.2.2.2.2.2.2.2.2.1 + mz_IntSS x.2.2.2.2.2.2.2.2.2.2.2.1 + mz_SessS x.2.2.2.2.2.2.2.2.2.2.2.2.2.2.1 + mz_RiseS x.2.2.2.2.2.2.2.2.2.2.2.2.2.2.2.2.2.2
def ft_Node (x : XNode) : Prop := ft_State (x.2.2.1, x.2.2.2.1) ∧ ft_Tree (x.2.2.2.2.1, x.2.2.2.2.2.1) ∧ ft_Log (x.2.2.2.2.2.2.1, x.2.2.2.2.2.2.2.1, x.2.2.2.2.2.2.2.2.1) ∧ ft_IntS x.2.2.2.2.2.2.2.2.2.1 ∧ ft_IntS x.2.2.2.2.2.2.2.2.2.2.1 ∧ ft_IntSS x.2.2.2.2.2.2.2.2.2.2.2.1 ∧ ft_SessS x.2.2.2.2.2.2.2.2.2.2.2.2.2.2.1 ∧ ft_RiseS x.2.2.2.2.2.2.2.2.2.2.2.2.2.2.2.2.2.2
theorem fit_Node {x : XNode} (h : FitV tNode x) : ft_Node x := ⟨fit_State ⟨h.2.2.1, h.2.2.2.1, trivial⟩, fit_Tree ⟨h.2.2.2.2.1, h.2.2.2.2.2.1, trivial⟩, fit_Log ⟨h.2.2.2.2.2.2.1, h.2.2.2.2.2.2.2.1, h.2.2.2.2.2.2.2.2.1, trivial⟩, h.2.2.2.2.2.2.2.2.2.1.1, h.2.2.2.2.2.2.2.2.2.2.1.1, ⟨h.2.2.2.2.2.2.2.2.2.2.2.1.1, fun y hy => ((h.2.2.2.2.2.2.2.2.2.2.2.1.2 y hy).1).1⟩, h.2.2.2.2.2.2.2.2.2.2.2.2.2.2.1.1, h.2.2.2.2.2.2.2.2.2.2.2.2.2.2.2.2.2.2.1.1⟩
theorem sumc_IntS (a : List Int) : sumL (fun _ => 1) a ≤ 64 * mz_IntS a := by
  have h := sumL_lin0 (fun _ => 1) (fun _ => by omega) a
  simp only [mz_IntS]; omega
def mkc_Entry (x : XEntry) : Nat := 5
theorem mkc_le_Entry (x : XEntry) : mkc_Entry x ≤ 64 * (mz_Entry x + 1) := by
  simp only [mkc_Entry, mz_Entry]; omega
def mkc_Item (x : XItem) : Nat := 6
theorem mkc_le_Item (x : XItem) : mkc_Item x ≤ 64 * (mz_Item x + 1) := by
  simp only [mkc_Item, mz_Entry, mz_Item]; omega
theorem sumc_ItemS (a : List XItem) : sumL mkc_Item a ≤ 64 * mz_ItemS a := by
  have h := sumL_lin mkc_Item mz_Item (fun x => mkc_le_Item x) a
  simp only [mz_ItemS]; omega
noncomputable def mkf_Floor (x : XFloor) (n : Int) : XFloor := (n, (n + 1))
def mkc_Floor (x : XFloor) : Nat := 2
theorem mkc_le_Floor (x : XFloor) : mkc_Floor x ≤ 64 := by
  simp only [mkc_Floor]; omega
theorem sumc_FloorS (a : List XFloor) : sumL mkc_Floor a ≤ 64 * mz_FloorS a := by
  have h := sumL_lin0 mkc_Floor (fun x => mkc_le_Floor x) a
  simp only [mz_FloorS]; omega
def mkc_State (x : XState) : Nat := sumL mkc_Item x.1 + sumL mkc_Floor x.2
theorem mkc_le_State (x : XState) : mkc_State x ≤ 64 * (mz_State x + 1) := by
  have h0 := sumc_ItemS x.1
  have h1 := sumc_FloorS x.2
  simp only [mkc_State, mz_State]; omega
theorem sumc_StateS (a : List XState) : sumL mkc_State a ≤ 64 * mz_StateS a := by
  have h := sumL_lin mkc_State mz_State (fun x => mkc_le_State x) a
  simp only [mz_StateS]; omega
end Go.Proofs.Ytgkobeililjgbaa.M
