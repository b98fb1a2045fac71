/- What the plain forms that FnExactMsgSize reaches come to: PMsg. No conditions but those that each theorem states. -/
import Derived.Test.YtgkobeililjgbaaFnExactMsgSizePNode
namespace Go.Proofs.Ytgkobeililjgbaa.M
open Go Go.Eng Go.Proofs
set_option linter.unusedVariables false
theorem MarksOk_ok (b : List XFloor) (hb : b.length ≤ maxLen) : impl_MarksOk w b = some (okFloors (-1) b) := by
  apply impl_MarksOk_of
  have e := loop_ix b.length (fun i => impl_MarksOk_k0 wl (b, b, ((b.length : Nat) : Int), (i : Int))) (fun i => if okFloors (prevF b i) (b.drop i) then .inr () else .inl false)
    (fun i hi ih => by
      apply impl_MarksOk_l0_of
      simp only [impl_MarksOk_l0, ilt hi, inb_of hi, rd1_get hi, inc hi hb, cond_true, ih, isNode_ok, within_ok, Option.bind_some]
      rw [List.drop_eq_getElem_cons hi, okFloors, prevF_succ b hi]
      rcases Nat.eq_zero_or_pos i with h0 | h0
      · subst h0
        cases h1 : inR b[0].1 0 4
        · simp
        · have := inR_node h1
          simp only [ipos0, cond_false, Bool.not_true, prevF, if_true, dt this, Bool.true_and, Bool.and_true]
          cases inR b[0].2 1 1000 <;> simp
      · have hi' : i - 1 < b.length := by omega
        simp only [ipos h0, cond_true, dec1 h0 (by omega), inb_of hi', rd1_get hi', prevF_get b h0 hi', dle_not]
        cases inR b[i].1 0 4 <;> cases inR b[i].2 1 1000 <;> cases decide (b[i - 1].1 < b[i].1) <;> simp)
    (by
      apply impl_MarksOk_l0_of
      simp only [impl_MarksOk_l0, ilt_self, cond_false, List.drop_length, okFloors, if_true])
  simp only [Int.natCast_zero, List.drop_zero, prevF, if_true] at e
  simp only [impl_MarksOk_raw, e, Option.bind_some]
  cases okFloors (-1) b <;> simp [elimS]
theorem sMarksOk_ok (b : List XFloor) (hb : b.length ≤ maxLen) : spec_MarksOk w b = some (okFloors (-1) b) := by
  apply spec_MarksOk_of
  have e := loop_ix b.length (fun i => spec_MarksOk_k0 wl (b, (i : Int))) (fun i => if okFloors (prevF b i) (b.drop i) then .inr () else .inl false)
    (fun i hi ih => by
      apply spec_MarksOk_l0_of
      simp only [spec_MarksOk_l0, ilt hi, inb_of hi, rd1_get hi, inc hi hb, cond_true, ih, l3Node_ok, l1In_ok, Option.bind_some]
      rw [List.drop_eq_getElem_cons hi, okFloors, prevF_succ b hi]
      rcases Nat.eq_zero_or_pos i with h0 | h0
      · subst h0
        cases h1 : inR b[0].1 0 4
        · simp
        · have := inR_node h1
          simp only [ipos0, cond_false, Bool.not_true, prevF, if_true, dt this, Bool.true_and, Bool.and_true]
          cases inR b[0].2 1 1000 <;> simp
      · have hi' : i - 1 < b.length := by omega
        simp only [ipos h0, cond_true, dec1 h0 (by omega), inb_of hi', rd1_get hi', prevF_get b h0 hi', dle_not]
        cases inR b[i].1 0 4 <;> cases inR b[i].2 1 1000 <;> cases decide (b[i - 1].1 < b[i].1) <;> simp)
    (by
      apply spec_MarksOk_l0_of
      simp only [spec_MarksOk_l0, ilt_self, cond_false, List.drop_length, okFloors, if_true])
  simp only [Int.natCast_zero, List.drop_zero, prevF, if_true] at e
  simp only [spec_MarksOk_raw, e, Option.bind_some]
  cases okFloors (-1) b <;> simp [elimS]
def treeOk (t : XTree) : Bool := bif decide (((t.1.length : Nat) : Int) = 0) then decide (t.2 = 0) else (t.1.all fun x => inR x 0 1023) && decide (((t.1.length : Nat) : Int) = 4) && inR t.2 0 1023
theorem treeOk_ok (l : List Int) (r : Int) (h : l.length ≤ maxLen) : impl_treeOk w (l, r) = some (treeOk (l, r)) := by
  apply impl_treeOk_of
  have e := loop_ix l.length (fun i => impl_treeOk_k0 wl (l, ((l.length : Nat) : Int), (i : Int), l, r)) (fun i => if (l.drop i).all (fun x => inR x 0 1023) then .inr (l, r) else .inl false)
    (fun i hi ih => by
      apply impl_treeOk_l0_of
      rw [all_ite (fun x => inR x 0 1023) l _ _ hi]
      simp only [impl_treeOk_l0, ilt hi, inb_of hi, rd1_get hi, inc hi h, cond_true, within_ok, Option.bind_some, ih]
      cases inR l[i] 0 1023 <;> simp)
    (by
      apply impl_treeOk_l0_of
      simp [impl_treeOk_l0])
  simp only [Int.natCast_zero, List.drop_zero] at e
  simp only [impl_treeOk_raw, e, Option.bind_some, within_ok, treeOk]
  cases decide (((l.length : Nat) : Int) = 0)
  · cases l.all fun x => inR x 0 1023
    · simp [elimS]
    · simp only [if_true, elimS, Sum.elim_inr, cond_false, Bool.true_and]
      cases decide (((l.length : Nat) : Int) = 4) <;> simp
  · simp
theorem l10Nums_ok (l : List Int) (m hi : Int) (h : l.length ≤ maxLen) : spec_l10Nums w (l, m, hi) = some (decide (((l.length : Nat) : Int) ≤ m) && l.all fun x => inR x 0 hi) := by
  apply spec_l10Nums_of
  have e := loop_ix l.length (fun i => spec_l10Nums_k0 wl (l, hi, (i : Int))) (fun i => if (l.drop i).all (fun x => inR x 0 hi) then .inr () else .inl false)
    (fun i hi' ih => by
      apply spec_l10Nums_l0_of
      rw [all_ite (fun x => inR x 0 hi) l _ _ hi']
      simp only [spec_l10Nums_l0, ilt hi', inb_of hi', rd1_get hi', inc hi' h, cond_true, l1In_ok, Option.bind_some, ih]
      cases inR l[i] 0 hi <;> simp)
    (by
      apply spec_l10Nums_l0_of
      simp [spec_l10Nums_l0])
  simp only [Int.natCast_zero, List.drop_zero] at e
  simp only [spec_l10Nums_raw, e, Option.bind_some]
  by_cases hl : ((l.length : Nat) : Int) ≤ m
  · simp only [df (show ¬ m < ((l.length : Nat) : Int) by omega), cond_false, dt hl, Bool.true_and]
    cases l.all fun x => inR x 0 hi <;> simp [elimS]
  · simp only [dt (show m < ((l.length : Nat) : Int) by omega), cond_true, df hl, Bool.false_and]
theorem l10Tree_ok (l : List Int) (r : Int) (h : l.length ≤ maxLen) : spec_l10Tree w (l, r) = some (treeOk (l, r)) := by
  apply spec_l10Tree_of
  simp only [spec_l10Tree_raw, l10Nums_ok l 4 1023 h, l1In_ok, Option.bind_some, treeOk]
  cases decide (((l.length : Nat) : Int) = 0)
  · by_cases h4 : ((l.length : Nat) : Int) = 4
    · simp only [cond_false, dt h4, cond_true, dt (show ((l.length : Nat) : Int) ≤ 4 by omega), Bool.true_and, Bool.and_true]
      cases l.all fun x => inR x 0 1023 <;> simp
    · simp only [cond_false, df h4, Bool.and_false, Bool.false_and]
  · simp
/-- Leaves, rising. -/
def okL : Int → List Int → Bool
  | _, [] => true
  | p, x :: l => inR x 0 3 && decide (p < x) && okL x l
def incG : Int → List Int → Bool
  | _, [] => true
  | p, x :: l => decide (p < x) && incG x l
theorem okL_eq : (p : Int) → (l : List Int) → okL p l = ((l.all fun x => inR x 0 3) && incG p l)
  | p, [] => rfl
  | p, x :: l => by
    rw [okL, okL_eq x l, List.all_cons, incG]
    cases inR x 0 3 <;> cases decide (p < x) <;> cases (l.all fun x => inR x 0 3) <;> cases incG x l <;> rfl
theorem okL_len : (p : Int) → (l : List Int) → okL p l = true → -1 ≤ p → (l.length : Int) ≤ 3 - p ∨ l = []
  | p, [], _, _ => .inr rfl
  | p, x :: l, h, hp => by
    simp only [okL, Bool.and_eq_true, inR, decide_eq_true_eq] at h
    left
    rcases okL_len x l h.2 (by omega) with h5 | h5
    · simp only [List.length_cons]; omega
    · subst h5; simp; omega
def prevL (b : List Int) (i : Nat) : Int := if i = 0 then -1 else b.getD (i - 1) 0
theorem prevL_succ (b : List Int) {i : Nat} (h : i < b.length) : prevL b (i + 1) = b[i] := by simp [prevL, List.getD, h]
theorem prevL_get (b : List Int) {i : Nat} (h0 : 0 < i) (h : i - 1 < b.length) : prevL b i = b[i - 1] := by
  simp [prevL, List.getD, h, show ¬ i = 0 by omega]
theorem inR_m1 {n k : Int} (h : inR n 0 k = true) : -1 < n := by
  simp [inR] at h; omega
def msgOk (a0 : Int) (a1 : Int) (a2 : Int) (a3 : Int) (a4 : Int) (a5 : List Int) (a6 : Int) (a7 : List Int) (a8 : List Int) (a9 : List XItem) (a10 : List XFloor) (a11 : List XFloor) : Bool := inR a0 0 5 && inR a1 0 4 && inR a2 0 4 && !decide (a1 = a2) && okL (-1) a8 && (a7.all fun x => inR x 0 100000) && inR a3 0 100000 && inR a4 0 100000 && treeOk (a5, a6) && decide (((a7.length : Nat) : Int) ≤ 5) && stOk (a9, a10) && okFloors (-1) a11
def smM (a5 a7 a8 : List Int) (a9 : List XItem) (a10 a11 : List XFloor) : Prop := a5.length ≤ maxLen ∧ a7.length ≤ maxLen ∧ a8.length ≤ maxLen ∧ a9.length ≤ maxLen ∧ a10.length ≤ maxLen ∧ a11.length ≤ maxLen
theorem MsgOk_ok (a0 : Int) (a1 : Int) (a2 : Int) (a3 : Int) (a4 : Int) (a5 : List Int) (a6 : Int) (a7 : List Int) (a8 : List Int) (a9 : List XItem) (a10 : List XFloor) (a11 : List XFloor) (h : smM a5 a7 a8 a9 a10 a11) : impl_MsgOk w (a0, a1, a2, a3, a4, a5, a6, a7, a8, a9, a10, a11) = some (msgOk a0 a1 a2 a3 a4 a5 a6 a7 a8 a9 a10 a11) := by
  obtain ⟨h5, h7, h8, h9, h10, h11⟩ := h
  apply impl_MsgOk_of
  have e0 := loop_ix a8.length (fun i => impl_MsgOk_k0 wl (a8, ((a8.length : Nat) : Int), (i : Int), a0, a1, a2, a3, a4, a5, a6, a7, a8, a9, a10, a11)) (fun i => if okL (prevL a8 i) (a8.drop i) then .inr (a0, a1, a2, a3, a4, a5, a6, a7, a8, a9, a10, a11) else .inl false)
    (fun i hi ih => by
      apply impl_MsgOk_l0_of
      simp only [impl_MsgOk_l0, ilt hi, inb_of hi, rd1_get hi, inc hi h8, cond_true, ih, within_ok, Option.bind_some]
      rw [List.drop_eq_getElem_cons hi, okL, prevL_succ a8 hi]
      rcases Nat.eq_zero_or_pos i with h0 | h0
      · subst h0
        cases h1 : inR a8[0] 0 3
        · simp
        · have := inR_m1 h1
          simp only [ipos0, cond_false, Bool.not_true, prevL, if_true, dt this, Bool.true_and, Bool.and_true]
      · have hi' : i - 1 < a8.length := by omega
        simp only [ipos h0, cond_true, dec1 h0 (by omega), inb_of hi', rd1_get hi', prevL_get a8 h0 hi', dle_not]
        cases inR a8[i] 0 3 <;> cases decide (a8[i - 1] < a8[i]) <;> simp)
    (by
      apply impl_MsgOk_l0_of
      simp only [impl_MsgOk_l0, ilt_self, cond_false, List.drop_length, okL, if_true])
  have e2 := loop_ix a7.length (fun i => impl_MsgOk_k2 wl (a7, ((a7.length : Nat) : Int), (i : Int), a0, a1, a2, a3, a4, a5, a6, a7, a8, a9, a10, a11)) (fun i => if (a7.drop i).all (fun x => inR x 0 100000) then .inr (a0, a1, a2, a3, a4, a5, a6, a7, a8, a9, a10, a11) else .inl false)
    (fun i hi ih => by
      apply impl_MsgOk_l2_of
      rw [all_ite (fun x => inR x 0 100000) a7 _ _ hi]
      simp only [impl_MsgOk_l2, ilt hi, inb_of hi, rd1_get hi, inc hi h7, cond_true, within_ok, Option.bind_some, ih]
      cases inR a7[i] 0 100000 <;> simp)
    (by
      apply impl_MsgOk_l2_of
      simp [impl_MsgOk_l2])
  simp only [Int.natCast_zero, List.drop_zero, prevL, if_true] at e0 e2
  simp only [impl_MsgOk_raw, e0, within_ok, isNode_ok, Option.bind_some, msgOk]
  cases inR a0 0 5
  · simp
  cases inR a1 0 4
  · simp
  cases inR a2 0 4
  · simp
  cases decide (a1 = a2)
  case true => simp
  simp only [Bool.not_true, Bool.not_false, cond_false, Bool.true_and]
  cases okL (-1) a8
  · simp [elimS]
  simp only [if_true, elimS, Sum.elim_inr, e2, Option.bind_some, Bool.true_and]
  cases a7.all fun x => inR x 0 100000
  · simp
  simp only [if_true, Sum.elim_inr, Bool.true_and, treeOk_ok a5 a6 h5, StateOk_ok a9 a10 h9 h10, MarksOk_ok a11 h11, Option.bind_some]
  cases inR a3 0 100000 <;> cases inR a4 0 100000 <;> cases treeOk (a5, a6) <;> cases decide (((a7.length : Nat) : Int) ≤ 5) <;> cases stOk (a9, a10) <;> cases okFloors (-1) a11 <;> rfl
theorem sMsgOk_inc (a0 : Int) (a1 : Int) (a2 : Int) (a3 : Int) (a4 : Int) (a5 : List Int) (a6 : Int) (a7 : List Int) (a8 : List Int) (a9 : List XItem) (a10 : List XFloor) (a11 : List XFloor) (h8 : a8.length ≤ maxLen) : spec_MsgOk_k0 wl (1, a0, a1, a2, a3, a4, a5, a6, a7, a8, a9, a10, a11) = some (bif incG (a8.getD 0 0) (a8.drop 1) then .inr () else .inl false) := by
  cases hc : a8 with
  | nil =>
    apply spec_MsgOk_l0_of
    simp [spec_MsgOk_l0, incG]
  | cons x l =>
    rw [← hc]
    have hlen : a8.length = l.length + 1 := by rw [hc]; rfl
    have e := loop_ix l.length (fun j => spec_MsgOk_k0 wl (((j + 1 : Nat) : Int), a0, a1, a2, a3, a4, a5, a6, a7, a8, a9, a10, a11)) (fun j => bif incG (a8.getD j 0) (a8.drop (j + 1)) then .inr () else .inl false)
      (fun j hj ih => by
        apply spec_MsgOk_l0_of
        have hi : j + 1 < a8.length := by omega
        have hi' : j < a8.length := by omega
        have hd := dec1 (i := j + 1) (by omega) (by omega)
        rw [show j + 1 - 1 = j by omega] at hd
        have hg : a8.getD (j + 1) 0 = a8[j + 1] := by simp [List.getD, hi]
        have hg' : a8.getD j 0 = a8[j] := by simp [List.getD, hi']
        rw [hg] at ih
        simp only [spec_MsgOk_l0, ilt hi, inb_of hi, rd1_get hi, inc hi h8, hd, inb_of hi', rd1_get hi', cond_true, ih, dle_not]
        rw [List.drop_eq_getElem_cons hi, incG, hg']
        cases decide (a8[j] < a8[j + 1]) <;> simp)
      (by
        apply spec_MsgOk_l0_of
        rw [← hlen]
        simp only [spec_MsgOk_l0, ilt_self, cond_false, List.drop_length, incG, cond_true])
    exact e
theorem sMsgOk_ok (a0 : Int) (a1 : Int) (a2 : Int) (a3 : Int) (a4 : Int) (a5 : List Int) (a6 : Int) (a7 : List Int) (a8 : List Int) (a9 : List XItem) (a10 : List XFloor) (a11 : List XFloor) (h : smM a5 a7 a8 a9 a10 a11) : spec_MsgOk w (a0, a1, a2, a3, a4, a5, a6, a7, a8, a9, a10, a11) = some (msgOk a0 a1 a2 a3 a4 a5 a6 a7 a8 a9 a10 a11) := by
  obtain ⟨h5, h7, h8, h9, h10, h11⟩ := h
  apply spec_MsgOk_of
  simp only [spec_MsgOk_raw, l1In_ok, l3Node_ok, l10Tree_ok a5 a6 h5, l10Nums_ok a7 5 100000 h7, l10Nums_ok a8 4 3 h8, sStateOk_ok a9 a10 h9 h10, sMarksOk_ok a11 h11, sMsgOk_inc a0 a1 a2 a3 a4 a5 a6 a7 a8 a9 a10 a11 h8, Option.bind_some, msgOk]
  have key : okL (-1) a8 = (decide (((a8.length : Nat) : Int) ≤ 4) && (a8.all fun x => inR x 0 3) && incG (a8.getD 0 0) (a8.drop 1)) := by
    cases hk : okL (-1) a8
    · rw [okL_eq] at hk
      cases ha : a8.all fun x => inR x 0 3
      · simp
      · rw [ha] at hk
        simp only [Bool.true_and] at hk
        cases hc : a8 with
        | nil => rw [hc] at hk; simp [incG] at hk
        | cons x l =>
          rw [hc] at hk ha
          simp only [List.all_cons, Bool.and_eq_true] at ha
          have := inR_m1 ha.1
          simp only [incG, dt this, Bool.true_and] at hk
          simp [hk]
    · have hl := okL_len _ _ hk (by omega)
      have hl4 : ((a8.length : Nat) : Int) ≤ 4 := by
        rcases hl with h | h
        · omega
        · rw [h]; simp
      rw [okL_eq] at hk
      simp only [Bool.and_eq_true] at hk
      rw [dt hl4, hk.1]
      cases hc : a8 with
      | nil => rfl
      | cons x l =>
        have := hk.2
        rw [hc] at this
        simp only [incG, Bool.and_eq_true] at this
        simp [this.2]
  rw [key]
  cases inR a0 0 5
  case false => simp
  cases inR a1 0 4
  case false => simp
  cases inR a2 0 4
  case false => simp
  cases decide (a1 = a2)
  case true => simp
  cases inR a3 0 100000
  case false => simp
  cases inR a4 0 100000
  case false => simp
  cases treeOk (a5, a6)
  case false => simp
  cases decide (((a7.length : Nat) : Int) ≤ 5)
  case false => simp
  cases a7.all fun x => inR x 0 100000
  case false => simp
  cases decide (((a8.length : Nat) : Int) ≤ 4)
  case false => simp
  cases a8.all fun x => inR x 0 3
  case false => simp
  cases stOk (a9, a10)
  case false => simp
  cases okFloors (-1) a11
  case false => simp
  cases incG (a8.getD 0 0) (a8.drop 1) <;> rfl
end Go.Proofs.Ytgkobeililjgbaa.M
