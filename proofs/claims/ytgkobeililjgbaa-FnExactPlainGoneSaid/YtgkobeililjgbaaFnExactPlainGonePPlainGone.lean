/- What the plain forms that FnExactPlainGone reaches come to: PPlainGone. No conditions but those that each theorem states. -/
import Derived.Test.YtgkobeililjgbaaFnExactPlainGonePState
namespace Go.Proofs.Ytgkobeililjgbaa.M
open Go Go.Eng Go.Proofs
set_option linter.unusedVariables false
theorem l1Max_ok (a b : Int) : spec_l1Max w (a, b) = some (mxI a b) := by
  apply spec_l1Max_of
  simp only [spec_l1Max_raw, mxI]
  by_cases h : a < b
  · rw [df (by omega), cond_false, if_pos h]
  · by_cases h2 : b < a
    · rw [dt h2, cond_true, if_neg h]
    · rw [df h2, cond_false, if_neg h]; congr 1; omega
/-- The highest number of a leaving that the parts tell of a node. -/
def plainGone (id : Int) : Int → List XState → Int
  | n, [] => n
  | n, s :: l => bif (entryOf id s.1).2.2.2.2.2 && stOk s && decide ((entryOf id s.1).2.1 = 1) then plainGone id (mxI n (entryOf id s.1).1) l else plainGone id n l
def smS (s : XState) : Prop := s.1.length ≤ maxLen ∧ s.2.length ≤ maxLen
theorem PlainGone_ok (a : List XState) (id : Int) (ha : a.length ≤ maxLen) (hs : ∀ s ∈ a, smS s) : impl_PlainGone w (a, id) = some (plainGone id 0 a) := by
  apply impl_PlainGone_of
  have e := loop_st a.length (fun i s => impl_PlainGone_k0 wl (id, s, a, ((a.length : Nat) : Int), (i : Int))) (fun i s => plainGone id s (a.drop i)) (fun _ _ => True)
    (fun i hi s _ ih => by
      apply impl_PlainGone_l0_of
      have hx := hs _ (List.getElem_mem hi)
      simp only [impl_PlainGone_l0, ilt hi, inb_of hi, rd1_get hi, inc hi ha, cond_true, ih _ trivial, EntryOf_ok _ _ _ hx.1, StateOk_ok _ _ hx.1 hx.2, Option.bind_some]
      rw [List.drop_eq_getElem_cons hi, plainGone]
      cases (entryOf id a[i].1).2.2.2.2.2 <;> cases stOk a[i] <;> cases decide ((entryOf id a[i].1).2.1 = 1) <;> simp)
    (fun s _ => by
      apply impl_PlainGone_l0_of
      simp only [impl_PlainGone_l0, ilt_self, cond_false, List.drop_length, plainGone])
    0 trivial
  simp only [Int.natCast_zero, List.drop_zero] at e
  simp only [impl_PlainGone_raw, e, Option.bind_some]
theorem sPlainGone_ok (a : List XState) (id : Int) (ha : a.length ≤ maxLen) (hs : ∀ s ∈ a, smS s) : spec_PlainGone w (a, id) = some (plainGone id 0 a) := by
  apply spec_PlainGone_of
  have e := loop_st a.length (fun i s => spec_PlainGone_k0 wl (a, id, s, (i : Int))) (fun i s => plainGone id s (a.drop i)) (fun _ _ => True)
    (fun i hi s _ ih => by
      apply spec_PlainGone_l0_of
      have hx := hs _ (List.getElem_mem hi)
      simp only [spec_PlainGone_l0, ilt hi, inb_of hi, rd1_get hi, inc hi ha, cond_true, ih _ trivial, sEntryOf_ok _ _ _ hx.1, sStateOk_ok _ _ hx.1 hx.2, l1Max_ok, Option.bind_some]
      rw [List.drop_eq_getElem_cons hi, plainGone]
      cases (entryOf id a[i].1).2.2.2.2.2 <;> cases stOk a[i] <;> cases decide ((entryOf id a[i].1).2.1 = 1) <;> simp)
    (fun s _ => by
      apply spec_PlainGone_l0_of
      simp only [spec_PlainGone_l0, ilt_self, cond_false, List.drop_length, plainGone])
    0 trivial
  simp only [Int.natCast_zero, List.drop_zero] at e
  simp only [spec_PlainGone_raw, e, Option.bind_some]
theorem ft_state {a : List XState} (h : ft_StateS a) : ∀ s ∈ a, smS s := fun s hs => by
  have := h.2 s hs
  simp only [ft_State, ft_ItemS, ft_FloorS] at this
  exact ⟨this.1.1, this.2⟩
theorem law_PlainGone (a : List XState) (id : Int) (hf : ft_StateS a) : laws_FnExactPlainGone w (a, id) = some true := by
  apply laws_FnExactPlainGone_of
  have hs := ft_state hf
  simp only [laws_FnExactPlainGone_raw, sz_StateS a 1048576 (by omega) (by omega) hf, Option.bind_some]
  by_cases h : (mz_StateS a : Int) ≤ 1048576
  · rw [szI_pos h, df (by omega), cond_false]
    simp only [to_StateS a (by omega), sPlainGone_ok a id hf.1 hs, PlainGone_ok a id hf.1 hs, eq_StateS a (by omega), Option.bind_some, decide_true, Bool.not_true, cond_false]
  · rw [szI_neg h, dt (by omega), cond_true]
end Go.Proofs.Ytgkobeililjgbaa.M
