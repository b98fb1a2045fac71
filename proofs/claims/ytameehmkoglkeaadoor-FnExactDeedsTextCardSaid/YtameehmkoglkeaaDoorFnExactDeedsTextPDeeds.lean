/- What the plain forms that FnExactDeedsText reaches come to: PDeeds. No conditions but those that each theorem states. -/
import Derived.Test.YtameehmkoglkeaaDoorFnExactDeedsTextPDeed
set_option linter.all false
namespace Go.Proofs.YtameehmkoglkeaaDoor.M
open Go Go.Eng Go.Proofs
set_option linter.unusedVariables false
/-! A list of deeds as text. -/
def deedT (d : XEntry) : ByteArray := deedText d.1 d.2.1 d.2.2.1 d.2.2.2.1 d.2.2.2.2
theorem deedT_size (d : XEntry) : (deedT d).size ≤ 100 := by
  unfold deedT deedText
  cases h : (inR d.1 0 7 && (!decide (8 < (d.2.2.2.2.size : Int)) && (!decide ((10 : UInt8) ∈ d.2.2.2.2.data.toList) && (inR d.2.1 0 999999 && (inR d.2.2.1 0 999999 && inR d.2.2.2.1 0 999999)))))
  · simp [ByteArray.size]
  · simp only [Bool.and_eq_true, Bool.not_eq_true', decide_eq_false_iff_not] at h
    obtain ⟨h1, h2, _, h4, h5, h6⟩ := h
    have r1 := inR_i64 h1 (by omega) (by omega)
    have r4 := inR_i64 h4 (by omega) (by omega)
    have r5 := inR_i64 h5 (by omega) (by omega)
    have r6 := inR_i64 h6 (by omega) (by omega)
    have l1 := itoa_len _ r1.1 r1.2
    have l4 := itoa_len _ r4.1 r4.2
    have l5 := itoa_len _ r5.1 r5.2
    have l6 := itoa_len _ r6.1 r6.2
    have lt : d.2.2.2.2.data.toList.length ≤ 8 := by rw [← Go.Lib.size_eq]; omega
    simp only [cond_true, bsl_size, List.length_append, List.length_cons, List.length_nil]
    omega
def deedsL : List XEntry → ByteArray → ByteArray ⊕ ByteArray
  | [], acc => .inr acc
  | d :: l, acc => bif beqS (deedT d) ⟨#[]⟩ then .inl ⟨#[]⟩ else deedsL l (acc ++ (deedT d ++ ⟨#[10]⟩))
def deedsText (l : List XEntry) : ByteArray := match deedsL l ⟨#[]⟩ with
  | .inl t => t
  | .inr t => t
theorem size10 : (⟨#[10]⟩ : ByteArray).size = 1 := rfl
theorem DeedsText_ok (l : List XEntry) (hl : l.length ≤ 1099511627776) : impl_DeedsText w l = some (deedsText l) := by
  apply impl_DeedsText_of
  have e := loop_st l.length (fun i acc => impl_DeedsText_k0 wl (acc, l, (l.length : Int), (i : Int))) (fun i acc => deedsL (l.drop i) acc) (fun i acc => acc.size ≤ i * 101)
    (fun i hi acc ha ih => by
      apply impl_DeedsText_l0_of
      have hd := deedT_size l[i]
      have hx : impl_DeedText w l[i] = some (deedT l[i]) := DeedText_ok _ _ _ _ _
      have ih1 := ih (acc ++ (deedT l[i] ++ ⟨#[10]⟩)) (by rw [ByteArray.size_append, ByteArray.size_append, size10]; omega)
      simp only [impl_DeedsText_l0, ilt hi, inb_of hi, rd1_get hi, cond_true, hx, Option.bind_some]
      rw [List.drop_eq_getElem_cons hi, deedsL]
      cases beqS (deedT l[i]) ⟨#[]⟩
      · rw [fits_of (by rw [size10]; omega), fits_of (by rw [ByteArray.size_append, size10]; omega)]
        simp only [cond_true, cond_false, inc hi (show l.length ≤ maxLen by simp only [maxLen]; omega)]
        exact ih1
      · rfl)
    (fun acc _ => by
      apply impl_DeedsText_l0_of
      simp only [impl_DeedsText_l0, ilt_self, cond_false, List.drop_length, deedsL])
    ⟨#[]⟩ (by simp [ByteArray.size])
  simp only [Int.natCast_zero, List.drop_zero] at e
  simp only [impl_DeedsText_raw, e, Option.bind_some, deedsText]
  cases deedsL l ⟨#[]⟩ <;> rfl
theorem sDeedsText_ok (l : List XEntry) (hl : l.length ≤ 1099511627776) (ht : ∀ d ∈ l, d.2.2.2.2.size ≤ 1099511627776) : spec_DeedsText w l = some (deedsText l) := by
  apply spec_DeedsText_of
  have e := loop_st l.length (fun i acc => spec_DeedsText_k0 wl (l, acc, (i : Int))) (fun i acc => deedsL (l.drop i) acc) (fun i acc => acc.size ≤ i * 101)
    (fun i hi acc ha ih => by
      apply spec_DeedsText_l0_of
      have hd := deedT_size l[i]
      have hx : spec_DeedText w l[i] = some (deedT l[i]) := sDeedText_ok _ _ _ _ _ (ht _ (List.getElem_mem hi))
      have ih1 := ih (acc ++ (deedT l[i] ++ ⟨#[10]⟩)) (by rw [ByteArray.size_append, ByteArray.size_append, size10]; omega)
      rw [← ByteArray.append_assoc] at ih1
      simp only [spec_DeedsText_l0, ilt hi, inb_of hi, rd1_get hi, cond_true, hx, Option.bind_some]
      rw [List.drop_eq_getElem_cons hi, deedsL]
      cases beqS (deedT l[i]) ⟨#[]⟩
      · rw [fits_of (by omega), fits_of (by rw [ByteArray.size_append, size10]; omega)]
        simp only [cond_true, cond_false, inc hi (show l.length ≤ maxLen by simp only [maxLen]; omega)]
        rw [← ByteArray.append_assoc]
        exact ih1
      · rfl)
    (fun acc _ => by
      apply spec_DeedsText_l0_of
      simp only [spec_DeedsText_l0, ilt_self, cond_false, List.drop_length, deedsL])
    ⟨#[]⟩ (by simp [ByteArray.size])
  simp only [Int.natCast_zero, List.drop_zero] at e
  simp only [spec_DeedsText_raw, e, Option.bind_some, deedsText]
  cases deedsL l ⟨#[]⟩ <;> rfl
theorem law_DeedsText (a0 : List XEntry) (hf : ft_DeedS a0) : laws_FnExactDeedsText w a0 = some true := by
  apply laws_FnExactDeedsText_of
  simp only [laws_FnExactDeedsText_raw, sz_DeedS a0 1048576 (by omega) (by omega) hf, Option.bind_some]
  by_cases h : (mz_DeedS a0 : Int) ≤ 1048576
  · rw [szI_pos h, df (by omega), cond_false]
    have hm : mz_DeedS a0 = a0.length + sumL mz_Deed a0 := rfl
    have hs : ∀ d ∈ a0, d.2.2.2.2.size ≤ 1099511627776 := fun d hd => by
      have h1 := sumL_mem mz_Deed hd
      have h2 : mz_Deed d = d.2.2.2.2.size := rfl
      omega
    simp only [to_DeedS a0 (by omega), sDeedsText_ok a0 (by omega) hs, DeedsText_ok a0 (by omega), eq_DeedS a0 (by omega), Option.bind_some, beqS_refl, Bool.not_true, cond_false]
  · rw [szI_neg h, dt (by omega), cond_true]
end Go.Proofs.YtameehmkoglkeaaDoor.M
