/- What the plain forms that FnExactDeedsText reaches come to: PText2. No conditions but those that each theorem states. -/
import Derived.Test.YtameehmkoglkeaaDoorFnExactDeedsTextPText
import Derived.Lib.Join
set_option linter.all false
namespace Go.Proofs.YtameehmkoglkeaaDoor.M
open Go Go.Eng Go.Proofs
set_option linter.unusedVariables false
/-! A text in parts. -/
def splitL (c : UInt8) : List UInt8 → List (List UInt8)
  | [] => [[]]
  | x :: l => bif x == c then [] :: splitL c l else (match splitL c l with
    | [] => [[x]]
    | h :: t => (x :: h) :: t)
def preL (p : List UInt8) : List (List UInt8) → List (List UInt8)
  | [] => [p]
  | h :: t => (p ++ h) :: t
theorem splitL_ne (c : UInt8) : (l : List UInt8) → splitL c l ≠ []
  | [] => by simp [splitL]
  | x :: l => by
    unfold splitL
    cases x == c
    · simp only [cond_false]
      cases splitL c l <;> simp
    · simp
theorem preL_snoc (p : List UInt8) (x : UInt8) (c : UInt8) (l : List UInt8) (h : (x == c) = false) : preL p (splitL c (x :: l)) = preL (p ++ [x]) (splitL c l) := by
  rw [splitL, h, cond_false]
  have := splitL_ne c l
  cases hs : splitL c l with
  | nil => exact absurd hs this
  | cons a t => simp [preL]
theorem splitL_len (c : UInt8) : (l : List UInt8) → (splitL c l).length = l.count c + 1
  | [] => rfl
  | x :: l => by
    have ih := splitL_len c l
    rw [splitL, List.count_cons]
    cases h : x == c
    · simp only [cond_false]
      cases hs : splitL c l with
      | nil => exact absurd hs (splitL_ne c l)
      | cons a t => rw [hs] at ih; simpa using ih
    · simp only [cond_true, List.length_cons, ih, if_true]
theorem ofB_get (s : ByteArray) (i : Nat) (h : i < s.size) : (ofBytes s).getD i 0 = (((s.data.toList[i]'(by simpa using h)).toNat : Nat) : Int) := by
  simp [ofBytes, h]
theorem sParts_loop (s : ByteArray) (c : UInt8) (hs : s.size ≤ 1099511627776) : (m i from' : Nat) → (out : List ByteArray) → i + m = s.size → from' ≤ i → out.length ≤ from' → spec_Parts_k0 wl (s, ((c.toNat : Nat) : Int), (from' : Int), (i : Int), out) = some (out ++ (preL ((s.data.toList.drop from').take (i - from')) (splitL c (s.data.toList.drop i))).map bsl)
  | 0, i, from', out, hm, hf, ho => by
    have hi : i = s.size := by omega
    subst hi
    apply spec_Parts_l0_of
    have e1 : spec_Parts_k0 wl (s, ((c.toNat : Nat) : Int), ((s.size + 1 : Nat) : Int), ((s.size + 1 : Nat) : Int), out ++ [bsl ((s.data.toList.drop from').take (s.size - from'))]) = some (out ++ [bsl ((s.data.toList.drop from').take (s.size - from'))]) := by
      apply spec_Parts_l0_of
      simp only [spec_Parts_l0, df (show ¬ (((s.size + 1 : Nat) : Int) ≤ (s.size : Int)) by omega), cond_false]
    have ex : ByteArray.extract s from' s.size = bsl ((s.data.toList.drop from').take (s.size - from')) := by
      rw [← Go.Lib.extract_data, bsl_data]
    simp only [spec_Parts_l0, dt (show ((s.size : Nat) : Int) ≤ (s.size : Int) by omega), cond_true, decide_true, dt (show (0 : Int) ≤ (from' : Int) ∧ (from' : Int) ≤ (s.size : Int) ∧ (s.size : Int) ≤ (s.size : Int) by omega), Int.toNat_natCast, w64 (n := (s.size : Int) + 1) (by omega) (by omega)]
    rw [fits_of (by simp; omega), cond_true, ex, show (s.size : Int) + 1 = ((s.size + 1 : Nat) : Int) by omega, e1]
    have hd : s.data.toList.drop s.size = [] := List.drop_eq_nil_of_le (by simp)
    rw [hd]
    simp [splitL, preL]
  | m + 1, i, from', out, hm, hf, ho => by
    have hi : i < s.size := by omega
    have hil : i < s.data.toList.length := by simpa using hi
    apply spec_Parts_l0_of
    have ex : ByteArray.extract s from' i = bsl ((s.data.toList.drop from').take (i - from')) := by
      rw [← Go.Lib.extract_data, bsl_data]
    simp only [spec_Parts_l0, dt (show (i : Int) ≤ (s.size : Int) by omega), cond_true, df (show ¬ (i : Int) = (s.size : Int) by omega), cond_false, inb_of hi, Int.toNat_natCast, ofB_get s i hi, dt (show (0 : Int) ≤ (from' : Int) ∧ (from' : Int) ≤ (i : Int) ∧ (i : Int) ≤ (s.size : Int) by omega), w64 (n := (i : Int) + 1) (by omega) (by omega)]
    rw [List.drop_eq_getElem_cons hil]
    by_cases hc : s.data.toList[i] = c
    · have ih := sParts_loop s c hs m (i + 1) (i + 1) (out ++ [bsl ((s.data.toList.drop from').take (i - from'))]) (by omega) (Nat.le_refl _) (by simp; omega)
      rw [dt (show (((s.data.toList[i]).toNat : Nat) : Int) = ((c.toNat : Nat) : Int) by rw [hc])]
      rw [cond_true, fits_of (by simp; omega), cond_true, ex, show (i : Int) + 1 = ((i + 1 : Nat) : Int) by omega, ih]
      rw [splitL, show (s.data.toList[i] == c) = true by rw [hc]; simp]
      cases hsp : splitL c (s.data.toList.drop (i + 1)) with
      | nil => exact absurd hsp (splitL_ne _ _)
      | cons a t => simp [preL]
    · have ih := sParts_loop s c hs m (i + 1) from' out (by omega) (by omega) ho
      rw [df (show ¬ (((s.data.toList[i]).toNat : Nat) : Int) = ((c.toNat : Nat) : Int) by
        intro h; apply hc; have h' : (s.data.toList[i]).toNat = c.toNat := by omega
        exact UInt8.toNat_inj.1 h')]
      rw [cond_false, show (i : Int) + 1 = ((i + 1 : Nat) : Int) by omega, ih, preL_snoc _ _ _ _ (by simpa using hc)]
      rw [show i + 1 - from' = (i - from') + 1 by omega, List.take_succ_eq_append_getElem (by simp; omega)]
      simp [show from' + (i - from') = i by omega]
theorem sParts_ok (s : ByteArray) (c : UInt8) (hs : s.size ≤ 1099511627776) : spec_Parts w (s, ((c.toNat : Nat) : Int)) = some ((splitL c s.data.toList).map bsl) := by
  apply spec_Parts_of
  have e := sParts_loop s c hs s.size 0 0 [] (by omega) (Nat.le_refl _) (by simp)
  simp only [Int.natCast_zero] at e
  simp only [spec_Parts_raw, e, Option.bind_some]
  cases hsp : splitL c s.data.toList with
  | nil => exact absurd hsp (splitL_ne _ _)
  | cons a t => simp [preL, hsp]
end Go.Proofs.YtameehmkoglkeaaDoor.M
