/- What the plain forms that FnExactDeedsText reaches come to: PText. No conditions but those that each theorem states. -/
import Derived.Test.YtameehmkoglkeaaDoorFnExactDeedsTextPFam
import Derived.Lib.ItoaLen
set_option linter.all false
namespace Go.Proofs.YtameehmkoglkeaaDoor.M
open Go Go.Eng Go.Proofs
set_option linter.unusedVariables false
/-! Numbers as text. -/
def bsl (l : List UInt8) : ByteArray := ⟨l.toArray⟩
theorem bsl_app (l m : List UInt8) : bsl l ++ bsl m = bsl (l ++ m) := by
  apply ByteArray.ext
  simp [bsl]
theorem bsl_data (s : ByteArray) : bsl s.data.toList = s := by
  apply ByteArray.ext
  simp [bsl]
theorem bsl_size (l : List UInt8) : (bsl l).size = l.length := by simp [bsl, ByteArray.size]
def digits (n : Int) : ByteArray := bsl (Go.Lib.itoa n)
theorem Digits_ok (n : Int) (h0 : -9223372036854775808 ≤ n) (h1 : n ≤ 9223372036854775807) : impl_Digits w n = some (digits n) := by
  apply impl_Digits_of
  have e : strconv_Itoa w n = some (digits n) := by
    apply strconv_Itoa_of
    simp only [strconv_Itoa_raw, itoaX, dt (show (-9223372036854775808 : Int) ≤ n ∧ n ≤ 9223372036854775807 from ⟨h0, h1⟩), cond_true]; rfl
  simp only [impl_Digits_raw, e, Option.bind_some]
def digL (u : Nat) : List UInt8 := if u = 0 then [] else Go.Lib.decDigits u
theorem digL_step {u : Nat} (h : u ≠ 0) : digL u = digL (u / 10) ++ [UInt8.ofNat (48 + u % 10)] := by
  unfold digL
  rw [if_neg h]
  by_cases h10 : u < 10
  · rw [Go.Lib.decDigits, dif_pos h10, show u / 10 = 0 by omega, show u % 10 = u by omega]; rfl
  · rw [Go.Lib.decDigits, dif_neg h10, if_neg (show u / 10 ≠ 0 by omega)]
theorem digit_byte (d : Nat) (h : d < 10) : toBytes [IntKind.wrap .u8 (IntKind.wrap .i64 (48 + (d : Int)))] = bsl [UInt8.ofNat (48 + d)] := by
  have : d = 0 ∨ d = 1 ∨ d = 2 ∨ d = 3 ∨ d = 4 ∨ d = 5 ∨ d = 6 ∨ d = 7 ∨ d = 8 ∨ d = 9 := by omega
  rcases this with rfl | rfl | rfl | rfl | rfl | rfl | rfl | rfl | rfl | rfl <;> decide
theorem sDigits_loop (b : Bool) : (k u : Nat) → (y : Int) → (acc : List UInt8) → (y = (u : Int) ∨ y = -(u : Int)) → u < 10 ^ k → u ≤ 9223372036854775808 → (y = (u : Int) → u ≤ 9223372036854775807) → acc.length + k ≤ 1000 → spec_Digits_k0 wl (y, b, bsl acc) = some (b, bsl (digL u ++ acc))
  | 0, u, y, acc, hy, hu, _, _, _ => by
    apply spec_Digits_l0_of
    have h0 : u = 0 := by simpa using hu
    subst h0
    simp only [spec_Digits_l0, dt (show y = 0 by omega), Bool.not_true, cond_false, digL, if_true, List.nil_append]
  | k + 1, u, y, acc, hy, hu, hmx, hmx2, ha => by
    apply spec_Digits_l0_of
    by_cases h0 : u = 0
    · subst h0
      simp only [spec_Digits_l0, dt (show y = 0 by omega), Bool.not_true, cond_false, digL, if_true, List.nil_append]
    · have hlt : u / 10 < 10 ^ k := by rw [Nat.pow_succ] at hu; omega
      have hb := digit_byte (u % 10) (by omega)
      have hf : fits (ByteArray.size (bsl [UInt8.ofNat (48 + u % 10)]) + ByteArray.size (bsl acc)) 1 = true := by
        rw [bsl_size, bsl_size]; exact fits_of (by simp; omega)
      simp only [spec_Digits_l0, df (show ¬ y = 0 by omega), Bool.not_false, cond_true, dt (show (10 : Int) ≠ 0 by omega)]
      rw [digL_step h0, List.append_assoc]
      by_cases hy' : y = (u : Int)
      · have e1 : Int.tmod y 10 = ((u % 10 : Nat) : Int) := by rw [hy']; rfl
        have e2 : Int.tdiv y 10 = ((u / 10 : Nat) : Int) := by rw [hy']; rfl
        have ih := sDigits_loop b k (u / 10) ((u / 10 : Nat) : Int) ([UInt8.ofNat (48 + u % 10)] ++ acc) (.inl rfl) hlt (by omega) (fun _ => by omega) (by simp; omega)
        rw [e1, e2, df (show ¬ (((u % 10 : Nat) : Int) < 0) by omega), hb, hf, w64 (n := ((u / 10 : Nat) : Int)) (by omega) (by omega), bsl_app]
        exact ih
      · have hy2 : y = -(u : Int) := by omega
        have e1 : Int.tmod y 10 = -((u % 10 : Nat) : Int) := by rw [hy2, Int.neg_tmod]; rfl
        have e2 : Int.tdiv y 10 = -((u / 10 : Nat) : Int) := by rw [hy2, Int.neg_tdiv]; rfl
        have ih := sDigits_loop b k (u / 10) (-((u / 10 : Nat) : Int)) ([UInt8.ofNat (48 + u % 10)] ++ acc) (.inr rfl) hlt (by omega) (fun _ => by omega) (by simp; omega)
        rw [e1, e2]
        by_cases hz : u % 10 = 0
        · rw [hz] at hb hf ih ⊢
          rw [show (-((0 : Nat) : Int)) = ((0 : Nat) : Int) from rfl, df (show ¬ (((0 : Nat) : Int) < 0) by omega), hb, hf, w64 (n := -((u / 10 : Nat) : Int)) (by omega) (by omega), bsl_app]
          exact ih
        · rw [dt (show -((u % 10 : Nat) : Int) < 0 by omega), w64 (n := 0 - -((u % 10 : Nat) : Int)) (by omega) (by omega), show (0 : Int) - -((u % 10 : Nat) : Int) = ((u % 10 : Nat) : Int) by omega, hb, hf, w64 (n := -((u / 10 : Nat) : Int)) (by omega) (by omega), bsl_app]
          exact ih
theorem sDigits_ok (n : Int) (h0 : -9223372036854775808 ≤ n) (h1 : n ≤ 9223372036854775807) : spec_Digits w n = some (digits n) := by
  apply spec_Digits_of
  simp only [spec_Digits_raw]
  by_cases hz : n = 0
  · subst hz; simp only [decide_true, cond_true, digits, Go.Lib.itoa, if_neg (show ¬ (0 : Int) < 0 by omega), Int.toNat_zero, Go.Lib.decDigits_one (show 0 < 10 by omega)]; rfl
  · have e := sDigits_loop (decide (n < 0)) 20 n.natAbs n [] (by omega) (by omega) (by omega) (by omega) (by simp)
    have e' : spec_Digits_k0 wl (n, decide (n < 0), (⟨#[]⟩ : ByteArray)) = some (decide (n < 0), bsl (digL n.natAbs)) := by rw [List.append_nil] at e; exact e
    simp only [df hz, cond_false, e', Option.bind_some]
    have hd : digL n.natAbs = Go.Lib.decDigits n.natAbs := by unfold digL; rw [if_neg (by omega)]
    have hlen : (Go.Lib.decDigits n.natAbs).length ≤ 1000 := by
      rw [Go.Lib.decDigits_length]
      have := Go.Lib.nDigits_le20 n.natAbs (by omega)
      omega
    by_cases hn : n < 0
    · rw [dt hn, hd]
      simp only [cond_true]
      rw [fits_of (by rw [bsl_size]; show (1 + _) * 1 ≤ _; omega)]
      simp only [cond_true, digits, Go.Lib.itoa, if_pos hn]
      exact congrArg some (bsl_app [45] _)
    · rw [df hn, hd]
      simp only [cond_false, digits, Go.Lib.itoa, if_neg hn, show n.toNat = n.natAbs by omega]
end Go.Proofs.YtameehmkoglkeaaDoor.M
