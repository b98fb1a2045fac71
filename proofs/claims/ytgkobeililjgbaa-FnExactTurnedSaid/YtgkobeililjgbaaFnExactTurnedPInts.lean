/- What the plain forms that FnExactTurned reaches come to: PInts. No conditions but those that each theorem states. -/
import Derived.Test.YtgkobeililjgbaaFnExactTurnedRaw0
namespace Go.Proofs.Ytgkobeililjgbaa.M
open Go Go.Eng Go.Proofs
set_option linter.unusedVariables false
theorem toIntS (a : List Int) (ha : a.length ≤ 4294967296) : laws_toIntS w a = some a := by
  apply laws_toIntS_of
  have e := loop_map a (fun x => x) (fun i out => laws_toIntS_k0 wl (a, (i : Int), out)) (fun out => out)
    (fun i h out r ho hk => by
      apply laws_toIntS_l0_of
      simp only [laws_toIntS_l0, ilt h, ho, inb_of h, rd1_get h, inc h (show a.length ≤ maxLen by simp [maxLen]; omega), cond_true, Int.toNat_natCast]
      exact hk)
    (fun out ho => by
      apply laws_toIntS_l0_of
      simp only [laws_toIntS_l0, ilt_self, cond_false])
    (List.replicate a.length 0) (by simp)
  rw [List.map_id'] at e
  have hf : fits a.length 8 = true := fits_of (by omega)
  simp only [laws_toIntS_raw, Int.toNat_natCast, hf]
  simp
  exact e
theorem eqIntS (a b : List Int) (ha : a.length ≤ 4294967296) : laws_eqIntS w (a, b) = some (decide (a = b)) := by
  apply laws_eqIntS_of
  by_cases hl : a.length = b.length
  · have e := loop_eq a b hl (fun i => laws_eqIntS_k0 wl (a, b, (i : Int)))
      (fun i h1 h2 hx => by
        apply laws_eqIntS_l0_of
        simp only [laws_eqIntS_l0, ilt h1, inb_of h1, inb_of h2, rd1_get h1, rd1_get h2, cond_true, hx, decide_false, Bool.not_false])
      (fun i h1 h2 r hx hk => by
        apply laws_eqIntS_l0_of
        simp only [laws_eqIntS_l0, ilt h1, inb_of h1, inb_of h2, rd1_get h1, rd1_get h2, inc h1 (show a.length ≤ maxLen by simp [maxLen]; omega), cond_true, hx, decide_true, Bool.not_true, cond_false]
        exact hk)
      (by
        apply laws_eqIntS_l0_of
        simp only [laws_eqIntS_l0, ilt_self, cond_false])
    simp only [Int.natCast_zero] at e
    simp only [laws_eqIntS_raw, hl, e]
    by_cases hab : a = b
    · simp [hab, elimS]
    · simp [hab, elimS]
  · have hab : a ≠ b := fun h => hl (by rw [h])
    have hl' : ¬ (a.length : Int) = b.length := by omega
    simp [laws_eqIntS_raw, hab, hl']
theorem markIntS (a : List Int) (k : Int) (hk : 0 < k) (hs : k + sumL (fun _ => 1) a ≤ 1152921504606846976) (ha : a.length ≤ 4294967296) : laws_markIntS w (a, k) = some (k + sumL (fun _ => 1) a, markL (fun _ k => k) (fun _ => 1) a k) := by
  apply laws_markIntS_of
  have e := loop_mark (fun _ k => k) (fun _ => 1) a (fun k i ys => laws_markIntS_k0 wl (k, (i : Int), ys)) (fun k ys => (k, ys)) 1152921504606846976
    (fun k i ys h r hy h0 hB hk => by
      apply laws_markIntS_l0_of
      simp only [laws_markIntS_l0, ilt h, inb_of h, inc h (show ys.length ≤ maxLen by simp [maxLen]; omega), cond_true, Int.toNat_natCast]
      rw [w64 (by omega) (by omega)]
      exact hk)
    (fun k ys hy => by
      apply laws_markIntS_l0_of
      simp only [laws_markIntS_l0, ← hy, ilt_self, cond_false])
    k hk hs
  simp only [Int.natCast_zero] at e
  simp only [laws_markIntS_raw, e, Option.bind_some]
theorem heldIntS (a : List Int) (k : Int) (hk : 0 < k) (hs : k + sumL (fun _ => 1) a ≤ 1152921504606846976) (ha : a.length ≤ 4294967296) : laws_heldIntS w (markL (fun _ k => k) (fun _ => 1) a k, k) = some (k + sumL (fun _ => 1) a) := by
  apply laws_heldIntS_of
  have hl := markL_length (fun (_ : Int) (k : Int) => k) (fun _ => 1) a k
  have e := loop_held (fun _ k => k) (fun _ => 1) a k (fun l i => laws_heldIntS_k0 wl (markL (fun _ k => k) (fun _ => 1) a k, l, (i : Int))) 1152921504606846976
    (fun k' i h x r hx hm h0 hB hk => by
      apply laws_heldIntS_l0_of
      simp only [laws_heldIntS_l0, ilt h, inb_of h, rd1_get h, hm, inc h (show (markL (fun (_ : Int) (k : Int) => k) (fun _ => 1) a k).length ≤ maxLen by simp [maxLen]; omega), cond_true, decide_true, Bool.not_true, cond_false]
      rw [w64 (by omega) (by omega)]
      exact hk)
    (fun l => by
      apply laws_heldIntS_l0_of
      simp only [laws_heldIntS_l0, hl, ilt_self, cond_false])
    hk hs
  simp only [Int.natCast_zero] at e
  simp only [laws_heldIntS_raw, e, Option.bind_some, elimS, Sum.elim_inr]
theorem copyInts (a : List Int) (ha : a.length ≤ 4294967296) : impl_copyInts w a = some a := by
  apply impl_copyInts_of
  have hf : fits a.length 8 = true := fits_of (by omega)
  simp [impl_copyInts_raw, hf]
end Go.Proofs.Ytgkobeililjgbaa.M
