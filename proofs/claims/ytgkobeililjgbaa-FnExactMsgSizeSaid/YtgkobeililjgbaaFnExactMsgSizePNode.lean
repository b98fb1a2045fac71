/- What the plain forms that FnExactMsgSize reaches come to: PNode. No conditions but those that each theorem states. -/
import Derived.Test.YtgkobeililjgbaaFnExactMsgSizePStBytes
namespace Go.Proofs.Ytgkobeililjgbaa.M
open Go Go.Eng Go.Proofs
set_option linter.unusedVariables false
def logOk (g : XLog) : Bool := inR g.1 1 8 && decide (((g.2.2.length : Nat) : Int) ≤ g.1) && inR g.2.1 0 100000 && decide (g.2.1 + ((g.2.2.length : Nat) : Int) ≤ 100000) && g.2.2.all stOk
theorem all_ite {α : Type} {R : Type} (p : α → Bool) (l : List α) (x y : R) {i : Nat} (hi : i < l.length) : (if (l.drop i).all p then x else y) = (bif p l[i] then (if (l.drop (i + 1)).all p then x else y) else y) := by
  rw [List.drop_eq_getElem_cons hi, List.all_cons]
  cases p l[i] <;> simp
theorem all_end {α : Type} {R : Type} (p : α → Bool) (l : List α) (x y : R) : (if (l.drop l.length).all p then x else y) = x := by simp
def logSeq (g : XLog) : Int := bif logOk g then g.2.1 + ((g.2.2.length : Nat) : Int) else 0
theorem logOk_nums {g : XLog} (h : logOk g = true) : g.2.2.length ≤ 8 ∧ 0 ≤ g.2.1 ∧ g.2.1 ≤ 100000 ∧ g.2.1 + ((g.2.2.length : Nat) : Int) ≤ 100000 := by
  simp [logOk, inR] at h; omega
def vecOk (v : List Int) (n : Int) : Bool := inR n 1 5 && decide (((v.length : Nat) : Int) = n) && v.all fun x => inR x 0 100000
def rowOk (r : List Int) : Bool := (r.all fun x => inR x 0 1000) && decide (((r.length : Nat) : Int) = 5)
def tableOk (t : List (List Int)) (n : Int) : Bool := inR n 1 5 && decide (((t.length : Nat) : Int) = n) && t.all rowOk
def maxF : Int → List Int → Int
  | m, [] => m
  | m, x :: l => maxF (mxI m x) l
theorem maxF_le (b : Int) : (m : Int) → (l : List Int) → (decide (b < maxF m l) = !(decide (m ≤ b) && l.all fun x => decide (x ≤ b)))
  | m, [] => by
    by_cases h : m ≤ b
    · rw [maxF, dt h, df (show ¬ b < m by omega)]; simp
    · rw [maxF, df h, dt (show b < m by omega)]; simp
  | m, x :: l => by
    rw [maxF, maxF_le b (mxI m x) l, List.all_cons]
    have : decide (mxI m x ≤ b) = (decide (m ≤ b) && decide (x ≤ b)) := by
      unfold mxI
      split
      · by_cases h : x ≤ b
        · simp [h]; omega
        · simp [h]
      · by_cases h : m ≤ b
        · simp [h]; omega
        · simp [h]
    rw [this, Bool.and_assoc]
end Go.Proofs.Ytgkobeililjgbaa.M
