/- What the plain forms that FnExactAlive reaches come to: PEntry. No conditions but those that each theorem states. -/
import Derived.Test.YtjenicbpdklpbaaGreatFnExactAlivePFam
set_option linter.all false
namespace Go.Proofs.YtjenicbpdklpbaaGreat.M
open Go Go.Eng Go.Proofs
set_option linter.unusedVariables false
def cmpI (a b : Int) : Int := if a < b then -1 else if b < a then 1 else 0
def cmpS (a b : ByteArray) : Int := Go.Lib.compareBytes a.data.toList b.data.toList
def or5 (a b c d e : Int) : Int := if a ≠ 0 then a else if b ≠ 0 then b else if c ≠ 0 then c else if d ≠ 0 then d else e
def entCmp (x y : XEntry) : Int := or5 (cmpI x.1 y.1) (cmpI x.2.1 y.2.1) (cmpI x.2.2.1 y.2.2.1) (cmpI x.2.2.2.1 y.2.2.2.1) (cmpS x.2.2.2.2 y.2.2.2.2)
def entMax (x y : XEntry) : XEntry := if entCmp x y < 0 then y else x
theorem bytesLess_cmp : (a b : List UInt8) → Op.bytesLess a b = decide (Go.Lib.compareBytes a b = -1) ∧ (Go.Lib.compareBytes a b = 0 ↔ a = b) ∧ (Go.Lib.compareBytes a b = -1 ∨ Go.Lib.compareBytes a b = 0 ∨ Go.Lib.compareBytes a b = 1)
  | [], [] => by simp [Op.bytesLess, Go.Lib.compareBytes]
  | [], _ :: _ => by simp [Op.bytesLess, Go.Lib.compareBytes]
  | _ :: _, [] => by simp [Op.bytesLess, Go.Lib.compareBytes]
  | a :: l, b :: m => by
    have ih := bytesLess_cmp l m
    by_cases h : a < b
    · have hne : a ≠ b := fun e => by subst e; exact UInt8.lt_irrefl _ h
      simp [Op.bytesLess, Go.Lib.compareBytes, h, hne]
    · by_cases h2 : b < a
      · have hne : a ≠ b := fun e => by subst e; exact UInt8.lt_irrefl _ h2
        simp [Op.bytesLess, Go.Lib.compareBytes, h, h2, hne]
      · have he : a = b := UInt8.le_antisymm (UInt8.not_lt.1 h2) (UInt8.not_lt.1 h)
        subst he
        simp only [Op.bytesLess, Go.Lib.compareBytes, h, if_false]
        simpa using ih
def orL : List Int → Int
  | [] => 0
  | x :: l => if x = 0 then orL l else x
def orR : List Int → Int ⊕ Int
  | [] => .inr 0
  | x :: l => if x = 0 then orR l else .inl x
theorem orR_orL : (l : List Int) → elimS (orR l) (fun u => some u) (fun z => some z) = some (orL l)
  | [] => rfl
  | x :: l => by
    have ih := orR_orL l
    by_cases h : x = 0
    · simp only [orR, orL, h, if_true]; exact ih
    · simp only [orR, orL, h, if_false, elimS, Sum.elim_inl]
theorem or5_orL (a b c d e : Int) : orL [a, b, c, d, e] = or5 a b c d e := by
  simp only [orL, or5]
  by_cases h1 : a = 0 <;> by_cases h2 : b = 0 <;> by_cases h3 : c = 0 <;> by_cases h4 : d = 0 <;> by_cases h5 : e = 0 <;> simp [h1, h2, h3, h4, h5]
theorem sCmpS (a b : ByteArray) : (bif Op.bytesLess a.toList b.toList then some (-1) else some (if (!(Op.bytesLess a.toList b.toList || beqS a b)) = true then (1 : Int) else 0)) = some (cmpS a b) := by
  rw [toList_data, toList_data, beqS_eq]
  obtain ⟨h1, h2, h3⟩ := bytesLess_cmp a.data.toList b.data.toList
  have h4 : a = b ↔ a.data.toList = b.data.toList := by
    constructor
    · intro h; rw [h]
    · intro h
      cases a; cases b
      exact congrArg ByteArray.mk (Array.toList_inj.1 h)
  rw [h1]
  unfold cmpS
  by_cases hl : Go.Lib.compareBytes a.data.toList b.data.toList = -1
  · simp [hl]
  · by_cases hz : Go.Lib.compareBytes a.data.toList b.data.toList = 0
    · have : a = b := h4.2 (h2.1 hz)
      subst this
      simp [hz]
    · have : a ≠ b := fun h => hz (h2.2 (h4.1 h))
      have h1' : Go.Lib.compareBytes a.data.toList b.data.toList = 1 := by omega
      simp [h1', this]
end Go.Proofs.YtjenicbpdklpbaaGreat.M
