/- What the plain forms that FnExactDeedsText reaches come to: PState. No conditions but those that each theorem states. -/
import Derived.Test.YtameehmkoglkeaaDoorFnExactDeedsTextRaw0
set_option linter.all false
namespace Go.Proofs.YtameehmkoglkeaaDoor.M
open Go Go.Eng Go.Proofs
set_option linter.unusedVariables false
def inR (n lo hi : Int) : Bool := decide (lo ≤ n) && decide (n ≤ hi)
theorem within_ok (n lo hi : Int) : impl_within w (n, lo, hi) = some (inR n lo hi) := by
  apply impl_within_of
  simp only [impl_within_raw, inR]
  cases decide (lo ≤ n) <;> rfl
theorem l1In_ok (n lo hi : Int) : spec_l1In w (n, lo, hi) = some (inR n lo hi) := by
  apply spec_l1In_of
  simp only [spec_l1In_raw, inR]
  cases decide (lo ≤ n) <;> rfl
def entOk (e : XEntry) : Bool := inR e.1 1 1000 && inR e.2.1 0 1 && inR e.2.2.1 0 100000 && inR e.2.2.2.1 0 1000 && decide (((ByteArray.size e.2.2.2.2 : Nat) : Int) ≤ 8)
/-- The entry of a node: its cells, and whether there is one. -/
def entryOf (id : Int) : List XItem → Int × Int × Int × Int × ByteArray × Bool
  | [] => (0, 0, 0, 0, ByteArray.empty, false)
  | x :: l => if x.1 = id then (x.2.1, x.2.2.1, x.2.2.2.1, x.2.2.2.2.1, x.2.2.2.2.2, true) else entryOf id l
def floorOf (id : Int) : List XFloor → Int
  | [] => 0
  | x :: l => if x.1 = id then x.2 else floorOf id l
def entR (id : Int) : List XItem → (Bool × Int × Int × Int × Int × ByteArray) ⊕ Unit
  | [] => .inr ()
  | x :: l => if x.1 = id then .inl (true, x.2) else entR id l
theorem entR_entryOf (id : Int) : (l : List XItem) → elimS (entR id l) (fun u3 => some (u3.2.1, u3.2.2.1, u3.2.2.2.1, u3.2.2.2.2.1, u3.2.2.2.2.2, u3.1)) (fun z4 => some (0, 0, 0, 0, ByteArray.empty, false)) = some (entryOf id l)
  | [] => rfl
  | x :: l => by
    have ih := entR_entryOf id l
    by_cases h : x.1 = id
    · simp only [entR, entryOf, h, if_true, elimS, Sum.elim_inl]
    · simp only [entR, entryOf, h, if_false]; exact ih
def floR (id : Int) : List XFloor → Int ⊕ Unit
  | [] => .inr ()
  | x :: l => if x.1 = id then .inl x.2 else floR id l
theorem floR_floorOf (id : Int) : (l : List XFloor) → elimS (floR id l) (fun u3 => some u3) (fun z4 => some 0) = some (floorOf id l)
  | [] => rfl
  | x :: l => by
    have ih := floR_floorOf id l
    by_cases h : x.1 = id
    · simp only [floR, floorOf, h, if_true, elimS, Sum.elim_inl]
    · simp only [floR, floorOf, h, if_false]; exact ih
def okFloors : Int → List XFloor → Bool
  | _, [] => true
  | p, x :: l => inR x.1 0 4 && inR x.2 1 1000 && decide (p < x.1) && okFloors x.1 l
def okItems (fl : List XFloor) : Int → List XItem → Bool
  | _, [] => true
  | p, x :: l => inR x.1 0 4 && entOk x.2 && decide (floorOf x.1 fl < x.2.1) && decide (p < x.1) && okItems fl x.1 l
def stOk (s : XState) : Bool := okFloors (-1) s.2 && okItems s.2 (-1) s.1
/-- The id before place i. -/
def prevF (b : List XFloor) (i : Nat) : Int := if i = 0 then -1 else (b.getD (i - 1) (0, 0)).1
def prevI (b : List XItem) (i : Nat) : Int := if i = 0 then -1 else (b.getD (i - 1) zItem).1
theorem prevF_succ (b : List XFloor) {i : Nat} (h : i < b.length) : prevF b (i + 1) = b[i].1 := by simp [prevF, List.getD, h]
theorem prevI_succ (b : List XItem) {i : Nat} (h : i < b.length) : prevI b (i + 1) = b[i].1 := by simp [prevI, List.getD, h]
theorem prevF_get (b : List XFloor) {i : Nat} (h0 : 0 < i) (h : i - 1 < b.length) : prevF b i = b[i - 1].1 := by
  simp [prevF, List.getD, h, show ¬ i = 0 by omega]
theorem prevI_get (b : List XItem) {i : Nat} (h0 : 0 < i) (h : i - 1 < b.length) : prevI b i = b[i - 1].1 := by
  simp [prevI, List.getD, h, show ¬ i = 0 by omega]
theorem inR_node {n : Int} (h : inR n 0 4 = true) : -1 < n := by
  simp [inR] at h; omega
theorem dle_not (a b : Int) : decide (a ≤ b) = !decide (b < a) := by
  by_cases h : a ≤ b
  · rw [dt h, df (by omega)]; rfl
  · rw [df h, dt (by omega)]; rfl
end Go.Proofs.YtameehmkoglkeaaDoor.M
