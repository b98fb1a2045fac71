/- What the plain forms that FnExactLogSize reaches come to: PSafe. No conditions but those that each theorem states. -/
import Derived.Test.YtgkobeililjgbaaFnExactLogSizePNode2
namespace Go.Proofs.Ytgkobeililjgbaa.M
open Go Go.Eng Go.Proofs
set_option linter.unusedVariables false
/-- The least of what the others have acknowledged. -/
def safeF (id : Int) : Nat → Int → List Int → Int
  | _, m, [] => m
  | i, m, x :: l => bif decide ((i : Int) = id) then safeF id (i + 1) m l else safeF id (i + 1) (mnI m x) l
def safe (a0 : Int) (a1 : Int) (a2 : List XItem) (a3 : List XFloor) (a4 : List Int) (a5 : Int) (a6 : Int) (a7 : Int) (a8 : List XState) (a9 : List Int) (a10 : List Int) (a11 : List (List Int)) (a12 : Int) (a13 : Int) (a14 : List XSess) (a15 : Int) (a16 : Int) (a17 : Int) (a18 : List XRise) : Int := bif nodeOk a0 a1 a2 a3 a4 a5 a6 a7 a8 a9 a10 a11 a12 a13 a14 a15 a16 a17 a18 then safeF a0 0 (logSeq (a6, a7, a8)) a10 else 0
theorem nodeOk_acked (a0 : Int) (a1 : Int) (a2 : List XItem) (a3 : List XFloor) (a4 : List Int) (a5 : Int) (a6 : Int) (a7 : Int) (a8 : List XState) (a9 : List Int) (a10 : List Int) (a11 : List (List Int)) (a12 : Int) (a13 : Int) (a14 : List XSess) (a15 : Int) (a16 : Int) (a17 : Int) (a18 : List XRise) (h : nodeOk a0 a1 a2 a3 a4 a5 a6 a7 a8 a9 a10 a11 a12 a13 a14 a15 a16 a17 a18 = true) : ((a10.length : Nat) : Int) = a1 ∧ logOk (a6, a7, a8) = true ∧ inR a1 1 5 = true := by
  simp only [nodeOk, Bool.and_eq_true] at h
  obtain ⟨⟨⟨⟨⟨⟨⟨⟨⟨⟨⟨⟨⟨⟨⟨⟨⟨⟨h1, _⟩, _⟩, _⟩, h2⟩, _⟩, h3⟩, _⟩, _⟩, _⟩, _⟩, _⟩, _⟩, _⟩, _⟩, _⟩, _⟩, _⟩, _⟩ := h
  simp [vecOk] at h3
  exact ⟨h3.1.2, h2, h1⟩
theorem ft_node (a0 : Int) (a1 : Int) (a2 : List XItem) (a3 : List XFloor) (a4 : List Int) (a5 : Int) (a6 : Int) (a7 : Int) (a8 : List XState) (a9 : List Int) (a10 : List Int) (a11 : List (List Int)) (a12 : Int) (a13 : Int) (a14 : List XSess) (a15 : Int) (a16 : Int) (a17 : Int) (a18 : List XRise) (h : ft_Node (a0, a1, a2, a3, a4, a5, a6, a7, a8, a9, a10, a11, a12, a13, a14, a15, a16, a17, a18)) : smN a2 a3 a4 a8 a9 a10 a11 a14 a18 := by
  simp only [ft_Node, ft_State, ft_ItemS, ft_FloorS, ft_Tree, ft_IntS, ft_Log, ft_StateS, ft_IntSS, ft_SessS, ft_RiseS] at h
  obtain ⟨⟨⟨h2, _⟩, h3⟩, h4, ⟨h8, h8'⟩, h9, h10, ⟨h11, h11'⟩, h14, h18⟩ := h
  exact ⟨h2, h3, h4, h8, fun s hs => ⟨(h8' s hs).1.1, (h8' s hs).2⟩, h9, h10, h11, h11', h14, h18⟩
end Go.Proofs.Ytgkobeililjgbaa.M
