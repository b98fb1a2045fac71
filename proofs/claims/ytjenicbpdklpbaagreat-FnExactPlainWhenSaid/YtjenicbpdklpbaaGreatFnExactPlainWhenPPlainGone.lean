/- What the plain forms that FnExactPlainWhen reaches come to: PPlainGone. No conditions but those that each theorem states. -/
import Derived.Test.YtjenicbpdklpbaaGreatFnExactPlainWhenPNode2
set_option linter.all false
namespace Go.Proofs.YtjenicbpdklpbaaGreat.M
open Go Go.Eng Go.Proofs
set_option linter.unusedVariables false
/-- The highest number of a leaving that the parts tell of a node. -/
def plainGone (id : Int) : Int → List XState → Int
  | n, [] => n
  | n, s :: l => bif (entryOf id s.1).2.2.2.2.2 && stOk s && decide ((entryOf id s.1).2.1 = 1) then plainGone id (mxI n (entryOf id s.1).1) l else plainGone id n l
def smS (s : XState) : Prop := s.1.length ≤ maxLen ∧ s.2.length ≤ maxLen
theorem ft_state {a : List XState} (h : ft_StateS a) : ∀ s ∈ a, smS s := fun s hs => by
  have := h.2 s hs
  simp only [ft_State, ft_ItemS, ft_FloorS] at this
  exact ⟨this.1.1, this.2⟩
end Go.Proofs.YtjenicbpdklpbaaGreat.M
