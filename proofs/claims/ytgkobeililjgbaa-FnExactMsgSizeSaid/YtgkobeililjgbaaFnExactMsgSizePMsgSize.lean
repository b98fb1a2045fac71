/- What the plain forms that FnExactMsgSize reaches come to: PMsgSize. No conditions but those that each theorem states. -/
import Derived.Test.YtgkobeililjgbaaFnExactMsgSizePMsgB
namespace Go.Proofs.Ytgkobeililjgbaa.M
open Go Go.Eng Go.Proofs
set_option linter.unusedVariables false
theorem MsgSize_ok (a0 : Int) (a1 : Int) (a2 : Int) (a3 : Int) (a4 : Int) (a5 : List Int) (a6 : Int) (a7 : List Int) (a8 : List Int) (a9 : List XItem) (a10 : List XFloor) (a11 : List XFloor) (h : smM a5 a7 a8 a9 a10 a11) : impl_MsgSize w (a0, a1, a2, a3, a4, a5, a6, a7, a8, a9, a10, a11) = some (((msgBytes a0 a1 a2 a3 a4 a5 a6 a7 a8 a9 a10 a11).length : Nat) : Int) := by
  apply impl_MsgSize_of
  simp only [impl_MsgSize_raw, MsgBytes_ok a0 a1 a2 a3 a4 a5 a6 a7 a8 a9 a10 a11 h, Option.bind_some]
theorem sMsgSize_ok (a0 : Int) (a1 : Int) (a2 : Int) (a3 : Int) (a4 : Int) (a5 : List Int) (a6 : Int) (a7 : List Int) (a8 : List Int) (a9 : List XItem) (a10 : List XFloor) (a11 : List XFloor) (h : smM a5 a7 a8 a9 a10 a11) : spec_MsgSize w (a0, a1, a2, a3, a4, a5, a6, a7, a8, a9, a10, a11) = some (((msgBytes a0 a1 a2 a3 a4 a5 a6 a7 a8 a9 a10 a11).length : Nat) : Int) := by
  apply spec_MsgSize_of
  simp only [spec_MsgSize_raw, sMsgBytes_ok a0 a1 a2 a3 a4 a5 a6 a7 a8 a9 a10 a11 h, Option.bind_some]
theorem ft_msg (a0 : Int) (a1 : Int) (a2 : Int) (a3 : Int) (a4 : Int) (a5 : List Int) (a6 : Int) (a7 : List Int) (a8 : List Int) (a9 : List XItem) (a10 : List XFloor) (a11 : List XFloor) (h : ft_Msg (a0, a1, a2, a3, a4, a5, a6, a7, a8, a9, a10, a11)) : smM a5 a7 a8 a9 a10 a11 := by
  simp only [ft_Msg, ft_State, ft_ItemS, ft_FloorS, ft_Tree, ft_IntS, ft_MarkS] at h
  obtain ⟨h5, h7, h8, ⟨⟨h9, _⟩, h10⟩, h11⟩ := h
  exact ⟨h5, h7, h8, h9, h10, h11⟩
theorem law_MsgSize (a0 : Int) (a1 : Int) (a2 : Int) (a3 : Int) (a4 : Int) (a5 : List Int) (a6 : Int) (a7 : List Int) (a8 : List Int) (a9 : List XItem) (a10 : List XFloor) (a11 : List XFloor) (hf : ft_Msg (a0, a1, a2, a3, a4, a5, a6, a7, a8, a9, a10, a11)) : laws_FnExactMsgSize w (a0, a1, a2, a3, a4, a5, a6, a7, a8, a9, a10, a11) = some true := by
  apply laws_FnExactMsgSize_of
  have hs := ft_msg a0 a1 a2 a3 a4 a5 a6 a7 a8 a9 a10 a11 hf
  simp only [laws_FnExactMsgSize_raw, sz_Msg a0 a1 a2 a3 a4 a5 a6 a7 a8 a9 a10 a11 1048576 (by omega) (by omega) hf, Option.bind_some]
  by_cases h : (mz_Msg (a0, a1, a2, a3, a4, a5, a6, a7, a8, a9, a10, a11) : Int) ≤ 1048576
  · rw [szI_pos h, df (by omega), cond_false]
    simp only [to_Msg a0 a1 a2 a3 a4 a5 a6 a7 a8 a9 a10 a11 (by omega), sMsgSize_ok a0 a1 a2 a3 a4 a5 a6 a7 a8 a9 a10 a11 hs, MsgSize_ok a0 a1 a2 a3 a4 a5 a6 a7 a8 a9 a10 a11 hs, eq_Msg a0 a1 a2 a3 a4 a5 a6 a7 a8 a9 a10 a11 (by omega), Option.bind_some, decide_true, Bool.not_true, cond_false]
  · rw [szI_neg h, dt (by omega), cond_true]
end Go.Proofs.Ytgkobeililjgbaa.M
