/- What the plain forms that FnExactDeedText reaches come to: PFam. No conditions but those that each theorem states. -/
import Derived.Test.YtameehmkoglkeaaDoorFnExactDeedTextPState
set_option linter.all false
namespace Go.Proofs.YtameehmkoglkeaaDoor.M
open Go Go.Eng Go.Proofs
set_option linter.unusedVariables false
def mz_Deed (x : XEntry) : Nat := ByteArray.size x.2.2.2.2
def ft_Deed (x : XEntry) : Prop := ByteArray.size x.2.2.2.2 ≤ maxLen
theorem fit_Deed {x : XEntry} (h : FitV tEntry x) : ft_Deed x := h.2.2.2.2.1
theorem sz_Deed (a0 : Int) (a1 : Int) (a2 : Int) (a3 : Int) (a4 : ByteArray) (l : Int) (h0 : 0 ≤ l) (hB : l ≤ 1048576) (hf : ft_Deed (a0, a1, a2, a3, a4)) : laws_szDeed w (a0, a1, a2, a3, a4, l) = some (szI (mz_Deed (a0, a1, a2, a3, a4)) l) := by
  apply laws_szDeed_of
  simp only [ft_Deed] at hf
  have e : mz_Deed (a0, a1, a2, a3, a4) = (ByteArray.size a4 + 0) := by simp only [mz_Deed]; omega
  rw [e]
  simp only [laws_szDeed_raw]
  refine sz_len (by omega) (by omega) (hf) fun _ => ?_
  rw [w64 (by omega) (by omega)]
  exact sz_last (by omega)
theorem to_Deed (a0 : Int) (a1 : Int) (a2 : Int) (a3 : Int) (a4 : ByteArray) (h : mz_Deed (a0, a1, a2, a3, a4) ≤ 4294967296) : laws_toDeed w (a0, a1, a2, a3, a4) = some (a0, a1, a2, a3, a4) := by
  apply laws_toDeed_of
  simp only [mz_Deed] at h
  simp only [laws_toDeed_raw]
def mz_DeedS (a : List XEntry) : Nat := a.length + sumL mz_Deed a
def ft_DeedS (a : List XEntry) : Prop := a.length ≤ maxLen ∧ ∀ x ∈ a, ft_Deed x
def mz_IntS (a : List Int) : Nat := a.length
def ft_IntS (a : List Int) : Prop := a.length ≤ maxLen
def mz_Tree (x : XTree) : Nat := mz_IntS x.1
def ft_Tree (x : XTree) : Prop := ft_IntS x.1
theorem fit_Tree {x : XTree} (h : FitV tTree x) : ft_Tree x := h.1.1
def mz_Entry (x : XEntry) : Nat := ByteArray.size x.2.2.2.2
def ft_Entry (x : XEntry) : Prop := ByteArray.size x.2.2.2.2 ≤ maxLen
theorem fit_Entry {x : XEntry} (h : FitV tEntry x) : ft_Entry x := h.2.2.2.2.1
def mz_Item (x : XItem) : Nat := mz_Entry (x.2.1, x.2.2.1, x.2.2.2.1, x.2.2.2.2.1, x.2.2.2.2.2)
def ft_Item (x : XItem) : Prop := ft_Entry (x.2.1, x.2.2.1, x.2.2.2.1, x.2.2.2.2.1, x.2.2.2.2.2)
theorem fit_Item {x : XItem} (h : FitV tItem x) : ft_Item x := fit_Entry ⟨h.2.1, h.2.2.1, h.2.2.2.1, h.2.2.2.2.1, h.2.2.2.2.2.1, trivial⟩
def mz_ItemS (a : List XItem) : Nat := a.length + sumL mz_Item a
def ft_ItemS (a : List XItem) : Prop := a.length ≤ maxLen ∧ ∀ x ∈ a, ft_Item x
def mz_FloorS (a : List XFloor) : Nat := a.length
def ft_FloorS (a : List XFloor) : Prop := a.length ≤ maxLen
def mz_State (x : XState) : Nat := mz_ItemS x.1 + mz_FloorS x.2
def ft_State (x : XState) : Prop := ft_ItemS x.1 ∧ ft_FloorS x.2
theorem fit_State {x : XState} (h : FitV tState x) : ft_State x := ⟨⟨h.1.1, fun y hy => fit_Item (h.1.2 y hy)⟩, h.2.1.1⟩
def mz_MarkS (a : List XFloor) : Nat := a.length
def ft_MarkS (a : List XFloor) : Prop := a.length ≤ maxLen
def mz_Msg (x : XMsg) : Nat := mz_Tree (x.2.2.2.2.2.1, x.2.2.2.2.2.2.1) + mz_IntS x.2.2.2.2.2.2.2.1 + mz_IntS x.2.2.2.2.2.2.2.2.1 + mz_State (x.2.2.2.2.2.2.2.2.2.1, x.2.2.2.2.2.2.2.2.2.2.1) + mz_MarkS x.2.2.2.2.2.2.2.2.2.2.2
def ft_Msg (x : XMsg) : Prop := ft_Tree (x.2.2.2.2.2.1, x.2.2.2.2.2.2.1) ∧ ft_IntS x.2.2.2.2.2.2.2.1 ∧ ft_IntS x.2.2.2.2.2.2.2.2.1 ∧ ft_State (x.2.2.2.2.2.2.2.2.2.1, x.2.2.2.2.2.2.2.2.2.2.1) ∧ ft_MarkS x.2.2.2.2.2.2.2.2.2.2.2
theorem fit_Msg {x : XMsg} (h : FitV tMsg x) : ft_Msg x := ⟨fit_Tree ⟨h.2.2.2.2.2.1, h.2.2.2.2.2.2.1, trivial⟩, h.2.2.2.2.2.2.2.1.1, h.2.2.2.2.2.2.2.2.1.1, fit_State ⟨h.2.2.2.2.2.2.2.2.2.1, h.2.2.2.2.2.2.2.2.2.2.1, trivial⟩, h.2.2.2.2.2.2.2.2.2.2.2.1.1⟩
end Go.Proofs.YtameehmkoglkeaaDoor.M
