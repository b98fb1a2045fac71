/- What the plain forms that FnExactLogSize reaches come to: PLogSize. No conditions but those that each theorem states. -/
import Derived.Test.YtgkobeililjgbaaFnExactLogSizePSafe
namespace Go.Proofs.Ytgkobeililjgbaa.M
open Go Go.Eng Go.Proofs
set_option linter.unusedVariables false
def stBz (s : XState) : List Int := bif stOk s then stB s else []
theorem stBz_len (s : XState) : (stBz s).length ≤ 2000000 := by
  unfold stBz
  cases h : stOk s
  · simp
  · simp only [cond_true]; exact stB_len (stOk_smB h)
/-- The bytes of a log's changes. -/
def sumB : Int → List XState → Int
  | n, [] => n
  | n, s :: l => sumB (n + ((stBz s).length : Nat)) l
def logSize (a0 : Int) (a1 : Int) (a2 : List XItem) (a3 : List XFloor) (a4 : List Int) (a5 : Int) (a6 : Int) (a7 : Int) (a8 : List XState) (a9 : List Int) (a10 : List Int) (a11 : List (List Int)) (a12 : Int) (a13 : Int) (a14 : List XSess) (a15 : Int) (a16 : Int) (a17 : Int) (a18 : List XRise) : Int := bif nodeOk a0 a1 a2 a3 a4 a5 a6 a7 a8 a9 a10 a11 a12 a13 a14 a15 a16 a17 a18 then sumB 0 a8 else 0
theorem LogSize_ok (a0 : Int) (a1 : Int) (a2 : List XItem) (a3 : List XFloor) (a4 : List Int) (a5 : Int) (a6 : Int) (a7 : Int) (a8 : List XState) (a9 : List Int) (a10 : List Int) (a11 : List (List Int)) (a12 : Int) (a13 : Int) (a14 : List XSess) (a15 : Int) (a16 : Int) (a17 : Int) (a18 : List XRise) (h : smN a2 a3 a4 a8 a9 a10 a11 a14 a18) : impl_LogSize w (a0, a1, a2, a3, a4, a5, a6, a7, a8, a9, a10, a11, a12, a13, a14, a15, a16, a17, a18) = some (logSize a0 a1 a2 a3 a4 a5 a6 a7 a8 a9 a10 a11 a12 a13 a14 a15 a16 a17 a18) := by
  apply impl_LogSize_of
  simp only [impl_LogSize_raw, NodeOk_ok a0 a1 a2 a3 a4 a5 a6 a7 a8 a9 a10 a11 a12 a13 a14 a15 a16 a17 a18 h, Option.bind_some, logSize]
  obtain ⟨h2, h3, h4, h8, h8', h9, h10, h11, h11', h14, h18⟩ := h
  cases hn : nodeOk a0 a1 a2 a3 a4 a5 a6 a7 a8 a9 a10 a11 a12 a13 a14 a15 a16 a17 a18
  · simp
  · have hg := logOk_nums (nodeOk_acked a0 a1 a2 a3 a4 a5 a6 a7 a8 a9 a10 a11 a12 a13 a14 a15 a16 a17 a18 hn).2.1
    simp only at hg
    have e := loop_st a8.length (fun i (m : Int) => impl_LogSize_k0 wl (m, a8, ((a8.length : Nat) : Int), (i : Int))) (fun i m => sumB m (a8.drop i)) (fun i m => 0 ≤ m ∧ m ≤ 2000000 * i)
      (fun i hi m hm ih => by
        apply impl_LogSize_l0_of
        have hx := h8' _ (List.getElem_mem hi)
        have hb := stBz_len a8[i]
        have ih1 := ih (m + ((stBz a8[i]).length : Nat)) (by omega)
        have hs : impl_StateBytes w (a8[i].1, a8[i].2) = some (stBz a8[i]) := StateBytes_ok _ _ hx.1 hx.2
        simp only [impl_LogSize_l0, ilt hi, inb_of hi, rd1_get hi, inc hi h8, cond_true, hs, Option.bind_some]
        rw [w64 (by omega) (by omega), ih1, List.drop_eq_getElem_cons hi, sumB])
      (fun m _ => by
        apply impl_LogSize_l0_of
        simp [impl_LogSize_l0, sumB])
      0 (by omega)
    simp only [Int.natCast_zero, List.drop_zero] at e
    simp only [Bool.not_true, cond_false, cond_true, Option.bind_some, e]
theorem sLogSize_ok (a0 : Int) (a1 : Int) (a2 : List XItem) (a3 : List XFloor) (a4 : List Int) (a5 : Int) (a6 : Int) (a7 : Int) (a8 : List XState) (a9 : List Int) (a10 : List Int) (a11 : List (List Int)) (a12 : Int) (a13 : Int) (a14 : List XSess) (a15 : Int) (a16 : Int) (a17 : Int) (a18 : List XRise) (h : smN a2 a3 a4 a8 a9 a10 a11 a14 a18) : spec_LogSize w (a0, a1, a2, a3, a4, a5, a6, a7, a8, a9, a10, a11, a12, a13, a14, a15, a16, a17, a18) = some (logSize a0 a1 a2 a3 a4 a5 a6 a7 a8 a9 a10 a11 a12 a13 a14 a15 a16 a17 a18) := by
  apply spec_LogSize_of
  simp only [spec_LogSize_raw, sNodeOk_ok a0 a1 a2 a3 a4 a5 a6 a7 a8 a9 a10 a11 a12 a13 a14 a15 a16 a17 a18 h, Option.bind_some, logSize]
  obtain ⟨h2, h3, h4, h8, h8', h9, h10, h11, h11', h14, h18⟩ := h
  cases hn : nodeOk a0 a1 a2 a3 a4 a5 a6 a7 a8 a9 a10 a11 a12 a13 a14 a15 a16 a17 a18
  · simp
  · have hg := logOk_nums (nodeOk_acked a0 a1 a2 a3 a4 a5 a6 a7 a8 a9 a10 a11 a12 a13 a14 a15 a16 a17 a18 hn).2.1
    simp only at hg
    have e := loop_st a8.length (fun i (m : Int) => spec_LogSize_k0 wl (m, (i : Int), a0, a1, a2, a3, a4, a5, a6, a7, a8, a9, a10, a11, a12, a13, a14, a15, a16, a17, a18)) (fun i m => sumB m (a8.drop i)) (fun i m => 0 ≤ m ∧ m ≤ 2000000 * i)
      (fun i hi m hm ih => by
        apply spec_LogSize_l0_of
        have hx := h8' _ (List.getElem_mem hi)
        have hb := stBz_len a8[i]
        have ih1 := ih (m + ((stBz a8[i]).length : Nat)) (by omega)
        have hs : spec_StateBytes w (a8[i].1, a8[i].2) = some (stBz a8[i]) := sStateBytes_ok _ _ hx.1 hx.2
        simp only [spec_LogSize_l0, ilt hi, inb_of hi, rd1_get hi, inc hi h8, cond_true, hs, Option.bind_some]
        rw [w64 (by omega) (by omega), ih1, List.drop_eq_getElem_cons hi, sumB])
      (fun m _ => by
        apply spec_LogSize_l0_of
        simp [spec_LogSize_l0, sumB])
      0 (by omega)
    simp only [Int.natCast_zero, List.drop_zero] at e
    simp only [Bool.not_true, cond_false, cond_true, Option.bind_some, e]
theorem law_LogSize (a0 : Int) (a1 : Int) (a2 : List XItem) (a3 : List XFloor) (a4 : List Int) (a5 : Int) (a6 : Int) (a7 : Int) (a8 : List XState) (a9 : List Int) (a10 : List Int) (a11 : List (List Int)) (a12 : Int) (a13 : Int) (a14 : List XSess) (a15 : Int) (a16 : Int) (a17 : Int) (a18 : List XRise) (hf : ft_Node (a0, a1, a2, a3, a4, a5, a6, a7, a8, a9, a10, a11, a12, a13, a14, a15, a16, a17, a18)) : laws_FnExactLogSize w (a0, a1, a2, a3, a4, a5, a6, a7, a8, a9, a10, a11, a12, a13, a14, a15, a16, a17, a18) = some true := by
  apply laws_FnExactLogSize_of
  have hs := ft_node a0 a1 a2 a3 a4 a5 a6 a7 a8 a9 a10 a11 a12 a13 a14 a15 a16 a17 a18 hf
  simp only [laws_FnExactLogSize_raw, sz_Node a0 a1 a2 a3 a4 a5 a6 a7 a8 a9 a10 a11 a12 a13 a14 a15 a16 a17 a18 1048576 (by omega) (by omega) hf, Option.bind_some]
  by_cases h : (mz_Node (a0, a1, a2, a3, a4, a5, a6, a7, a8, a9, a10, a11, a12, a13, a14, a15, a16, a17, a18) : Int) ≤ 1048576
  · rw [szI_pos h, df (by omega), cond_false]
    simp only [to_Node a0 a1 a2 a3 a4 a5 a6 a7 a8 a9 a10 a11 a12 a13 a14 a15 a16 a17 a18 (by omega), sLogSize_ok a0 a1 a2 a3 a4 a5 a6 a7 a8 a9 a10 a11 a12 a13 a14 a15 a16 a17 a18 hs, LogSize_ok a0 a1 a2 a3 a4 a5 a6 a7 a8 a9 a10 a11 a12 a13 a14 a15 a16 a17 a18 hs, eq_Node a0 a1 a2 a3 a4 a5 a6 a7 a8 a9 a10 a11 a12 a13 a14 a15 a16 a17 a18 (by omega), Option.bind_some, decide_true, Bool.not_true, cond_false]
  · rw [szI_neg h, dt (by omega), cond_true]
end Go.Proofs.Ytgkobeililjgbaa.M
