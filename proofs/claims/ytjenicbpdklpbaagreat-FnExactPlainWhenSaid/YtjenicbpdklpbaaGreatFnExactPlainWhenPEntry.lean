/- What the plain forms that FnExactPlainWhen reaches come to: PEntry. No conditions but those that each theorem states. -/
import Derived.Test.YtjenicbpdklpbaaGreatFnExactPlainWhenPFam
set_option linter.all false
namespace Go.Proofs.YtjenicbpdklpbaaGreat.M
open Go Go.Eng Go.Proofs
set_option linter.unusedVariables false
def cmpI (a b : Int) : Int := if a < b then -1 else if b < a then 1 else 0
def cmpS (a b : ByteArray) : Int := Go.Lib.compareBytes a.data.toList b.data.toList
def or5 (a b c d e : Int) : Int := if a ≠ 0 then a else if b ≠ 0 then b else if c ≠ 0 then c else if d ≠ 0 then d else e
def entCmp (x y : XEntry) : Int := or5 (cmpI x.1 y.1) (cmpI x.2.1 y.2.1) (cmpI x.2.2.1 y.2.2.1) (cmpI x.2.2.2.1 y.2.2.2.1) (cmpS x.2.2.2.2 y.2.2.2.2)
def entMax (x y : XEntry) : XEntry := if entCmp x y < 0 then y else x
theorem bytesLess_cmp : (a b : List UInt8) → Op.bytesLess a b = decide (Go.Lib.compareBytes a b = -1) ∧ (Go.Lib.compareBytes a b = 0 ↔ a = b) ∧ (Go.Lib.compareBytes a b = -1 ∨ Go.Lib.compareBytes a b = 0 ∨ Go.Lib.compareBytes a b = 1)
  | [], [] => by simp [Op.bytesLess, Go.Lib.compareBytes]
  | [], _ :: _ => by simp [Op.bytesLess, Go.Lib.compareBytes]
  | _ :: _, [] => by simp [Op.bytesLess, Go.Lib.compareBytes]
  | a :: l, b :: m => by
    have ih := bytesLess_cmp l m
    by_cases h : a < b
    · have hne : a ≠ b := fun e => by subst e; exact UInt8.lt_irrefl _ h
      simp [Op.bytesLess, Go.Lib.compareBytes, h, hne]
    · by_cases h2 : b < a
      · have hne : a ≠ b := fun e => by subst e; exact UInt8.lt_irrefl _ h2
        simp [Op.bytesLess, Go.Lib.compareBytes, h, h2, hne]
      · have he : a = b := UInt8.le_antisymm (UInt8.not_lt.1 h2) (UInt8.not_lt.1 h)
        subst he
        simp only [Op.bytesLess, Go.Lib.compareBytes, h, if_false]
        simpa using ih
theorem isNaN_ok (a : Int) : cmp_isNaN w a = some false := by
  apply cmp_isNaN_of
  simp [cmp_isNaN_raw]
theorem Compare_ok (a b : Int) : cmp_Compare w (a, b) = some (cmpI a b) := by
  apply cmp_Compare_of
  simp only [cmp_Compare_raw, isNaN_ok, Option.bind_some, cond_false, cmpI]
  by_cases h : a < b
  · simp [h]
  · by_cases h2 : b < a
    · simp [h, h2]
    · simp [h, h2]
theorem CompareString_ok (a b : ByteArray) : internal_bytealg_CompareString w (a, b) = some (cmpS a b) := by
  apply internal_bytealg_CompareString_of
  rfl
theorem strCompare_ok (a b : ByteArray) : strings_Compare w (a, b) = some (cmpS a b) := by
  apply strings_Compare_of
  simp only [strings_Compare_raw, CompareString_ok, Option.bind_some]
def orL : List Int → Int
  | [] => 0
  | x :: l => if x = 0 then orL l else x
def orR : List Int → Int ⊕ Int
  | [] => .inr 0
  | x :: l => if x = 0 then orR l else .inl x
theorem orR_orL : (l : List Int) → elimS (orR l) (fun u => some u) (fun z => some z) = some (orL l)
  | [] => rfl
  | x :: l => by
    have ih := orR_orL l
    by_cases h : x = 0
    · simp only [orR, orL, h, if_true]; exact ih
    · simp only [orR, orL, h, if_false, elimS, Sum.elim_inl]
theorem Or_ok (a : List Int) (h : a.length ≤ maxLen) : cmp_Or w a = some (orL a) := by
  apply cmp_Or_of
  have e := loop_ix a.length (fun i => cmp_Or_k0 wl (0, a, ((a.length : Nat) : Int), (i : Int))) (fun i => orR (a.drop i))
    (fun i hi ih => by
      apply cmp_Or_l0_of
      simp only [cmp_Or_l0, ilt hi, inb_of hi, rd1_get hi, inc hi h, cond_true, ih]
      rw [List.drop_eq_getElem_cons hi, orR]
      by_cases hx : a[i] = 0
      · simp only [hx, decide_true, Bool.not_true, cond_false, if_true]
      · simp only [hx, decide_false, Bool.not_false, cond_true, if_false])
    (by
      apply cmp_Or_l0_of
      simp only [cmp_Or_l0, ilt_self, cond_false, List.drop_length, orR])
  simp only [Int.natCast_zero, List.drop_zero] at e
  simp only [cmp_Or_raw, e, Option.bind_some, orR_orL]
theorem or5_orL (a b c d e : Int) : orL [a, b, c, d, e] = or5 a b c d e := by
  simp only [orL, or5]
  by_cases h1 : a = 0 <;> by_cases h2 : b = 0 <;> by_cases h3 : c = 0 <;> by_cases h4 : d = 0 <;> by_cases h5 : e = 0 <;> simp [h1, h2, h3, h4, h5]
theorem EntryCmp_ok (a b c d : Int) (s : ByteArray) (a' b' c' d' : Int) (s' : ByteArray) : impl_EntryCmp w (a, b, c, d, s, a', b', c', d', s') = some (entCmp (a, b, c, d, s) (a', b', c', d', s')) := by
  apply impl_EntryCmp_of
  simp only [impl_EntryCmp_raw, Compare_ok, strCompare_ok, Option.bind_some, Or_ok _ (show List.length [cmpI a a', cmpI b b', cmpI c c', cmpI d d', cmpS s s'] ≤ maxLen by simp [maxLen]), or5_orL, entCmp]
theorem EntryMax_ok (a b c d : Int) (s : ByteArray) (a' b' c' d' : Int) (s' : ByteArray) : impl_EntryMax w (a, b, c, d, s, a', b', c', d', s') = some (entMax (a, b, c, d, s) (a', b', c', d', s')) := by
  apply impl_EntryMax_of
  simp only [impl_EntryMax_raw, EntryCmp_ok, Option.bind_some, entMax]
  by_cases h : entCmp (a, b, c, d, s) (a', b', c', d', s') < 0
  · rw [dt h, cond_true, if_pos h]
  · rw [df h, cond_false, if_neg h]
theorem l1Bit_ok (b : Bool) : spec_l1Bit w b = some (if b then 1 else 0) := by
  apply spec_l1Bit_of
  cases b <;> rfl
theorem l2Cmp_ok (a b : Int) : spec_l2Cmp w (a, b) = some (cmpI a b) := by
  apply spec_l2Cmp_of
  simp only [spec_l2Cmp_raw, l1Bit_ok, Option.bind_some, cmpI]
  by_cases h : a < b
  · simp [h]
  · by_cases h2 : b < a
    · simp [h, h2]
    · simp [h, h2]
theorem sCmpS (a b : ByteArray) : (bif Op.bytesLess a.toList b.toList then some (-1) else some (if (!(Op.bytesLess a.toList b.toList || beqS a b)) = true then (1 : Int) else 0)) = some (cmpS a b) := by
  rw [toList_data, toList_data, beqS_eq]
  obtain ⟨h1, h2, h3⟩ := bytesLess_cmp a.data.toList b.data.toList
  have h4 : a = b ↔ a.data.toList = b.data.toList := by
    constructor
    · intro h; rw [h]
    · intro h
      cases a; cases b
      exact congrArg ByteArray.mk (Array.toList_inj.1 h)
  rw [h1]
  unfold cmpS
  by_cases hl : Go.Lib.compareBytes a.data.toList b.data.toList = -1
  · simp [hl]
  · by_cases hz : Go.Lib.compareBytes a.data.toList b.data.toList = 0
    · have : a = b := h4.2 (h2.1 hz)
      subst this
      simp [hz]
    · have : a ≠ b := fun h => hz (h2.2 (h4.1 h))
      have h1' : Go.Lib.compareBytes a.data.toList b.data.toList = 1 := by omega
      simp [h1', this]
theorem sEntryCmp_ok (a b c d : Int) (s : ByteArray) (a' b' c' d' : Int) (s' : ByteArray) : spec_EntryCmp w (a, b, c, d, s, a', b', c', d', s') = some (entCmp (a, b, c, d, s) (a', b', c', d', s')) := by
  apply spec_EntryCmp_of
  have hlen : ∀ l : List Int, l.length = 4 → spec_EntryCmp_k0 wl (0, a, b, c, d, s, a', b', c', d', s', l) = some (match orR l with | .inl x => .inl x | .inr _ => .inr (a, b, c, d, s, a', b', c', d', s')) := by
    intro l hl
    have e := loop_ix l.length (fun i => spec_EntryCmp_k0 wl ((i : Int), a, b, c, d, s, a', b', c', d', s', l)) (fun i => match orR (l.drop i) with | .inl x => .inl x | .inr _ => .inr (a, b, c, d, s, a', b', c', d', s'))
      (fun i hi ih => by
        apply spec_EntryCmp_l0_of
        simp only [spec_EntryCmp_l0, ilt hi, inb_of hi, rd1_get hi, inc hi (show l.length ≤ maxLen by simp [maxLen]; omega), cond_true, ih]
        rw [List.drop_eq_getElem_cons hi, orR]
        by_cases hx : l[i] = 0
        · simp only [hx, decide_true, Bool.not_true, cond_false, if_true]
        · simp only [hx, decide_false, Bool.not_false, cond_true, if_false])
      (by
        apply spec_EntryCmp_l0_of
        simp only [spec_EntryCmp_l0, ilt_self, cond_false, List.drop_length, orR])
    simpa using e
  simp only [spec_EntryCmp_raw, l2Cmp_ok, l1Bit_ok, Option.bind_some, hlen _ (show List.length [cmpI a a', cmpI b b', cmpI c c', cmpI d d'] = 4 from rfl), entCmp, or5, orR]
  by_cases h1 : cmpI a a' = 0
  · by_cases h2 : cmpI b b' = 0
    · by_cases h3 : cmpI c c' = 0
      · by_cases h4 : cmpI d d' = 0
        · simp only [h1, h2, h3, h4, if_true, elimS, Sum.elim_inr, ne_eq, not_true_eq_false, if_false]
          exact sCmpS s s'
        · simp [h1, h2, h3, h4, elimS]
      · simp [h1, h2, h3, elimS]
    · simp [h1, h2, elimS]
  · simp [h1, elimS]
theorem sEntryMax_ok (a b c d : Int) (s : ByteArray) (a' b' c' d' : Int) (s' : ByteArray) : spec_EntryMax w (a, b, c, d, s, a', b', c', d', s') = some (entMax (a, b, c, d, s) (a', b', c', d', s')) := by
  apply spec_EntryMax_of
  simp only [spec_EntryMax_raw, sEntryCmp_ok, Option.bind_some, entMax]
  by_cases h : entCmp (a, b, c, d, s) (a', b', c', d', s') < 0
  · rw [dt h, cond_true, if_pos h]
  · rw [df h, cond_false, if_neg h]
end Go.Proofs.YtjenicbpdklpbaaGreat.M
