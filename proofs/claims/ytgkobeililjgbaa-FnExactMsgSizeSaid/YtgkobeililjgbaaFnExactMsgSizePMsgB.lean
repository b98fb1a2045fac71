/- What the plain forms that FnExactMsgSize reaches come to: PMsgB. No conditions but those that each theorem states. -/
import Derived.Test.YtgkobeililjgbaaFnExactMsgSizePMsg
namespace Go.Proofs.Ytgkobeililjgbaa.M
open Go Go.Eng Go.Proofs
set_option linter.unusedVariables false
def nums (l : List Int) : List Int := putNum (l.length : Nat) ++ l.flatMap putNum
theorem nums_len (l : List Int) : (nums l).length ≤ 5 + l.length * 5 := by
  have h := flat_len putNum 5 l fun x _ => putNum_len x
  have := putNum_len (l.length : Nat)
  simp only [nums, List.length_append]; omega
theorem putNums_ok (l : List Int) (hl : l.length ≤ 4294967296) : impl_putNums w l = some (nums l) := by
  apply impl_putNums_of
  have hp := putNum_len (l.length : Nat)
  have e := loop_st l.length (fun i (o : List Int) => impl_putNums_k0 wl (l, ((l.length : Nat) : Int), (i : Int), o)) (fun i o => o ++ (l.drop i).flatMap putNum) (fun i o => o.length ≤ 5 + i * 5)
    (fun i hi o ho ih => by
      apply impl_putNums_l0_of
      have hb := putNum_len l[i]
      have ih1 := ih (o ++ putNum l[i]) (by rw [List.length_append]; omega)
      have ej : [o, putNum l[i]].flatten = o ++ putNum l[i] := by simp
      have hj := joined_ok [o, putNum l[i]] (by simp [maxLen]) (by rw [ej, List.length_append]; omega)
      simp only [impl_putNums_l0, ilt hi, inb_of hi, rd1_get hi, inc hi (show l.length ≤ maxLen by simp [maxLen]; omega), cond_true, PutNum_ok, Option.bind_some, hj, ej, ih1]
      rw [List.drop_eq_getElem_cons hi, List.flatMap_cons, List.append_assoc])
    (fun o _ => by
      apply impl_putNums_l0_of
      simp [impl_putNums_l0])
    (putNum (l.length : Nat)) (by omega)
  simp only [Int.natCast_zero, List.drop_zero] at e
  simp only [impl_putNums_raw, PutNum_ok, Option.bind_some, e, nums]
theorem l10List_ok (l : List Int) (hl : l.length ≤ 4294967296) : spec_l10List w l = some (nums l) := by
  apply spec_l10List_of
  have hp := putNum_len (l.length : Nat)
  have e := loop_st l.length (fun i (o : List Int) => spec_l10List_k0 wl (l, (i : Int), o)) (fun i o => o ++ (l.drop i).flatMap putNum) (fun i o => o.length ≤ 5 + i * 5)
    (fun i hi o ho ih => by
      apply spec_l10List_l0_of
      have hb := putNum_len l[i]
      have ih1 := ih (o ++ putNum l[i]) (by rw [List.length_append]; omega)
      simp only [spec_l10List_l0, ilt hi, inb_of hi, rd1_get hi, inc hi (show l.length ≤ maxLen by simp [maxLen]; omega), cond_true, sPutNum_ok, Option.bind_some, fits_of (show (o.length + (putNum l[i]).length) * 1 ≤ 140737488351232 by omega), ih1]
      rw [List.drop_eq_getElem_cons hi, List.flatMap_cons, List.append_assoc])
    (fun o _ => by
      apply spec_l10List_l0_of
      simp [spec_l10List_l0])
    (putNum (l.length : Nat)) (by omega)
  simp only [Int.natCast_zero, List.drop_zero] at e
  simp only [spec_l10List_raw, sPutNum_ok, Option.bind_some, e, nums]
/-! The sum of four bytes. -/
def isB (l : List Int) : Prop := ∀ x ∈ l, 0 ≤ x ∧ x < 256
theorem isB_append {a b : List Int} (h : isB a) (h' : isB b) : isB (a ++ b) := fun x hx => by
  rcases List.mem_append.1 hx with h1 | h1
  · exact h x h1
  · exact h' x h1
theorem wrap_u8 (n : Int) : 0 ≤ IntKind.wrap .u8 n ∧ IntKind.wrap .u8 n < 256 := by
  rw [IntKind.wrap_u8]; omega
theorem putR_isB : (f : Nat) → (n : Int) → (o : List Int) → isB o → isB (putR f n o).2
  | 0, n, o, h => h
  | f + 1, n, o, h => by
    simp only [putR]
    split
    · refine putR_isB f _ _ (isB_append h fun x hx => ?_)
      rw [List.mem_singleton.1 hx]; exact wrap_u8 _
    · exact h
theorem putNum_isB (n : Int) : isB (putNum n) := by
  unfold putNum
  cases inR n 0 2147483647
  · intro x hx; simp at hx
  · refine isB_append (putR_isB 4 n [] (fun x hx => by simp at hx)) fun x hx => ?_
    rw [List.mem_singleton.1 hx]; exact wrap_u8 _
theorem flat_isB {α : Type} (f : α → List Int) (h : ∀ x, isB (f x)) (l : List α) : isB (l.flatMap f) := fun x hx => by
  obtain ⟨y, _, hy⟩ := List.mem_flatMap.1 hx
  exact h y x hy
theorem nums_isB (l : List Int) : isB (nums l) := isB_append (putNum_isB _) (flat_isB _ putNum_isB _)
theorem ofBytes_isB (s : ByteArray) : isB (ofBytes s) := fun x hx => by
  simp only [ofBytes, List.mem_map] at hx
  obtain ⟨b, _, rfl⟩ := hx
  have := b.toNat_lt
  omega
theorem itemB_isB (x : XItem) : isB (itemB x) := isB_append (putNum_isB _) (isB_append (putNum_isB _) (isB_append (putNum_isB _) (isB_append (putNum_isB _) (isB_append (putNum_isB _) (isB_append (putNum_isB _) (ofBytes_isB _))))))
theorem floorB_isB (x : XFloor) : isB (floorB x) := isB_append (putNum_isB _) (putNum_isB _)
theorem stB_isB (s : XState) : isB (stB s) := isB_append (putNum_isB _) (isB_append (flat_isB _ itemB_isB _) (isB_append (putNum_isB _) (flat_isB _ floorB_isB _)))
theorem bv_nat (x : Int) (h0 : 0 ≤ x) (h1 : x < 4294967296) : (BitVec.ofInt 64 x).toNat = x.toNat := by
  rw [BitVec.toNat_ofInt]
  have : x % ((2 ^ 64 : Nat) : Int) = x := Int.emod_eq_of_lt h0 (by omega)
  rw [this]
theorem xor_rng (x y : Int) (hx : 0 ≤ x) (hx' : x < 4294967296) (hy : 0 ≤ y) (hy' : y < 4294967296) : 0 ≤ bits .xor .i64 x y ∧ bits .xor .i64 x y < 4294967296 := by
  have e : bits .xor .i64 x y = IntKind.wrap .i64 ((BitVec.ofInt 64 x ^^^ BitVec.ofInt 64 y).toNat : Nat) := rfl
  rw [e, BitVec.toNat_xor, bv_nat x hx hx', bv_nat y hy hy']
  have := Nat.xor_lt_two_pow (n := 32) (x := x.toNat) (y := y.toNat) (by omega) (by omega)
  rw [w64 (by omega) (by omega)]; omega
theorem crcStep_rng (x : Int) (h : 0 ≤ x) (h' : x < 4294967296) : 0 ≤ crcStep x ∧ crcStep x < 4294967296 := by
  have hd := Int.tdiv_eq_ediv_of_nonneg (b := 2) h
  unfold crcStep
  rw [w64 (by omega) (by omega)]
  split
  · exact xor_rng _ _ (by omega) (by omega) (by omega) (by omega)
  · omega
theorem crcIt_rng : (n : Nat) → (x : Int) → 0 ≤ x → x < 4294967296 → 0 ≤ crcIt n x ∧ crcIt n x < 4294967296
  | 0, x, h, h' => ⟨h, h'⟩
  | n + 1, x, h, h' => by
    have := crcStep_rng x h h'
    rw [crcIt]; exact crcIt_rng n _ this.1 this.2
theorem crcB_rng (s b : Int) (h : 0 ≤ s) (h' : s < 4294967296) (hb : 0 ≤ b) (hb' : b < 256) : 0 ≤ crcB s b ∧ crcB s b < 4294967296 := by
  rw [crcB_eq, w64 (by omega) (by omega)]
  have := xor_rng s b h h' hb (by omega)
  exact crcIt_rng 8 _ this.1 this.2
theorem fold_rng : (l : List Int) → (s : Int) → isB l → 0 ≤ s → s < 4294967296 → 0 ≤ l.foldl crcB s ∧ l.foldl crcB s < 4294967296
  | [], s, _, h, h' => ⟨h, h'⟩
  | b :: l, s, hl, h, h' => by
    have hb := hl b (by simp)
    have := crcB_rng s b h h' hb.1 hb.2
    rw [List.foldl_cons]
    exact fold_rng l _ (fun x hx => hl x (by simp [hx])) this.1 this.2
theorem crc_rng (l : List Int) (h : isB l) : 0 ≤ crc l ∧ crc l < 4294967296 := by
  have := fold_rng l 4294967295 h (by omega) (by omega)
  exact xor_rng _ _ this.1 this.2 (by omega) (by omega)
def sum4 (r : Int) : List Int := [IntKind.wrap .u8 (bits .and .i64 (shrI .i64 r 24) 255), IntKind.wrap .u8 (bits .and .i64 (shrI .i64 r 16) 255), IntKind.wrap .u8 (bits .and .i64 (shrI .i64 r 8) 255), IntKind.wrap .u8 (bits .and .i64 r 255)]
theorem and255 (x : Int) (h : 0 ≤ x) (h' : x < 4294967296) : bits .and .i64 x 255 = x % 256 := by
  have e : bits .and .i64 x 255 = IntKind.wrap .i64 ((BitVec.ofInt 64 x &&& BitVec.ofInt 64 255).toNat : Nat) := rfl
  rw [e, BitVec.toNat_and, bv_nat x h h', bv_nat 255 (by omega) (by omega)]
  have : x.toNat &&& (255 : Int).toNat = x.toNat % 256 := Nat.and_two_pow_sub_one_eq_mod x.toNat 8
  rw [this, w64 (by omega) (by omega)]; omega
theorem shr_eq (x : Int) (n : Nat) (m : Int) (hm : (2 : Int) ^ n = m) (hn : n ≤ 64) : shrI .i64 x (n : Int) = Int.fdiv x m := by
  unfold shrI
  rw [Int.toNat_natCast, Nat.min_eq_left (show n ≤ IntKind.bits .i64 from hn), hm]
theorem sum4_eq (r : Int) (h : 0 ≤ r) (h' : r < 4294967296) : sum4 r = [IntKind.wrap .u8 (IntKind.wrap .i64 (Int.tdiv r 16777216)), IntKind.wrap .u8 (Int.tmod (IntKind.wrap .i64 (Int.tdiv r 65536)) 256), IntKind.wrap .u8 (Int.tmod (IntKind.wrap .i64 (Int.tdiv r 256)) 256), IntKind.wrap .u8 (Int.tmod r 256)] := by
  unfold sum4
  have s1 : shrI .i64 r 24 = r / 16777216 := by rw [show (24 : Int) = ((24 : Nat) : Int) from rfl, shr_eq r 24 16777216 (by decide) (by omega), Int.fdiv_eq_ediv_of_nonneg _ (by omega)]
  have s2 : shrI .i64 r 16 = r / 65536 := by rw [show (16 : Int) = ((16 : Nat) : Int) from rfl, shr_eq r 16 65536 (by decide) (by omega), Int.fdiv_eq_ediv_of_nonneg _ (by omega)]
  have s3 : shrI .i64 r 8 = r / 256 := by rw [show (8 : Int) = ((8 : Nat) : Int) from rfl, shr_eq r 8 256 (by decide) (by omega), Int.fdiv_eq_ediv_of_nonneg _ (by omega)]
  have d1 := Int.tdiv_eq_ediv_of_nonneg (b := 16777216) h
  have d2 := Int.tdiv_eq_ediv_of_nonneg (b := 65536) h
  have d3 := Int.tdiv_eq_ediv_of_nonneg (b := 256) h
  rw [s1, s2, s3, d1, d2, d3, and255 _ (by omega) (by omega), and255 _ (by omega) (by omega), and255 _ (by omega) (by omega), and255 _ (by omega) (by omega)]
  rw [w64 (n := r / 16777216) (by omega) (by omega), w64 (n := r / 65536) (by omega) (by omega), w64 (n := r / 256) (by omega) (by omega)]
  rw [Int.tmod_eq_emod_of_nonneg (a := r / 65536) (by omega), Int.tmod_eq_emod_of_nonneg (a := r / 256) (by omega), Int.tmod_eq_emod_of_nonneg (a := r) (by omega)]
  have : r / 16777216 % 256 = r / 16777216 := Int.emod_eq_of_lt (by omega) (by omega)
  rw [this]
theorem crcBytes_ok (l : List Int) (h : l.length ≤ maxLen) : impl_crcBytes w l = some (sum4 (crc l)) := by
  apply impl_crcBytes_of
  simp only [impl_crcBytes_raw, Crc_ok l h, Option.bind_some, dt (show (0 : Int) ≤ 24 by omega), dt (show (0 : Int) ≤ 16 by omega), dt (show (0 : Int) ≤ 8 by omega), cond_true, sum4]
theorem l10Sum_ok (l : List Int) (h : l.length ≤ maxLen) (hb : isB l) : spec_l10Sum w l = some (sum4 (crc l)) := by
  apply spec_l10Sum_of
  have := crc_rng l hb
  simp only [spec_l10Sum_raw, sCrc_ok l h, Option.bind_some, dt (show (16777216 : Int) ≠ 0 by omega), dt (show (65536 : Int) ≠ 0 by omega), dt (show (256 : Int) ≠ 0 by omega), cond_true, sum4_eq _ this.1 this.2]
/-! A message's bytes. -/
def msgHead (a0 : Int) (a1 : Int) (a2 : Int) (a3 : Int) (a4 : Int) (a5 : List Int) (a6 : Int) (a7 : List Int) (a8 : List Int) (a9 : List XItem) (a10 : List XFloor) (a11 : List XFloor) : List Int := [82, 75] ++ (putNum a0 ++ (putNum a1 ++ (putNum a2 ++ (putNum a3 ++ (putNum a4 ++ (nums a5 ++ (putNum a6 ++ (nums a7 ++ (nums a8 ++ (putNum ((stB (a9, a10)).length : Nat) ++ (stB (a9, a10) ++ putNum (a11.length : Nat))))))))))))
def msgBody (a0 : Int) (a1 : Int) (a2 : Int) (a3 : Int) (a4 : Int) (a5 : List Int) (a6 : Int) (a7 : List Int) (a8 : List Int) (a9 : List XItem) (a10 : List XFloor) (a11 : List XFloor) : List Int := msgHead a0 a1 a2 a3 a4 a5 a6 a7 a8 a9 a10 a11 ++ a11.flatMap floorB
def msgBytes (a0 : Int) (a1 : Int) (a2 : Int) (a3 : Int) (a4 : Int) (a5 : List Int) (a6 : Int) (a7 : List Int) (a8 : List Int) (a9 : List XItem) (a10 : List XFloor) (a11 : List XFloor) : List Int := bif msgOk a0 a1 a2 a3 a4 a5 a6 a7 a8 a9 a10 a11 then msgBody a0 a1 a2 a3 a4 a5 a6 a7 a8 a9 a10 a11 ++ sum4 (crc (msgBody a0 a1 a2 a3 a4 a5 a6 a7 a8 a9 a10 a11)) else []
theorem msgOk_sm (a0 : Int) (a1 : Int) (a2 : Int) (a3 : Int) (a4 : Int) (a5 : List Int) (a6 : Int) (a7 : List Int) (a8 : List Int) (a9 : List XItem) (a10 : List XFloor) (a11 : List XFloor) (h : msgOk a0 a1 a2 a3 a4 a5 a6 a7 a8 a9 a10 a11 = true) : a5.length ≤ 4 ∧ a7.length ≤ 5 ∧ a8.length ≤ 4 ∧ stOk (a9, a10) = true ∧ a11.length ≤ 5 := by
  simp only [msgOk, Bool.and_eq_true] at h
  obtain ⟨⟨⟨⟨⟨⟨⟨⟨⟨⟨⟨_, _⟩, _⟩, _⟩, hl⟩, _⟩, _⟩, _⟩, ht⟩, h7⟩, hs⟩, hm⟩ := h
  have h8 := okL_len _ _ hl (by omega)
  have h11 := okFloors_len _ _ hm (by omega)
  refine ⟨?_, by simp at h7; omega, ?_, hs, ?_⟩
  · unfold treeOk at ht
    cases h0 : decide (((a5.length : Nat) : Int) = 0)
    · rw [h0] at ht
      simp at ht; omega
    · simp at h0; rw [h0]; simp
  · rcases h8 with h | h
    · omega
    · rw [h]; simp
  · rcases h11 with h | h
    · omega
    · rw [h]; simp
theorem msgHead_len (a0 : Int) (a1 : Int) (a2 : Int) (a3 : Int) (a4 : Int) (a5 : List Int) (a6 : Int) (a7 : List Int) (a8 : List Int) (a9 : List XItem) (a10 : List XFloor) (a11 : List XFloor) (h : msgOk a0 a1 a2 a3 a4 a5 a6 a7 a8 a9 a10 a11 = true) : (msgHead a0 a1 a2 a3 a4 a5 a6 a7 a8 a9 a10 a11).length ≤ 3000000 := by
  obtain ⟨h5, h7, h8, hs, h11⟩ := msgOk_sm a0 a1 a2 a3 a4 a5 a6 a7 a8 a9 a10 a11 h
  have l0 := putNum_len a0
  have l1 := putNum_len a1
  have l2 := putNum_len a2
  have l3 := putNum_len a3
  have l4 := putNum_len a4
  have l5 := nums_len a5
  have l6 := putNum_len a6
  have l7 := nums_len a7
  have l8 := nums_len a8
  have l9 := putNum_len ((stB (a9, a10)).length : Nat)
  have l10 := stB_len (stOk_smB hs)
  have l11 := putNum_len (a11.length : Nat)
  simp only [msgHead, List.length_append, List.length_cons, List.length_nil]; omega
theorem msgHead_isB (a0 : Int) (a1 : Int) (a2 : Int) (a3 : Int) (a4 : Int) (a5 : List Int) (a6 : Int) (a7 : List Int) (a8 : List Int) (a9 : List XItem) (a10 : List XFloor) (a11 : List XFloor) : isB (msgHead a0 a1 a2 a3 a4 a5 a6 a7 a8 a9 a10 a11) := by
  unfold msgHead
  refine isB_append (fun x hx => ?_) (isB_append (putNum_isB _) (isB_append (putNum_isB _) (isB_append (putNum_isB _) (isB_append (putNum_isB _) (isB_append (putNum_isB _) (isB_append (nums_isB _) (isB_append (putNum_isB _) (isB_append (nums_isB _) (isB_append (nums_isB _) (isB_append (putNum_isB _) (isB_append (stB_isB _) (putNum_isB _))))))))))))
  simp at hx; omega
theorem MsgBytes_loop (b : List XFloor) (hb : b.length ≤ 1000) (o : List Int) (ho : o.length ≤ 3000000) :
    impl_MsgBytes_k0 wl (b, ((b.length : Nat) : Int), 0, o) = some (o ++ b.flatMap floorB) := by
  have e := loop_st b.length (fun i (o : List Int) => impl_MsgBytes_k0 wl (b, ((b.length : Nat) : Int), (i : Int), o)) (fun i o => o ++ (b.drop i).flatMap floorB) (fun i o => o.length ≤ 3000000 + i * 10)
    (fun i hi o ho ih => by
      apply impl_MsgBytes_l0_of
      have hb := floorB_len b[i]
      have ih1 := ih (o ++ floorB b[i]) (by rw [List.length_append]; omega)
      have ej : [o, putNum b[i].1, putNum b[i].2].flatten = o ++ floorB b[i] := by simp [floorB]
      have hj := joined_ok [o, putNum b[i].1, putNum b[i].2] (by simp [maxLen]) (by rw [ej, List.length_append]; omega)
      simp only [impl_MsgBytes_l0, ilt hi, inb_of hi, rd1_get hi, inc hi (show b.length ≤ maxLen by simp [maxLen]; omega), cond_true, PutNum_ok, Option.bind_some, hj, ej, ih1]
      rw [List.drop_eq_getElem_cons hi, List.flatMap_cons, List.append_assoc])
    (fun o _ => by
      apply impl_MsgBytes_l0_of
      simp [impl_MsgBytes_l0])
    o (by omega)
  simpa using e
theorem MsgBytes_ok (a0 : Int) (a1 : Int) (a2 : Int) (a3 : Int) (a4 : Int) (a5 : List Int) (a6 : Int) (a7 : List Int) (a8 : List Int) (a9 : List XItem) (a10 : List XFloor) (a11 : List XFloor) (h : smM a5 a7 a8 a9 a10 a11) : impl_MsgBytes w (a0, a1, a2, a3, a4, a5, a6, a7, a8, a9, a10, a11) = some (msgBytes a0 a1 a2 a3 a4 a5 a6 a7 a8 a9 a10 a11) := by
  apply impl_MsgBytes_of
  simp only [impl_MsgBytes_raw, MsgOk_ok a0 a1 a2 a3 a4 a5 a6 a7 a8 a9 a10 a11 h, Option.bind_some, msgBytes]
  obtain ⟨h5, h7, h8, h9, h10, h11⟩ := h
  cases hm : msgOk a0 a1 a2 a3 a4 a5 a6 a7 a8 a9 a10 a11
  · simp
  obtain ⟨m5, m7, m8, hs, m11⟩ := msgOk_sm a0 a1 a2 a3 a4 a5 a6 a7 a8 a9 a10 a11 hm
  have hl := msgHead_len a0 a1 a2 a3 a4 a5 a6 a7 a8 a9 a10 a11 hm
  have ej : [[82, 75], putNum a0, putNum a1, putNum a2, putNum a3, putNum a4, nums a5, putNum a6, nums a7, nums a8, putNum ((stB (a9, a10)).length : Nat), stB (a9, a10), putNum (a11.length : Nat)].flatten = msgHead a0 a1 a2 a3 a4 a5 a6 a7 a8 a9 a10 a11 := by
    simp only [List.flatten_cons, List.flatten_nil, List.append_nil, msgHead]
  have hj := joined_ok [[82, 75], putNum a0, putNum a1, putNum a2, putNum a3, putNum a4, nums a5, putNum a6, nums a7, nums a8, putNum ((stB (a9, a10)).length : Nat), stB (a9, a10), putNum (a11.length : Nat)] (by simp [maxLen]) (by rw [ej]; omega)
  have hfl := flat_len floorB 10 a11 fun x _ => floorB_len x
  have hbl : (msgBody a0 a1 a2 a3 a4 a5 a6 a7 a8 a9 a10 a11).length ≤ 3000050 := by simp only [msgBody, List.length_append]; omega
  have hc := crcBytes_ok (msgBody a0 a1 a2 a3 a4 a5 a6 a7 a8 a9 a10 a11) (by simp only [maxLen]; omega)
  have ek : [msgBody a0 a1 a2 a3 a4 a5 a6 a7 a8 a9 a10 a11, sum4 (crc (msgBody a0 a1 a2 a3 a4 a5 a6 a7 a8 a9 a10 a11))].flatten = msgBody a0 a1 a2 a3 a4 a5 a6 a7 a8 a9 a10 a11 ++ sum4 (crc (msgBody a0 a1 a2 a3 a4 a5 a6 a7 a8 a9 a10 a11)) := by simp
  have hk := joined_ok [msgBody a0 a1 a2 a3 a4 a5 a6 a7 a8 a9 a10 a11, sum4 (crc (msgBody a0 a1 a2 a3 a4 a5 a6 a7 a8 a9 a10 a11))] (by simp [maxLen]) (by rw [ek, List.length_append]; simp only [sum4, List.length_cons, List.length_nil]; omega)
  have hloop : impl_MsgBytes_k0 wl (a11, ((a11.length : Nat) : Int), 0, msgHead a0 a1 a2 a3 a4 a5 a6 a7 a8 a9 a10 a11) = some (msgBody a0 a1 a2 a3 a4 a5 a6 a7 a8 a9 a10 a11) := MsgBytes_loop a11 (by omega) _ hl
  simp only [Bool.not_true, cond_false, cond_true, StateBytes_ok a9 a10 h9 h10, hs, PutNum_ok, putNums_ok a5 (by omega), putNums_ok a7 (by omega), putNums_ok a8 (by omega), Option.bind_some, hj, ej, hloop, hc, hk, ek]
theorem l10Body_nums (a0 : Int) (a1 : Int) (a2 : Int) (a3 : Int) (a4 : Int) (a5 : List Int) (a6 : Int) (a7 : List Int) (a8 : List Int) (a9 : List XItem) (a10 : List XFloor) (a11 : List XFloor) (o l : List Int) (hl : l.length ≤ 5) (ho : o.length ≤ 10) :
    spec_l10Body_k0 wl (0, a0, a1, a2, a3, a4, a5, a6, a7, a8, a9, a10, a11, o, l) = some (a0, a1, a2, a3, a4, a5, a6, a7, a8, a9, a10, a11, o ++ l.flatMap putNum) := by
  have e := loop_st l.length (fun k (o : List Int) => spec_l10Body_k0 wl ((k : Int), a0, a1, a2, a3, a4, a5, a6, a7, a8, a9, a10, a11, o, l)) (fun k o => (a0, a1, a2, a3, a4, a5, a6, a7, a8, a9, a10, a11, o ++ (l.drop k).flatMap putNum)) (fun k o => o.length ≤ 10 + k * 5)
    (fun k hk o ho ih => by
      apply spec_l10Body_l0_of
      have hb := putNum_len l[k]
      have ih1 := ih (o ++ putNum l[k]) (by rw [List.length_append]; omega)
      simp only [spec_l10Body_l0, ilt hk, inb_of hk, rd1_get hk, inc hk (show l.length ≤ maxLen by simp [maxLen]; omega), cond_true, sPutNum_ok, Option.bind_some, fits_of (show (o.length + (putNum l[k]).length) * 1 ≤ 140737488351232 by omega), ih1]
      rw [List.drop_eq_getElem_cons hk, List.flatMap_cons, List.append_assoc])
    (fun o _ => by
      apply spec_l10Body_l0_of
      simp [spec_l10Body_l0])
    o (by omega)
  simpa using e
theorem l10Body_loop2 (a0 : Int) (a1 : Int) (a2 : Int) (a3 : Int) (a4 : Int) (a5 : List Int) (a6 : Int) (a7 : List Int) (a8 : List Int) (a9 : List XItem) (a10 : List XFloor) (a11 : List XFloor) (hb : a11.length ≤ 1000) (o : List Int) (ho : o.length ≤ 3000000) :
    spec_l10Body_k2 wl (0, a0, a1, a2, a3, a4, a5, a6, a7, a8, a9, a10, a11, o) = some (o ++ a11.flatMap floorB) := by
  have e := loop_st a11.length (fun i (o : List Int) => spec_l10Body_k2 wl ((i : Int), a0, a1, a2, a3, a4, a5, a6, a7, a8, a9, a10, a11, o)) (fun i o => o ++ (a11.drop i).flatMap floorB) (fun i o => o.length ≤ 3000000 + i * 10)
    (fun i hi o ho ih => by
      apply spec_l10Body_l2_of
      have hb := floorB_len a11[i]
      have h1 := putNum_len a11[i].1
      have h2 := putNum_len a11[i].2
      have ih1 := ih (o ++ floorB a11[i]) (by rw [List.length_append]; omega)
      have ej : o ++ putNum a11[i].1 ++ putNum a11[i].2 = o ++ floorB a11[i] := by simp [floorB]
      simp only [spec_l10Body_l2, ilt hi, inb_of hi, rd1_get hi, inc hi (show a11.length ≤ maxLen by simp [maxLen]; omega), cond_true, sPutNum_ok, Option.bind_some, fits_of (show (o.length + (putNum a11[i].1).length) * 1 ≤ 140737488351232 by omega), fits_of (show ((o ++ putNum a11[i].1).length + (putNum a11[i].2).length) * 1 ≤ 140737488351232 by rw [List.length_append]; omega), ej, ih1]
      rw [List.drop_eq_getElem_cons hi, List.flatMap_cons, List.append_assoc])
    (fun o _ => by
      apply spec_l10Body_l2_of
      simp [spec_l10Body_l2])
    o (by omega)
  simpa using e
theorem sMsgBytes_ok (a0 : Int) (a1 : Int) (a2 : Int) (a3 : Int) (a4 : Int) (a5 : List Int) (a6 : Int) (a7 : List Int) (a8 : List Int) (a9 : List XItem) (a10 : List XFloor) (a11 : List XFloor) (h : smM a5 a7 a8 a9 a10 a11) : spec_MsgBytes w (a0, a1, a2, a3, a4, a5, a6, a7, a8, a9, a10, a11) = some (msgBytes a0 a1 a2 a3 a4 a5 a6 a7 a8 a9 a10 a11) := by
  apply spec_MsgBytes_of
  simp only [spec_MsgBytes_raw, sMsgOk_ok a0 a1 a2 a3 a4 a5 a6 a7 a8 a9 a10 a11 h, Option.bind_some, msgBytes]
  obtain ⟨h5, h7, h8, h9, h10, h11⟩ := h
  cases hm : msgOk a0 a1 a2 a3 a4 a5 a6 a7 a8 a9 a10 a11
  · simp
  obtain ⟨m5, m7, m8, hs, m11⟩ := msgOk_sm a0 a1 a2 a3 a4 a5 a6 a7 a8 a9 a10 a11 hm
  have hl := msgHead_len a0 a1 a2 a3 a4 a5 a6 a7 a8 a9 a10 a11 hm
  have hfl := flat_len floorB 10 a11 fun x _ => floorB_len x
  have hbl : (msgBody a0 a1 a2 a3 a4 a5 a6 a7 a8 a9 a10 a11).length ≤ 3000050 := by simp only [msgBody, List.length_append]; omega
  have hbody : spec_l10Body w (a0, a1, a2, a3, a4, a5, a6, a7, a8, a9, a10, a11) = some (msgBody a0 a1 a2 a3 a4 a5 a6 a7 a8 a9 a10 a11) := by
    apply spec_l10Body_of
    have e0 : [82, 75] ++ [a0, a1, a2, a3, a4].flatMap putNum = [82, 75] ++ (putNum a0 ++ (putNum a1 ++ (putNum a2 ++ (putNum a3 ++ putNum a4)))) := by simp
    have hn := l10Body_nums a0 a1 a2 a3 a4 a5 a6 a7 a8 a9 a10 a11 [82, 75] [a0, a1, a2, a3, a4] (by simp) (by simp)
    rw [e0] at hn
    have hh := hl
    simp only [msgHead, List.length_append] at hh
    have hend : ((((((([82, 75] ++ (putNum a0 ++ (putNum a1 ++ (putNum a2 ++ (putNum a3 ++ putNum a4)))) ++ nums a5) ++ putNum a6) ++ nums a7) ++ nums a8) ++ putNum ((stB (a9, a10)).length : Nat)) ++ stB (a9, a10)) ++ putNum (a11.length : Nat)) = msgHead a0 a1 a2 a3 a4 a5 a6 a7 a8 a9 a10 a11 := by simp only [msgHead, List.append_assoc]
    simp only [spec_l10Body_raw, hn, l10List_ok a5 (by omega), l10List_ok a7 (by omega), l10List_ok a8 (by omega), sPutNum_ok, sBytes_ok a9 a10 (stOk_smB hs), Option.bind_some]
    iterate 7 refine (cond_t (fits_of (by simp only [List.length_append]; omega))).trans ?_
    rw [hend, l10Body_loop2 a0 a1 a2 a3 a4 a5 a6 a7 a8 a9 a10 a11 (by omega) _ hl]
    rfl
  have hB : isB (msgBody a0 a1 a2 a3 a4 a5 a6 a7 a8 a9 a10 a11) := isB_append (msgHead_isB a0 a1 a2 a3 a4 a5 a6 a7 a8 a9 a10 a11) (flat_isB _ floorB_isB _)
  have hc := l10Sum_ok (msgBody a0 a1 a2 a3 a4 a5 a6 a7 a8 a9 a10 a11) (by simp only [maxLen]; omega) hB
  simp only [Bool.not_true, cond_false, hbody, Option.bind_some, hc, cond_true]
  exact cond_t (fits_of (by simp only [sum4, List.length_cons, List.length_nil]; omega))
end Go.Proofs.Ytgkobeililjgbaa.M
