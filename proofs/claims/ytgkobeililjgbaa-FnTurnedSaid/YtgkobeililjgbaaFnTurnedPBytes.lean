/- What the plain forms that FnTurned reaches come to: PBytes. No conditions but those that each theorem states. -/
import Derived.Test.YtgkobeililjgbaaFnTurnedPState
namespace Go.Proofs.Ytgkobeililjgbaa.M
open Go Go.Eng Go.Proofs
set_option linter.unusedVariables false
def putB (n : Int) : Int := IntKind.wrap .u8 (IntKind.wrap .i64 (Int.tmod n 128 + 128))
def putR : Nat → Int → List Int → Int × List Int
  | 0, n, o => (n, o)
  | f + 1, n, o => if 128 ≤ n then putR f (Int.tdiv n 128) (o ++ [putB n]) else (n, o)
/-- A number's bytes. -/
def putNum (n : Int) : List Int := bif inR n 0 2147483647 then (putR 4 n []).2 ++ [IntKind.wrap .u8 (putR 4 n []).1] else []
theorem putR_len : (f : Nat) → (n : Int) → (o : List Int) → (putR f n o).2.length ≤ o.length + f
  | 0, n, o => by simp [putR]
  | f + 1, n, o => by
    simp only [putR]
    split
    · have := putR_len f (Int.tdiv n 128) (o ++ [putB n])
      simp only [List.length_append, List.length_singleton] at this; omega
    · simp
theorem putNum_len (n : Int) : (putNum n).length ≤ 5 := by
  unfold putNum
  have := putR_len 4 n []
  cases inR n 0 2147483647
  · simp
  · simp only [cond_true, List.length_append, List.length_singleton]; simp at this; omega
theorem ofBytes_len (s : ByteArray) : (ofBytes s).length = s.size := by
  show (s.data.toList.map _).length = s.data.size
  rw [List.length_map, Array.length_toList]
def putText (s : ByteArray) : List Int := putNum (s.size : Nat) ++ ofBytes s
theorem putText_len (s : ByteArray) : (putText s).length ≤ 5 + s.size := by
  have := putNum_len (s.size : Nat)
  simp only [putText, List.length_append, ofBytes_len]; omega
def crcStep (x : Int) : Int := if Int.tmod x 2 = 1 then bits .xor .i64 (IntKind.wrap .i64 (Int.tdiv x 2)) 3988292384 else IntKind.wrap .i64 (Int.tdiv x 2)
def crcIt : Nat → Int → Int
  | 0, x => x
  | n + 1, x => crcIt n (crcStep x)
def crcB (s b : Int) : Int := crcIt 8 (bits .xor .i64 s (IntKind.wrap .i64 b))
theorem crcB_eq (s b : Int) : crcB s b = crcIt 8 (bits .xor .i64 s (IntKind.wrap .i64 b)) := by unfold crcB; exact Eq.refl _
def crc (l : List Int) : Int := bits .xor .i64 (l.foldl crcB 4294967295) 4294967295
theorem ilt8 {i : Nat} (h : i < 8) : decide ((i : Int) < 8) = true := by simp; omega
theorem inc8 {i n : Nat} (h : i < n) (hn : n ≤ 1000 := by omega) : IntKind.wrap .i64 ((i : Int) + 1) = ((i + 1 : Nat) : Int) := by
  rw [w64 (by omega) (by omega)]; omega
end Go.Proofs.Ytgkobeililjgbaa.M
