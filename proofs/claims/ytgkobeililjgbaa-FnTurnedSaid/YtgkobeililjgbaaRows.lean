/-
  No cell of these rows narrows 'for every input' (looked for: loops, veiled, ifaces, maps, wideKeys, modest, calm, conditions, laid).
  DERIVED. THE GIVEN ROWS OF THIS SEAT. 9 by the template 'for every input the law returns true; each argument reads behind the call as it read before'; 0 by the template 'total and deterministic' (their statements: YtgkobeililjgbaaTotals.lean).
  GIVEN WITH THE SEED: the statements are not yours to turn. If you find one false, say at which input.
  Laid BY PROGRAM, IN A SANDBOX (cutbox-rows.mjs): the forced cells as the released guide's own fill.sh prints them over the translation 0afdf4f980a025ee… (all of the seat's roots in one cut). By AI agents, Wed Nov 11 2026. No macro, syntax, notation, axiom, sorry.
-/
import Derived.Test.YtgkobeililjgbaaChecked
import GoSem.Claim
import GoSem.ClaimJoined
import GoSem.ClaimMapViews
import Derived.JoinedTies
import Derived.KernelRfl
namespace Go.Proofs.Ytgkobeililjgbaa
/- THE CELL 'sum', in the pinned program and in every row, IS THE sha256 OF THE DUMP (.gsa) THAT YtgkobeililjgbaaProg.lean LOADS. Nothing in Lean hashes anything: it is a label: what it is worth is what the hold of that sum in a sandbox is worth. -/
noncomputable def Try.pinned : Pinned := { name := "ytgkobeililjgbaa", sum := "0afdf4f980a025ee5e426968ce724688a4ba1a32870deeac0856c4cf7b670253", checked := Try.checked }
namespace Rows
def none {H : Type} : Left H := { results := [], args := [] }

/-- 'laws.FnExactCodeText': WHATEVER THE INPUT: true; the input reads as it did. -/
def fnExactCodeTextSpec : ChangeSpec := { name := "fnExactCodeText", fn := fun _ => fun
  | [d] => { results := [.lit (.bool true)], args := [d] }
  | _ => none }
def fnExactCodeTextRow : OpenClaim := { program := "ytgkobeililjgbaa", sum := "0afdf4f980a025ee5e426968ce724688a4ba1a32870deeac0856c4cf7b670253", func := "loop.example/g00487/laws.FnExactCodeText", spec := "fnExactCodeText", apart := false }
def FnExactCodeTextSaid : Prop := fnExactCodeTextRow.holds Try.pinned (OpenSpec.ofChange fnExactCodeTextSpec)

/-- ITS FALSE NEIGHBOUR: 'it returns false'. Refute it at one input. -/
def fnExactCodeTextWrong : ChangeSpec := { name := "fnExactCodeText", fn := fun _ => fun
  | [d] => { results := [.lit (.bool false)], args := [d] }
  | _ => none }
def FnExactCodeTextWrongFalsely : Prop := fnExactCodeTextRow.holds Try.pinned (OpenSpec.ofChange fnExactCodeTextWrong)

/-- 'laws.FnExactTurned': WHATEVER THE INPUT: true; the input reads as it did. -/
def fnExactTurnedSpec : ChangeSpec := { name := "fnExactTurned", fn := fun _ => fun
  | [d1, d2] => { results := [.lit (.bool true)], args := [d1, d2] }
  | _ => none }
def fnExactTurnedRow : OpenClaim := { program := "ytgkobeililjgbaa", sum := "0afdf4f980a025ee5e426968ce724688a4ba1a32870deeac0856c4cf7b670253", func := "loop.example/g00487/laws.FnExactTurned", spec := "fnExactTurned", apart := false }
def FnExactTurnedSaid : Prop := fnExactTurnedRow.holds Try.pinned (OpenSpec.ofChange fnExactTurnedSpec)

/-- ITS FALSE NEIGHBOUR: 'it returns false'. Refute it at one input. -/
def fnExactTurnedWrong : ChangeSpec := { name := "fnExactTurned", fn := fun _ => fun
  | [d1, d2] => { results := [.lit (.bool false)], args := [d1, d2] }
  | _ => none }
def FnExactTurnedWrongFalsely : Prop := fnExactTurnedRow.holds Try.pinned (OpenSpec.ofChange fnExactTurnedWrong)

/-- 'laws.FnExactPermutation': WHATEVER THE INPUT: true; the input reads as it did. -/
def fnExactPermutationSpec : ChangeSpec := { name := "fnExactPermutation", fn := fun _ => fun
  | [d1, d2] => { results := [.lit (.bool true)], args := [d1, d2] }
  | _ => none }
def fnExactPermutationRow : OpenClaim := { program := "ytgkobeililjgbaa", sum := "0afdf4f980a025ee5e426968ce724688a4ba1a32870deeac0856c4cf7b670253", func := "loop.example/g00487/laws.FnExactPermutation", spec := "fnExactPermutation", apart := false }
def FnExactPermutationSaid : Prop := fnExactPermutationRow.holds Try.pinned (OpenSpec.ofChange fnExactPermutationSpec)

/-- ITS FALSE NEIGHBOUR: 'it returns false'. Refute it at one input. -/
def fnExactPermutationWrong : ChangeSpec := { name := "fnExactPermutation", fn := fun _ => fun
  | [d1, d2] => { results := [.lit (.bool false)], args := [d1, d2] }
  | _ => none }
def FnExactPermutationWrongFalsely : Prop := fnExactPermutationRow.holds Try.pinned (OpenSpec.ofChange fnExactPermutationWrong)

/-- 'laws.FnTurned': WHATEVER THE INPUT: true; the input reads as it did. -/
def fnTurnedSpec : ChangeSpec := { name := "fnTurned", fn := fun _ => fun
  | [d] => { results := [.lit (.bool true)], args := [d] }
  | _ => none }
def fnTurnedRow : OpenClaim := { program := "ytgkobeililjgbaa", sum := "0afdf4f980a025ee5e426968ce724688a4ba1a32870deeac0856c4cf7b670253", func := "loop.example/g00487/laws.FnTurned", spec := "fnTurned", apart := false }
def FnTurnedSaid : Prop := fnTurnedRow.holds Try.pinned (OpenSpec.ofChange fnTurnedSpec)

/-- ITS FALSE NEIGHBOUR: 'it returns false'. Refute it at one input. -/
def fnTurnedWrong : ChangeSpec := { name := "fnTurned", fn := fun _ => fun
  | [d] => { results := [.lit (.bool false)], args := [d] }
  | _ => none }
def FnTurnedWrongFalsely : Prop := fnTurnedRow.holds Try.pinned (OpenSpec.ofChange fnTurnedWrong)

/-- 'laws.FnExactPlainGone': WHATEVER THE INPUT: true; the input reads as it did. -/
def fnExactPlainGoneSpec : ChangeSpec := { name := "fnExactPlainGone", fn := fun _ => fun
  | [d1, d2] => { results := [.lit (.bool true)], args := [d1, d2] }
  | _ => none }
def fnExactPlainGoneRow : OpenClaim := { program := "ytgkobeililjgbaa", sum := "0afdf4f980a025ee5e426968ce724688a4ba1a32870deeac0856c4cf7b670253", func := "loop.example/g00487/laws.FnExactPlainGone", spec := "fnExactPlainGone", apart := false }
def FnExactPlainGoneSaid : Prop := fnExactPlainGoneRow.holds Try.pinned (OpenSpec.ofChange fnExactPlainGoneSpec)

/-- ITS FALSE NEIGHBOUR: 'it returns false'. Refute it at one input. -/
def fnExactPlainGoneWrong : ChangeSpec := { name := "fnExactPlainGone", fn := fun _ => fun
  | [d1, d2] => { results := [.lit (.bool false)], args := [d1, d2] }
  | _ => none }
def FnExactPlainGoneWrongFalsely : Prop := fnExactPlainGoneRow.holds Try.pinned (OpenSpec.ofChange fnExactPlainGoneWrong)

/-- 'laws.FnExactPlain': WHATEVER THE INPUT: true; the input reads as it did. -/
def fnExactPlainSpec : ChangeSpec := { name := "fnExactPlain", fn := fun _ => fun
  | [d] => { results := [.lit (.bool true)], args := [d] }
  | _ => none }
def fnExactPlainRow : OpenClaim := { program := "ytgkobeililjgbaa", sum := "0afdf4f980a025ee5e426968ce724688a4ba1a32870deeac0856c4cf7b670253", func := "loop.example/g00487/laws.FnExactPlain", spec := "fnExactPlain", inPlace := ["internal/bytealg.abigen_runtime_cmpstring"], apart := false }
def FnExactPlainSaid : Prop := fnExactPlainRow.holds Try.pinned (OpenSpec.ofChange fnExactPlainSpec)

/-- ITS FALSE NEIGHBOUR: 'it returns false'. Refute it at one input. -/
def fnExactPlainWrong : ChangeSpec := { name := "fnExactPlain", fn := fun _ => fun
  | [d] => { results := [.lit (.bool false)], args := [d] }
  | _ => none }
def FnExactPlainWrongFalsely : Prop := fnExactPlainRow.holds Try.pinned (OpenSpec.ofChange fnExactPlainWrong)

/-- 'laws.FnExactMsgSize': WHATEVER THE INPUT: true; the input reads as it did. -/
def fnExactMsgSizeSpec : ChangeSpec := { name := "fnExactMsgSize", fn := fun _ => fun
  | [d] => { results := [.lit (.bool true)], args := [d] }
  | _ => none }
def fnExactMsgSizeRow : OpenClaim := { program := "ytgkobeililjgbaa", sum := "0afdf4f980a025ee5e426968ce724688a4ba1a32870deeac0856c4cf7b670253", func := "loop.example/g00487/laws.FnExactMsgSize", spec := "fnExactMsgSize", apart := false }
def FnExactMsgSizeSaid : Prop := fnExactMsgSizeRow.holds Try.pinned (OpenSpec.ofChange fnExactMsgSizeSpec)

/-- ITS FALSE NEIGHBOUR: 'it returns false'. Refute it at one input. -/
def fnExactMsgSizeWrong : ChangeSpec := { name := "fnExactMsgSize", fn := fun _ => fun
  | [d] => { results := [.lit (.bool false)], args := [d] }
  | _ => none }
def FnExactMsgSizeWrongFalsely : Prop := fnExactMsgSizeRow.holds Try.pinned (OpenSpec.ofChange fnExactMsgSizeWrong)

/-- 'laws.FnExactLogSize': WHATEVER THE INPUT: true; the input reads as it did. -/
def fnExactLogSizeSpec : ChangeSpec := { name := "fnExactLogSize", fn := fun _ => fun
  | [d] => { results := [.lit (.bool true)], args := [d] }
  | _ => none }
def fnExactLogSizeRow : OpenClaim := { program := "ytgkobeililjgbaa", sum := "0afdf4f980a025ee5e426968ce724688a4ba1a32870deeac0856c4cf7b670253", func := "loop.example/g00487/laws.FnExactLogSize", spec := "fnExactLogSize", apart := false }
def FnExactLogSizeSaid : Prop := fnExactLogSizeRow.holds Try.pinned (OpenSpec.ofChange fnExactLogSizeSpec)

/-- ITS FALSE NEIGHBOUR: 'it returns false'. Refute it at one input. -/
def fnExactLogSizeWrong : ChangeSpec := { name := "fnExactLogSize", fn := fun _ => fun
  | [d] => { results := [.lit (.bool false)], args := [d] }
  | _ => none }
def FnExactLogSizeWrongFalsely : Prop := fnExactLogSizeRow.holds Try.pinned (OpenSpec.ofChange fnExactLogSizeWrong)

/-- 'laws.FnExactSafe': WHATEVER THE INPUT: true; the input reads as it did. -/
def fnExactSafeSpec : ChangeSpec := { name := "fnExactSafe", fn := fun _ => fun
  | [d] => { results := [.lit (.bool true)], args := [d] }
  | _ => none }
def fnExactSafeRow : OpenClaim := { program := "ytgkobeililjgbaa", sum := "0afdf4f980a025ee5e426968ce724688a4ba1a32870deeac0856c4cf7b670253", func := "loop.example/g00487/laws.FnExactSafe", spec := "fnExactSafe", apart := false }
def FnExactSafeSaid : Prop := fnExactSafeRow.holds Try.pinned (OpenSpec.ofChange fnExactSafeSpec)

/-- ITS FALSE NEIGHBOUR: 'it returns false'. Refute it at one input. -/
def fnExactSafeWrong : ChangeSpec := { name := "fnExactSafe", fn := fun _ => fun
  | [d] => { results := [.lit (.bool false)], args := [d] }
  | _ => none }
def FnExactSafeWrongFalsely : Prop := fnExactSafeRow.holds Try.pinned (OpenSpec.ofChange fnExactSafeWrong)

/- THE SECOND FORM. 'bulk': how many values and letters a reading holds, each counted each time it is reached (what is shared counts as often as it is met; a slice's spare places count too). A statement '..UptoSaid' is the law's where the arguments, and the package variables that the reading takes, are together of bulk at most 1048576: NARROWER than '..Said'. Prove '..Said' where nothing that the law and all that it calls make is longer than what came in: it says more and counts as full. Else prove '..UptoSaid'. A law counts once. -/
mutual
def uptoBulk {H : Type} : DataW H → Nat
  | .lit (.string bytes) => bytes.length + 1
  | .lit _ => 1
  | .nil => 1
  | .ptr d => uptoBulk d + 1
  | .slice elems spare => uptoBulkAll elems + uptoBulkAll spare + 1
  | .agg parts => uptoBulkAll parts + 1
  | .iface _ d => uptoBulk d + 1
  | .map entries => uptoBulkEntries entries + 1
  | .held _ => 1
def uptoBulkAll {H : Type} : List (DataW H) → Nat
  | [] => 0
  | d :: r => uptoBulk d + uptoBulkAll r
def uptoBulkEntries {H : Type} : List (Lit × DataW H) → Nat
  | [] => 0
  | x :: r => uptoBulkEntry x + uptoBulkEntries r
def uptoBulkEntry {H : Type} : Lit × DataW H → Nat
  | (.string bytes, d) => bytes.length + uptoBulk d + 1
  | (_, d) => uptoBulk d + 1
 end
def uptoSmall : (H : Type) → List (DataW H) → Bool := fun _ ds => decide (uptoBulkAll ds ≤ 1048576)
def OpenSpec.upto (s : _root_.Go.ChangeSpec) : _root_.Go.OpenSpec := { _root_.Go.OpenSpec.ofChange s with cond := some uptoSmall }

/-- 'laws.FnExactCodeText', WHERE WHAT IT READS IS OF BULK AT MOST 1048576: true; the input reads as it did. -/
def fnExactCodeTextUptoRow : OpenClaim := { program := "ytgkobeililjgbaa", sum := "0afdf4f980a025ee5e426968ce724688a4ba1a32870deeac0856c4cf7b670253", func := "loop.example/g00487/laws.FnExactCodeText", spec := "fnExactCodeText", apart := false, narrowed := true }
def FnExactCodeTextUptoSaid : Prop := fnExactCodeTextUptoRow.holds Try.pinned (OpenSpec.upto fnExactCodeTextSpec)

/-- 'laws.FnExactTurned', WHERE WHAT IT READS IS OF BULK AT MOST 1048576: true; the input reads as it did. -/
def fnExactTurnedUptoRow : OpenClaim := { program := "ytgkobeililjgbaa", sum := "0afdf4f980a025ee5e426968ce724688a4ba1a32870deeac0856c4cf7b670253", func := "loop.example/g00487/laws.FnExactTurned", spec := "fnExactTurned", apart := false, narrowed := true }
def FnExactTurnedUptoSaid : Prop := fnExactTurnedUptoRow.holds Try.pinned (OpenSpec.upto fnExactTurnedSpec)

/-- 'laws.FnExactPermutation', WHERE WHAT IT READS IS OF BULK AT MOST 1048576: true; the input reads as it did. -/
def fnExactPermutationUptoRow : OpenClaim := { program := "ytgkobeililjgbaa", sum := "0afdf4f980a025ee5e426968ce724688a4ba1a32870deeac0856c4cf7b670253", func := "loop.example/g00487/laws.FnExactPermutation", spec := "fnExactPermutation", apart := false, narrowed := true }
def FnExactPermutationUptoSaid : Prop := fnExactPermutationUptoRow.holds Try.pinned (OpenSpec.upto fnExactPermutationSpec)

/-- 'laws.FnTurned', WHERE WHAT IT READS IS OF BULK AT MOST 1048576: true; the input reads as it did. -/
def fnTurnedUptoRow : OpenClaim := { program := "ytgkobeililjgbaa", sum := "0afdf4f980a025ee5e426968ce724688a4ba1a32870deeac0856c4cf7b670253", func := "loop.example/g00487/laws.FnTurned", spec := "fnTurned", apart := false, narrowed := true }
def FnTurnedUptoSaid : Prop := fnTurnedUptoRow.holds Try.pinned (OpenSpec.upto fnTurnedSpec)

/-- 'laws.FnExactPlainGone', WHERE WHAT IT READS IS OF BULK AT MOST 1048576: true; the input reads as it did. -/
def fnExactPlainGoneUptoRow : OpenClaim := { program := "ytgkobeililjgbaa", sum := "0afdf4f980a025ee5e426968ce724688a4ba1a32870deeac0856c4cf7b670253", func := "loop.example/g00487/laws.FnExactPlainGone", spec := "fnExactPlainGone", apart := false, narrowed := true }
def FnExactPlainGoneUptoSaid : Prop := fnExactPlainGoneUptoRow.holds Try.pinned (OpenSpec.upto fnExactPlainGoneSpec)

/-- 'laws.FnExactPlain', WHERE WHAT IT READS IS OF BULK AT MOST 1048576: true; the input reads as it did. -/
def fnExactPlainUptoRow : OpenClaim := { program := "ytgkobeililjgbaa", sum := "0afdf4f980a025ee5e426968ce724688a4ba1a32870deeac0856c4cf7b670253", func := "loop.example/g00487/laws.FnExactPlain", spec := "fnExactPlain", inPlace := ["internal/bytealg.abigen_runtime_cmpstring"], apart := false, narrowed := true }
def FnExactPlainUptoSaid : Prop := fnExactPlainUptoRow.holds Try.pinned (OpenSpec.upto fnExactPlainSpec)

/-- 'laws.FnExactMsgSize', WHERE WHAT IT READS IS OF BULK AT MOST 1048576: true; the input reads as it did. -/
def fnExactMsgSizeUptoRow : OpenClaim := { program := "ytgkobeililjgbaa", sum := "0afdf4f980a025ee5e426968ce724688a4ba1a32870deeac0856c4cf7b670253", func := "loop.example/g00487/laws.FnExactMsgSize", spec := "fnExactMsgSize", apart := false, narrowed := true }
def FnExactMsgSizeUptoSaid : Prop := fnExactMsgSizeUptoRow.holds Try.pinned (OpenSpec.upto fnExactMsgSizeSpec)

/-- 'laws.FnExactLogSize', WHERE WHAT IT READS IS OF BULK AT MOST 1048576: true; the input reads as it did. -/
def fnExactLogSizeUptoRow : OpenClaim := { program := "ytgkobeililjgbaa", sum := "0afdf4f980a025ee5e426968ce724688a4ba1a32870deeac0856c4cf7b670253", func := "loop.example/g00487/laws.FnExactLogSize", spec := "fnExactLogSize", apart := false, narrowed := true }
def FnExactLogSizeUptoSaid : Prop := fnExactLogSizeUptoRow.holds Try.pinned (OpenSpec.upto fnExactLogSizeSpec)

/-- 'laws.FnExactSafe', WHERE WHAT IT READS IS OF BULK AT MOST 1048576: true; the input reads as it did. -/
def fnExactSafeUptoRow : OpenClaim := { program := "ytgkobeililjgbaa", sum := "0afdf4f980a025ee5e426968ce724688a4ba1a32870deeac0856c4cf7b670253", func := "loop.example/g00487/laws.FnExactSafe", spec := "fnExactSafe", apart := false, narrowed := true }
def FnExactSafeUptoSaid : Prop := fnExactSafeUptoRow.holds Try.pinned (OpenSpec.upto fnExactSafeSpec)

end Rows
end Go.Proofs.Ytgkobeililjgbaa
