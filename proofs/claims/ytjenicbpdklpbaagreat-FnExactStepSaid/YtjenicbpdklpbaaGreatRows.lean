/-
  No cell of these rows narrows 'for every input' (looked for: loops, veiled, ifaces, maps, wideKeys, modest, calm, conditions, laid).
  DERIVED. THE GIVEN ROWS OF THIS SEAT. 12 by the template 'for every input the law returns true; each argument reads behind the call as it read before'; 0 by the template 'total and deterministic' (their statements: YtjenicbpdklpbaaGreatTotals.lean).
  GIVEN WITH THE SEED: the statements are not yours to turn. If you find one false, say at which input.
  Laid BY PROGRAM, IN A SANDBOX (cutbox-rows.mjs): the forced cells as the released guide's own fill.sh prints them over the translation eefaab647e8a0613… (all of the seat's roots in one cut). By AI agents, Wed Nov 11 2026. No macro, syntax, notation, axiom, sorry.
-/
import Derived.Test.YtjenicbpdklpbaaGreatChecked
import GoSem.Claim
import GoSem.ClaimJoined
import GoSem.ClaimMapViews
import Derived.JoinedTies
import Derived.KernelRfl
namespace Go.Proofs.YtjenicbpdklpbaaGreat
/- THE CELL 'sum', in the pinned program and in every row, IS THE sha256 OF THE DUMP (.gsa) THAT YtjenicbpdklpbaaGreatProg.lean LOADS. Nothing in Lean hashes anything: it is a label: what it is worth is what the hold of that sum in a sandbox is worth. -/
noncomputable def Tryz.pinned : Pinned := { name := "ytjenicbpdklpbaagreat", sum := "eefaab647e8a0613a89dea0a10840deb50c985c7e0ffeb7dcc8ed144d626f7b1", checked := Tryz.checked }
namespace Rows
def none {H : Type} : Left H := { results := [], args := [] }

/-- 'laws.FnExactLag': WHATEVER THE INPUT: true; the input reads as it did. -/
def fnExactLagSpec : ChangeSpec := { name := "fnExactLag", fn := fun _ => fun
  | [d1, d2, d3] => { results := [.lit (.bool true)], args := [d1, d2, d3] }
  | _ => none }
def fnExactLagRow : OpenClaim := { program := "ytjenicbpdklpbaagreat", sum := "eefaab647e8a0613a89dea0a10840deb50c985c7e0ffeb7dcc8ed144d626f7b1", func := "loop.example/g00487/laws.FnExactLag", spec := "fnExactLag", apart := false }
def FnExactLagSaid : Prop := fnExactLagRow.holds Tryz.pinned (OpenSpec.ofChange fnExactLagSpec)

/-- ITS FALSE NEIGHBOUR: 'it returns false'. Refute it at one input. -/
def fnExactLagWrong : ChangeSpec := { name := "fnExactLag", fn := fun _ => fun
  | [d1, d2, d3] => { results := [.lit (.bool false)], args := [d1, d2, d3] }
  | _ => none }
def FnExactLagWrongFalsely : Prop := fnExactLagRow.holds Tryz.pinned (OpenSpec.ofChange fnExactLagWrong)

/-- 'laws.FnExactNext': WHATEVER THE INPUT: true; the input reads as it did. -/
def fnExactNextSpec : ChangeSpec := { name := "fnExactNext", fn := fun _ => fun
  | [d1, d2] => { results := [.lit (.bool true)], args := [d1, d2] }
  | _ => none }
def fnExactNextRow : OpenClaim := { program := "ytjenicbpdklpbaagreat", sum := "eefaab647e8a0613a89dea0a10840deb50c985c7e0ffeb7dcc8ed144d626f7b1", func := "loop.example/g00487/laws.FnExactNext", spec := "fnExactNext", apart := false }
def FnExactNextSaid : Prop := fnExactNextRow.holds Tryz.pinned (OpenSpec.ofChange fnExactNextSpec)

/-- ITS FALSE NEIGHBOUR: 'it returns false'. Refute it at one input. -/
def fnExactNextWrong : ChangeSpec := { name := "fnExactNext", fn := fun _ => fun
  | [d1, d2] => { results := [.lit (.bool false)], args := [d1, d2] }
  | _ => none }
def FnExactNextWrongFalsely : Prop := fnExactNextRow.holds Tryz.pinned (OpenSpec.ofChange fnExactNextWrong)

/-- 'laws.FnExactKept': WHATEVER THE INPUT: true; the input reads as it did. -/
def fnExactKeptSpec : ChangeSpec := { name := "fnExactKept", fn := fun _ => fun
  | [d] => { results := [.lit (.bool true)], args := [d] }
  | _ => none }
def fnExactKeptRow : OpenClaim := { program := "ytjenicbpdklpbaagreat", sum := "eefaab647e8a0613a89dea0a10840deb50c985c7e0ffeb7dcc8ed144d626f7b1", func := "loop.example/g00487/laws.FnExactKept", spec := "fnExactKept", apart := false }
def FnExactKeptSaid : Prop := fnExactKeptRow.holds Tryz.pinned (OpenSpec.ofChange fnExactKeptSpec)

/-- ITS FALSE NEIGHBOUR: 'it returns false'. Refute it at one input. -/
def fnExactKeptWrong : ChangeSpec := { name := "fnExactKept", fn := fun _ => fun
  | [d] => { results := [.lit (.bool false)], args := [d] }
  | _ => none }
def FnExactKeptWrongFalsely : Prop := fnExactKeptRow.holds Tryz.pinned (OpenSpec.ofChange fnExactKeptWrong)

/-- 'laws.FnExactNetSize': WHATEVER THE INPUT: true; the input reads as it did. -/
def fnExactNetSizeSpec : ChangeSpec := { name := "fnExactNetSize", fn := fun _ => fun
  | [d] => { results := [.lit (.bool true)], args := [d] }
  | _ => none }
def fnExactNetSizeRow : OpenClaim := { program := "ytjenicbpdklpbaagreat", sum := "eefaab647e8a0613a89dea0a10840deb50c985c7e0ffeb7dcc8ed144d626f7b1", func := "loop.example/g00487/laws.FnExactNetSize", spec := "fnExactNetSize", apart := false }
def FnExactNetSizeSaid : Prop := fnExactNetSizeRow.holds Tryz.pinned (OpenSpec.ofChange fnExactNetSizeSpec)

/-- ITS FALSE NEIGHBOUR: 'it returns false'. Refute it at one input. -/
def fnExactNetSizeWrong : ChangeSpec := { name := "fnExactNetSize", fn := fun _ => fun
  | [d] => { results := [.lit (.bool false)], args := [d] }
  | _ => none }
def FnExactNetSizeWrongFalsely : Prop := fnExactNetSizeRow.holds Tryz.pinned (OpenSpec.ofChange fnExactNetSizeWrong)

/-- 'laws.FnExactBehind': WHATEVER THE INPUT: true; the input reads as it did. -/
def fnExactBehindSpec : ChangeSpec := { name := "fnExactBehind", fn := fun _ => fun
  | [d1, d2, d3] => { results := [.lit (.bool true)], args := [d1, d2, d3] }
  | _ => none }
def fnExactBehindRow : OpenClaim := { program := "ytjenicbpdklpbaagreat", sum := "eefaab647e8a0613a89dea0a10840deb50c985c7e0ffeb7dcc8ed144d626f7b1", func := "loop.example/g00487/laws.FnExactBehind", spec := "fnExactBehind", apart := false }
def FnExactBehindSaid : Prop := fnExactBehindRow.holds Tryz.pinned (OpenSpec.ofChange fnExactBehindSpec)

/-- ITS FALSE NEIGHBOUR: 'it returns false'. Refute it at one input. -/
def fnExactBehindWrong : ChangeSpec := { name := "fnExactBehind", fn := fun _ => fun
  | [d1, d2, d3] => { results := [.lit (.bool false)], args := [d1, d2, d3] }
  | _ => none }
def FnExactBehindWrongFalsely : Prop := fnExactBehindRow.holds Tryz.pinned (OpenSpec.ofChange fnExactBehindWrong)

/-- 'laws.FnExactTrim': WHATEVER THE INPUT: true; the input reads as it did. -/
def fnExactTrimSpec : ChangeSpec := { name := "fnExactTrim", fn := fun _ => fun
  | [d] => { results := [.lit (.bool true)], args := [d] }
  | _ => none }
def fnExactTrimRow : OpenClaim := { program := "ytjenicbpdklpbaagreat", sum := "eefaab647e8a0613a89dea0a10840deb50c985c7e0ffeb7dcc8ed144d626f7b1", func := "loop.example/g00487/laws.FnExactTrim", spec := "fnExactTrim", apart := false }
def FnExactTrimSaid : Prop := fnExactTrimRow.holds Tryz.pinned (OpenSpec.ofChange fnExactTrimSpec)

/-- ITS FALSE NEIGHBOUR: 'it returns false'. Refute it at one input. -/
def fnExactTrimWrong : ChangeSpec := { name := "fnExactTrim", fn := fun _ => fun
  | [d] => { results := [.lit (.bool false)], args := [d] }
  | _ => none }
def FnExactTrimWrongFalsely : Prop := fnExactTrimRow.holds Tryz.pinned (OpenSpec.ofChange fnExactTrimWrong)

/-- 'laws.FnExactShown': WHATEVER THE INPUT: true; the input reads as it did. -/
def fnExactShownSpec : ChangeSpec := { name := "fnExactShown", fn := fun _ => fun
  | [d1, d2] => { results := [.lit (.bool true)], args := [d1, d2] }
  | _ => none }
def fnExactShownRow : OpenClaim := { program := "ytjenicbpdklpbaagreat", sum := "eefaab647e8a0613a89dea0a10840deb50c985c7e0ffeb7dcc8ed144d626f7b1", func := "loop.example/g00487/laws.FnExactShown", spec := "fnExactShown", apart := false }
def FnExactShownSaid : Prop := fnExactShownRow.holds Tryz.pinned (OpenSpec.ofChange fnExactShownSpec)

/-- ITS FALSE NEIGHBOUR: 'it returns false'. Refute it at one input. -/
def fnExactShownWrong : ChangeSpec := { name := "fnExactShown", fn := fun _ => fun
  | [d1, d2] => { results := [.lit (.bool false)], args := [d1, d2] }
  | _ => none }
def FnExactShownWrongFalsely : Prop := fnExactShownRow.holds Tryz.pinned (OpenSpec.ofChange fnExactShownWrong)

/-- 'laws.FnExactAlive': WHATEVER THE INPUT: true; the input reads as it did. -/
def fnExactAliveSpec : ChangeSpec := { name := "fnExactAlive", fn := fun _ => fun
  | [d] => { results := [.lit (.bool true)], args := [d] }
  | _ => none }
def fnExactAliveRow : OpenClaim := { program := "ytjenicbpdklpbaagreat", sum := "eefaab647e8a0613a89dea0a10840deb50c985c7e0ffeb7dcc8ed144d626f7b1", func := "loop.example/g00487/laws.FnExactAlive", spec := "fnExactAlive", apart := false }
def FnExactAliveSaid : Prop := fnExactAliveRow.holds Tryz.pinned (OpenSpec.ofChange fnExactAliveSpec)

/-- ITS FALSE NEIGHBOUR: 'it returns false'. Refute it at one input. -/
def fnExactAliveWrong : ChangeSpec := { name := "fnExactAlive", fn := fun _ => fun
  | [d] => { results := [.lit (.bool false)], args := [d] }
  | _ => none }
def FnExactAliveWrongFalsely : Prop := fnExactAliveRow.holds Tryz.pinned (OpenSpec.ofChange fnExactAliveWrong)

/-- 'laws.FnExactPlainWhen': WHATEVER THE INPUT: true; the input reads as it did. -/
def fnExactPlainWhenSpec : ChangeSpec := { name := "fnExactPlainWhen", fn := fun _ => fun
  | [d1, d2] => { results := [.lit (.bool true)], args := [d1, d2] }
  | _ => none }
def fnExactPlainWhenRow : OpenClaim := { program := "ytjenicbpdklpbaagreat", sum := "eefaab647e8a0613a89dea0a10840deb50c985c7e0ffeb7dcc8ed144d626f7b1", func := "loop.example/g00487/laws.FnExactPlainWhen", spec := "fnExactPlainWhen", inPlace := ["internal/bytealg.abigen_runtime_cmpstring"], apart := false }
def FnExactPlainWhenSaid : Prop := fnExactPlainWhenRow.holds Tryz.pinned (OpenSpec.ofChange fnExactPlainWhenSpec)

/-- ITS FALSE NEIGHBOUR: 'it returns false'. Refute it at one input. -/
def fnExactPlainWhenWrong : ChangeSpec := { name := "fnExactPlainWhen", fn := fun _ => fun
  | [d1, d2] => { results := [.lit (.bool false)], args := [d1, d2] }
  | _ => none }
def FnExactPlainWhenWrongFalsely : Prop := fnExactPlainWhenRow.holds Tryz.pinned (OpenSpec.ofChange fnExactPlainWhenWrong)

/-- 'laws.FnExactOnlyNews': WHATEVER THE INPUT: true; the input reads as it did. -/
def fnExactOnlyNewsSpec : ChangeSpec := { name := "fnExactOnlyNews", fn := fun _ => fun
  | [d] => { results := [.lit (.bool true)], args := [d] }
  | _ => none }
def fnExactOnlyNewsRow : OpenClaim := { program := "ytjenicbpdklpbaagreat", sum := "eefaab647e8a0613a89dea0a10840deb50c985c7e0ffeb7dcc8ed144d626f7b1", func := "loop.example/g00487/laws.FnExactOnlyNews", spec := "fnExactOnlyNews", apart := false }
def FnExactOnlyNewsSaid : Prop := fnExactOnlyNewsRow.holds Tryz.pinned (OpenSpec.ofChange fnExactOnlyNewsSpec)

/-- ITS FALSE NEIGHBOUR: 'it returns false'. Refute it at one input. -/
def fnExactOnlyNewsWrong : ChangeSpec := { name := "fnExactOnlyNews", fn := fun _ => fun
  | [d] => { results := [.lit (.bool false)], args := [d] }
  | _ => none }
def FnExactOnlyNewsWrongFalsely : Prop := fnExactOnlyNewsRow.holds Tryz.pinned (OpenSpec.ofChange fnExactOnlyNewsWrong)

/-- 'laws.FnExactTrimAll': WHATEVER THE INPUT: true; the input reads as it did. -/
def fnExactTrimAllSpec : ChangeSpec := { name := "fnExactTrimAll", fn := fun _ => fun
  | [d] => { results := [.lit (.bool true)], args := [d] }
  | _ => none }
def fnExactTrimAllRow : OpenClaim := { program := "ytjenicbpdklpbaagreat", sum := "eefaab647e8a0613a89dea0a10840deb50c985c7e0ffeb7dcc8ed144d626f7b1", func := "loop.example/g00487/laws.FnExactTrimAll", spec := "fnExactTrimAll", apart := false }
def FnExactTrimAllSaid : Prop := fnExactTrimAllRow.holds Tryz.pinned (OpenSpec.ofChange fnExactTrimAllSpec)

/-- ITS FALSE NEIGHBOUR: 'it returns false'. Refute it at one input. -/
def fnExactTrimAllWrong : ChangeSpec := { name := "fnExactTrimAll", fn := fun _ => fun
  | [d] => { results := [.lit (.bool false)], args := [d] }
  | _ => none }
def FnExactTrimAllWrongFalsely : Prop := fnExactTrimAllRow.holds Tryz.pinned (OpenSpec.ofChange fnExactTrimAllWrong)

/-- 'laws.FnExactStep': WHATEVER THE INPUT: true; the input reads as it did. -/
def fnExactStepSpec : ChangeSpec := { name := "fnExactStep", fn := fun _ => fun
  | [d1, d2] => { results := [.lit (.bool true)], args := [d1, d2] }
  | _ => none }
def fnExactStepRow : OpenClaim := { program := "ytjenicbpdklpbaagreat", sum := "eefaab647e8a0613a89dea0a10840deb50c985c7e0ffeb7dcc8ed144d626f7b1", func := "loop.example/g00487/laws.FnExactStep", spec := "fnExactStep", inPlace := ["internal/bytealg.abigen_runtime_cmpstring"], apart := false }
def FnExactStepSaid : Prop := fnExactStepRow.holds Tryz.pinned (OpenSpec.ofChange fnExactStepSpec)

/-- ITS FALSE NEIGHBOUR: 'it returns false'. Refute it at one input. -/
def fnExactStepWrong : ChangeSpec := { name := "fnExactStep", fn := fun _ => fun
  | [d1, d2] => { results := [.lit (.bool false)], args := [d1, d2] }
  | _ => none }
def FnExactStepWrongFalsely : Prop := fnExactStepRow.holds Tryz.pinned (OpenSpec.ofChange fnExactStepWrong)

/- THE SECOND FORM. 'bulk': how many values and letters a reading holds, each counted each time it is reached (what is shared counts as often as it is met; a slice's spare places count too). A statement '..UptoSaid' is the law's where the arguments, and the package variables that the reading takes, are together of bulk at most 1048576: NARROWER than '..Said'. Prove '..Said' where nothing that the law and all that it calls make is longer than what came in: it says more and counts as full. Else prove '..UptoSaid'. A law counts once. -/
mutual
def uptoBulk {H : Type} : DataW H → Nat
  | .lit (.string bytes) => bytes.length + 1
  | .lit _ => 1
  | .nil => 1
  | .ptr d => uptoBulk d + 1
  | .slice elems spare => uptoBulkAll elems + uptoBulkAll spare + 1
  | .agg parts => uptoBulkAll parts + 1
  | .iface _ d => uptoBulk d + 1
  | .map entries => uptoBulkEntries entries + 1
  | .held _ => 1
def uptoBulkAll {H : Type} : List (DataW H) → Nat
  | [] => 0
  | d :: r => uptoBulk d + uptoBulkAll r
def uptoBulkEntries {H : Type} : List (Lit × DataW H) → Nat
  | [] => 0
  | x :: r => uptoBulkEntry x + uptoBulkEntries r
def uptoBulkEntry {H : Type} : Lit × DataW H → Nat
  | (.string bytes, d) => bytes.length + uptoBulk d + 1
  | (_, d) => uptoBulk d + 1
 end
def uptoSmall : (H : Type) → List (DataW H) → Bool := fun _ ds => decide (uptoBulkAll ds ≤ 1048576)
def OpenSpec.upto (s : _root_.Go.ChangeSpec) : _root_.Go.OpenSpec := { _root_.Go.OpenSpec.ofChange s with cond := some uptoSmall }

/-- 'laws.FnExactLag', WHERE WHAT IT READS IS OF BULK AT MOST 1048576: true; the input reads as it did. -/
def fnExactLagUptoRow : OpenClaim := { program := "ytjenicbpdklpbaagreat", sum := "eefaab647e8a0613a89dea0a10840deb50c985c7e0ffeb7dcc8ed144d626f7b1", func := "loop.example/g00487/laws.FnExactLag", spec := "fnExactLag", apart := false, narrowed := true }
def FnExactLagUptoSaid : Prop := fnExactLagUptoRow.holds Tryz.pinned (OpenSpec.upto fnExactLagSpec)

/-- 'laws.FnExactNext', WHERE WHAT IT READS IS OF BULK AT MOST 1048576: true; the input reads as it did. -/
def fnExactNextUptoRow : OpenClaim := { program := "ytjenicbpdklpbaagreat", sum := "eefaab647e8a0613a89dea0a10840deb50c985c7e0ffeb7dcc8ed144d626f7b1", func := "loop.example/g00487/laws.FnExactNext", spec := "fnExactNext", apart := false, narrowed := true }
def FnExactNextUptoSaid : Prop := fnExactNextUptoRow.holds Tryz.pinned (OpenSpec.upto fnExactNextSpec)

/-- 'laws.FnExactKept', WHERE WHAT IT READS IS OF BULK AT MOST 1048576: true; the input reads as it did. -/
def fnExactKeptUptoRow : OpenClaim := { program := "ytjenicbpdklpbaagreat", sum := "eefaab647e8a0613a89dea0a10840deb50c985c7e0ffeb7dcc8ed144d626f7b1", func := "loop.example/g00487/laws.FnExactKept", spec := "fnExactKept", apart := false, narrowed := true }
def FnExactKeptUptoSaid : Prop := fnExactKeptUptoRow.holds Tryz.pinned (OpenSpec.upto fnExactKeptSpec)

/-- 'laws.FnExactNetSize', WHERE WHAT IT READS IS OF BULK AT MOST 1048576: true; the input reads as it did. -/
def fnExactNetSizeUptoRow : OpenClaim := { program := "ytjenicbpdklpbaagreat", sum := "eefaab647e8a0613a89dea0a10840deb50c985c7e0ffeb7dcc8ed144d626f7b1", func := "loop.example/g00487/laws.FnExactNetSize", spec := "fnExactNetSize", apart := false, narrowed := true }
def FnExactNetSizeUptoSaid : Prop := fnExactNetSizeUptoRow.holds Tryz.pinned (OpenSpec.upto fnExactNetSizeSpec)

/-- 'laws.FnExactBehind', WHERE WHAT IT READS IS OF BULK AT MOST 1048576: true; the input reads as it did. -/
def fnExactBehindUptoRow : OpenClaim := { program := "ytjenicbpdklpbaagreat", sum := "eefaab647e8a0613a89dea0a10840deb50c985c7e0ffeb7dcc8ed144d626f7b1", func := "loop.example/g00487/laws.FnExactBehind", spec := "fnExactBehind", apart := false, narrowed := true }
def FnExactBehindUptoSaid : Prop := fnExactBehindUptoRow.holds Tryz.pinned (OpenSpec.upto fnExactBehindSpec)

/-- 'laws.FnExactTrim', WHERE WHAT IT READS IS OF BULK AT MOST 1048576: true; the input reads as it did. -/
def fnExactTrimUptoRow : OpenClaim := { program := "ytjenicbpdklpbaagreat", sum := "eefaab647e8a0613a89dea0a10840deb50c985c7e0ffeb7dcc8ed144d626f7b1", func := "loop.example/g00487/laws.FnExactTrim", spec := "fnExactTrim", apart := false, narrowed := true }
def FnExactTrimUptoSaid : Prop := fnExactTrimUptoRow.holds Tryz.pinned (OpenSpec.upto fnExactTrimSpec)

/-- 'laws.FnExactShown', WHERE WHAT IT READS IS OF BULK AT MOST 1048576: true; the input reads as it did. -/
def fnExactShownUptoRow : OpenClaim := { program := "ytjenicbpdklpbaagreat", sum := "eefaab647e8a0613a89dea0a10840deb50c985c7e0ffeb7dcc8ed144d626f7b1", func := "loop.example/g00487/laws.FnExactShown", spec := "fnExactShown", apart := false, narrowed := true }
def FnExactShownUptoSaid : Prop := fnExactShownUptoRow.holds Tryz.pinned (OpenSpec.upto fnExactShownSpec)

/-- 'laws.FnExactAlive', WHERE WHAT IT READS IS OF BULK AT MOST 1048576: true; the input reads as it did. -/
def fnExactAliveUptoRow : OpenClaim := { program := "ytjenicbpdklpbaagreat", sum := "eefaab647e8a0613a89dea0a10840deb50c985c7e0ffeb7dcc8ed144d626f7b1", func := "loop.example/g00487/laws.FnExactAlive", spec := "fnExactAlive", apart := false, narrowed := true }
def FnExactAliveUptoSaid : Prop := fnExactAliveUptoRow.holds Tryz.pinned (OpenSpec.upto fnExactAliveSpec)

/-- 'laws.FnExactPlainWhen', WHERE WHAT IT READS IS OF BULK AT MOST 1048576: true; the input reads as it did. -/
def fnExactPlainWhenUptoRow : OpenClaim := { program := "ytjenicbpdklpbaagreat", sum := "eefaab647e8a0613a89dea0a10840deb50c985c7e0ffeb7dcc8ed144d626f7b1", func := "loop.example/g00487/laws.FnExactPlainWhen", spec := "fnExactPlainWhen", inPlace := ["internal/bytealg.abigen_runtime_cmpstring"], apart := false, narrowed := true }
def FnExactPlainWhenUptoSaid : Prop := fnExactPlainWhenUptoRow.holds Tryz.pinned (OpenSpec.upto fnExactPlainWhenSpec)

/-- 'laws.FnExactOnlyNews', WHERE WHAT IT READS IS OF BULK AT MOST 1048576: true; the input reads as it did. -/
def fnExactOnlyNewsUptoRow : OpenClaim := { program := "ytjenicbpdklpbaagreat", sum := "eefaab647e8a0613a89dea0a10840deb50c985c7e0ffeb7dcc8ed144d626f7b1", func := "loop.example/g00487/laws.FnExactOnlyNews", spec := "fnExactOnlyNews", apart := false, narrowed := true }
def FnExactOnlyNewsUptoSaid : Prop := fnExactOnlyNewsUptoRow.holds Tryz.pinned (OpenSpec.upto fnExactOnlyNewsSpec)

/-- 'laws.FnExactTrimAll', WHERE WHAT IT READS IS OF BULK AT MOST 1048576: true; the input reads as it did. -/
def fnExactTrimAllUptoRow : OpenClaim := { program := "ytjenicbpdklpbaagreat", sum := "eefaab647e8a0613a89dea0a10840deb50c985c7e0ffeb7dcc8ed144d626f7b1", func := "loop.example/g00487/laws.FnExactTrimAll", spec := "fnExactTrimAll", apart := false, narrowed := true }
def FnExactTrimAllUptoSaid : Prop := fnExactTrimAllUptoRow.holds Tryz.pinned (OpenSpec.upto fnExactTrimAllSpec)

/-- 'laws.FnExactStep', WHERE WHAT IT READS IS OF BULK AT MOST 1048576: true; the input reads as it did. -/
def fnExactStepUptoRow : OpenClaim := { program := "ytjenicbpdklpbaagreat", sum := "eefaab647e8a0613a89dea0a10840deb50c985c7e0ffeb7dcc8ed144d626f7b1", func := "loop.example/g00487/laws.FnExactStep", spec := "fnExactStep", inPlace := ["internal/bytealg.abigen_runtime_cmpstring"], apart := false, narrowed := true }
def FnExactStepUptoSaid : Prop := fnExactStepUptoRow.holds Tryz.pinned (OpenSpec.upto fnExactStepSpec)

end Rows
end Go.Proofs.YtjenicbpdklpbaaGreat
