/-
  No cell of these rows narrows 'for every input' (looked for: loops, veiled, ifaces, maps, wideKeys, modest, calm, conditions, laid).
  DERIVED. THE GIVEN ROWS OF THIS SEAT. 5 by the template 'for every input the law returns true; each argument reads behind the call as it read before'; 0 by the template 'total and deterministic' (their statements: YtiejfnbmficbmaaGreatTotals.lean).
  GIVEN WITH THE SEED: the statements are not yours to turn. If you find one false, say at which input.
  Laid BY PROGRAM, IN A SANDBOX (cutbox-rows.mjs): the forced cells as the released guide's own fill.sh prints them over the translation 33bd4ef8038b204c… (all of the seat's roots in one cut). By AI agents, Wed Nov 11 2026. No macro, syntax, notation, axiom, sorry.
-/
import Derived.Test.YtiejfnbmficbmaaGreatChecked
import GoSem.Claim
import GoSem.ClaimJoined
import GoSem.ClaimMapViews
import Derived.JoinedTies
import Derived.KernelRfl
namespace Go.Proofs.YtiejfnbmficbmaaGreat
/- THE CELL 'sum', in the pinned program and in every row, IS THE sha256 OF THE DUMP (.gsa) THAT YtiejfnbmficbmaaGreatProg.lean LOADS. Nothing in Lean hashes anything: it is a label: what it is worth is what the hold of that sum in a sandbox is worth. -/
noncomputable def Tryz.pinned : Pinned := { name := "ytiejfnbmficbmaagreat", sum := "33bd4ef8038b204c1eafb20e878a61e087965bcbf054dbe834ba99854b3f1e18", checked := Tryz.checked }
namespace Rows
def none {H : Type} : Left H := { results := [], args := [] }

/-- 'laws.FnExactOnlyNews': WHATEVER THE INPUT: true; the input reads as it did. -/
def fnExactOnlyNewsSpec : ChangeSpec := { name := "fnExactOnlyNews", fn := fun _ => fun
  | [d] => { results := [.lit (.bool true)], args := [d] }
  | _ => none }
def fnExactOnlyNewsRow : OpenClaim := { program := "ytiejfnbmficbmaagreat", sum := "33bd4ef8038b204c1eafb20e878a61e087965bcbf054dbe834ba99854b3f1e18", func := "loop.example/g00487/laws.FnExactOnlyNews", spec := "fnExactOnlyNews", apart := false }
def FnExactOnlyNewsSaid : Prop := fnExactOnlyNewsRow.holds Tryz.pinned (OpenSpec.ofChange fnExactOnlyNewsSpec)

/-- ITS FALSE NEIGHBOUR: 'it returns false'. Refute it at one input. -/
def fnExactOnlyNewsWrong : ChangeSpec := { name := "fnExactOnlyNews", fn := fun _ => fun
  | [d] => { results := [.lit (.bool false)], args := [d] }
  | _ => none }
def FnExactOnlyNewsWrongFalsely : Prop := fnExactOnlyNewsRow.holds Tryz.pinned (OpenSpec.ofChange fnExactOnlyNewsWrong)

/-- 'laws.FnExactAuto': WHATEVER THE INPUT: true; the input reads as it did. -/
def fnExactAutoSpec : ChangeSpec := { name := "fnExactAuto", fn := fun _ => fun
  | [d1, d2] => { results := [.lit (.bool true)], args := [d1, d2] }
  | _ => none }
def fnExactAutoRow : OpenClaim := { program := "ytiejfnbmficbmaagreat", sum := "33bd4ef8038b204c1eafb20e878a61e087965bcbf054dbe834ba99854b3f1e18", func := "loop.example/g00487/laws.FnExactAuto", spec := "fnExactAuto", inPlace := ["internal/bytealg.abigen_runtime_cmpstring"], apart := false }
def FnExactAutoSaid : Prop := fnExactAutoRow.holds Tryz.pinned (OpenSpec.ofChange fnExactAutoSpec)

/-- ITS FALSE NEIGHBOUR: 'it returns false'. Refute it at one input. -/
def fnExactAutoWrong : ChangeSpec := { name := "fnExactAuto", fn := fun _ => fun
  | [d1, d2] => { results := [.lit (.bool false)], args := [d1, d2] }
  | _ => none }
def FnExactAutoWrongFalsely : Prop := fnExactAutoRow.holds Tryz.pinned (OpenSpec.ofChange fnExactAutoWrong)

/-- 'laws.FnExactPushAll': WHATEVER THE INPUT: true; the input reads as it did. -/
def fnExactPushAllSpec : ChangeSpec := { name := "fnExactPushAll", fn := fun _ => fun
  | [d] => { results := [.lit (.bool true)], args := [d] }
  | _ => none }
def fnExactPushAllRow : OpenClaim := { program := "ytiejfnbmficbmaagreat", sum := "33bd4ef8038b204c1eafb20e878a61e087965bcbf054dbe834ba99854b3f1e18", func := "loop.example/g00487/laws.FnExactPushAll", spec := "fnExactPushAll", inPlace := ["internal/bytealg.abigen_runtime_cmpstring"], apart := false }
def FnExactPushAllSaid : Prop := fnExactPushAllRow.holds Tryz.pinned (OpenSpec.ofChange fnExactPushAllSpec)

/-- ITS FALSE NEIGHBOUR: 'it returns false'. Refute it at one input. -/
def fnExactPushAllWrong : ChangeSpec := { name := "fnExactPushAll", fn := fun _ => fun
  | [d] => { results := [.lit (.bool false)], args := [d] }
  | _ => none }
def FnExactPushAllWrongFalsely : Prop := fnExactPushAllRow.holds Tryz.pinned (OpenSpec.ofChange fnExactPushAllWrong)

/-- 'laws.FnExactIslands': WHATEVER THE INPUT: true; the input reads as it did. -/
def fnExactIslandsSpec : ChangeSpec := { name := "fnExactIslands", fn := fun _ => fun
  | [d1, d2] => { results := [.lit (.bool true)], args := [d1, d2] }
  | _ => none }
def fnExactIslandsRow : OpenClaim := { program := "ytiejfnbmficbmaagreat", sum := "33bd4ef8038b204c1eafb20e878a61e087965bcbf054dbe834ba99854b3f1e18", func := "loop.example/g00487/laws.FnExactIslands", spec := "fnExactIslands", inPlace := ["internal/bytealg.abigen_runtime_cmpstring"], unfollowed := true, recurses := true, apart := false }
def FnExactIslandsSaid : Prop := fnExactIslandsRow.holds Tryz.pinned (OpenSpec.ofChange fnExactIslandsSpec)

/-- ITS FALSE NEIGHBOUR: 'it returns false'. Refute it at one input. -/
def fnExactIslandsWrong : ChangeSpec := { name := "fnExactIslands", fn := fun _ => fun
  | [d1, d2] => { results := [.lit (.bool false)], args := [d1, d2] }
  | _ => none }
def FnExactIslandsWrongFalsely : Prop := fnExactIslandsRow.holds Tryz.pinned (OpenSpec.ofChange fnExactIslandsWrong)

/-- 'laws.FnExactGiveAll': WHATEVER THE INPUT: true; the input reads as it did. -/
def fnExactGiveAllSpec : ChangeSpec := { name := "fnExactGiveAll", fn := fun _ => fun
  | [d1, d2] => { results := [.lit (.bool true)], args := [d1, d2] }
  | _ => none }
def fnExactGiveAllRow : OpenClaim := { program := "ytiejfnbmficbmaagreat", sum := "33bd4ef8038b204c1eafb20e878a61e087965bcbf054dbe834ba99854b3f1e18", func := "loop.example/g00487/laws.FnExactGiveAll", spec := "fnExactGiveAll", inPlace := ["internal/bytealg.abigen_runtime_cmpstring"], apart := false }
def FnExactGiveAllSaid : Prop := fnExactGiveAllRow.holds Tryz.pinned (OpenSpec.ofChange fnExactGiveAllSpec)

/-- ITS FALSE NEIGHBOUR: 'it returns false'. Refute it at one input. -/
def fnExactGiveAllWrong : ChangeSpec := { name := "fnExactGiveAll", fn := fun _ => fun
  | [d1, d2] => { results := [.lit (.bool false)], args := [d1, d2] }
  | _ => none }
def FnExactGiveAllWrongFalsely : Prop := fnExactGiveAllRow.holds Tryz.pinned (OpenSpec.ofChange fnExactGiveAllWrong)

/- THE SECOND FORM. 'bulk': how many values and letters a reading holds, each counted each time it is reached (what is shared counts as often as it is met; a slice's spare places count too). A statement '..UptoSaid' is the law's where the arguments, and the package variables that the reading takes, are together of bulk at most 1048576: NARROWER than '..Said'. Prove '..Said' where nothing that the law and all that it calls make is longer than what came in: it says more and counts as full. Else prove '..UptoSaid'. A law counts once. -/
mutual
def uptoBulk {H : Type} : DataW H → Nat
  | .lit (.string bytes) => bytes.length + 1
  | .lit _ => 1
  | .nil => 1
  | .ptr d => uptoBulk d + 1
  | .slice elems spare => uptoBulkAll elems + uptoBulkAll spare + 1
  | .agg parts => uptoBulkAll parts + 1
  | .iface _ d => uptoBulk d + 1
  | .map entries => uptoBulkEntries entries + 1
  | .held _ => 1
def uptoBulkAll {H : Type} : List (DataW H) → Nat
  | [] => 0
  | d :: r => uptoBulk d + uptoBulkAll r
def uptoBulkEntries {H : Type} : List (Lit × DataW H) → Nat
  | [] => 0
  | x :: r => uptoBulkEntry x + uptoBulkEntries r
def uptoBulkEntry {H : Type} : Lit × DataW H → Nat
  | (.string bytes, d) => bytes.length + uptoBulk d + 1
  | (_, d) => uptoBulk d + 1
 end
def uptoSmall : (H : Type) → List (DataW H) → Bool := fun _ ds => decide (uptoBulkAll ds ≤ 1048576)
def OpenSpec.upto (s : _root_.Go.ChangeSpec) : _root_.Go.OpenSpec := { _root_.Go.OpenSpec.ofChange s with cond := some uptoSmall }

/-- 'laws.FnExactOnlyNews', WHERE WHAT IT READS IS OF BULK AT MOST 1048576: true; the input reads as it did. -/
def fnExactOnlyNewsUptoRow : OpenClaim := { program := "ytiejfnbmficbmaagreat", sum := "33bd4ef8038b204c1eafb20e878a61e087965bcbf054dbe834ba99854b3f1e18", func := "loop.example/g00487/laws.FnExactOnlyNews", spec := "fnExactOnlyNews", apart := false, narrowed := true }
def FnExactOnlyNewsUptoSaid : Prop := fnExactOnlyNewsUptoRow.holds Tryz.pinned (OpenSpec.upto fnExactOnlyNewsSpec)

/-- 'laws.FnExactAuto', WHERE WHAT IT READS IS OF BULK AT MOST 1048576: true; the input reads as it did. -/
def fnExactAutoUptoRow : OpenClaim := { program := "ytiejfnbmficbmaagreat", sum := "33bd4ef8038b204c1eafb20e878a61e087965bcbf054dbe834ba99854b3f1e18", func := "loop.example/g00487/laws.FnExactAuto", spec := "fnExactAuto", inPlace := ["internal/bytealg.abigen_runtime_cmpstring"], apart := false, narrowed := true }
def FnExactAutoUptoSaid : Prop := fnExactAutoUptoRow.holds Tryz.pinned (OpenSpec.upto fnExactAutoSpec)

/-- 'laws.FnExactPushAll', WHERE WHAT IT READS IS OF BULK AT MOST 1048576: true; the input reads as it did. -/
def fnExactPushAllUptoRow : OpenClaim := { program := "ytiejfnbmficbmaagreat", sum := "33bd4ef8038b204c1eafb20e878a61e087965bcbf054dbe834ba99854b3f1e18", func := "loop.example/g00487/laws.FnExactPushAll", spec := "fnExactPushAll", inPlace := ["internal/bytealg.abigen_runtime_cmpstring"], apart := false, narrowed := true }
def FnExactPushAllUptoSaid : Prop := fnExactPushAllUptoRow.holds Tryz.pinned (OpenSpec.upto fnExactPushAllSpec)

/-- 'laws.FnExactIslands', WHERE WHAT IT READS IS OF BULK AT MOST 1048576: true; the input reads as it did. -/
def fnExactIslandsUptoRow : OpenClaim := { program := "ytiejfnbmficbmaagreat", sum := "33bd4ef8038b204c1eafb20e878a61e087965bcbf054dbe834ba99854b3f1e18", func := "loop.example/g00487/laws.FnExactIslands", spec := "fnExactIslands", inPlace := ["internal/bytealg.abigen_runtime_cmpstring"], unfollowed := true, recurses := true, apart := false, narrowed := true }
def FnExactIslandsUptoSaid : Prop := fnExactIslandsUptoRow.holds Tryz.pinned (OpenSpec.upto fnExactIslandsSpec)

/-- 'laws.FnExactGiveAll', WHERE WHAT IT READS IS OF BULK AT MOST 1048576: true; the input reads as it did. -/
def fnExactGiveAllUptoRow : OpenClaim := { program := "ytiejfnbmficbmaagreat", sum := "33bd4ef8038b204c1eafb20e878a61e087965bcbf054dbe834ba99854b3f1e18", func := "loop.example/g00487/laws.FnExactGiveAll", spec := "fnExactGiveAll", inPlace := ["internal/bytealg.abigen_runtime_cmpstring"], apart := false, narrowed := true }
def FnExactGiveAllUptoSaid : Prop := fnExactGiveAllUptoRow.holds Tryz.pinned (OpenSpec.upto fnExactGiveAllSpec)

end Rows
end Go.Proofs.YtiejfnbmficbmaaGreat
