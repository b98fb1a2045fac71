-- PRINTED BY print.sh 35421559b90ae4d0a3588c463048766b98c2df88dd9212a6774a882060cdf62d: not written by this session
import Derived.Test.YthmmlooakkkmoaaProg
import Derived.Below
import Derived.Deep.Draws
import Derived.Deep.AppendLies
import Derived.Maps.AppendAt
import Derived.OwnWalk
import Derived.Laws.BytesArg
import Derived.Laws.MakeOwn
import Derived.Laws.OwnMore
import Derived.Deep.OwnRows
import Derived.Tactics
import Derived.Lib.ConvBytes
import Derived.Laws.Slices
import Derived.WalkKit
import Derived.KernelRfl
import Derived.RowKit3
import Derived.Deep.LoopGhost
import Derived.Deep.QuietTactic
import Derived.BigQuiet
import Derived.WideLaws
import Derived.Deep.DeepCutAuto
import Derived.Deep.CutBlock
import Derived.Deep.RegionHeld3
import Derived.Laws.Rows
import Derived.Lib.AppendStr
import Derived.ArgAppend
import Derived.Laws.IdiomCopy
import Derived.OrdersHeld
import Derived.Laws.BitsLemmas
import Derived.RowKit
import Derived.Test.YthmmlooakkkmoaaWWords
import Derived.Test.YthmmlooakkkmoaaWLast
import Derived.Test.YthmmlooakkkmoaaWTab
import Derived.Test.YthmmlooakkkmoaaWFour
import Derived.Test.YthmmlooakkkmoaaWQPut
import Derived.Test.YthmmlooakkkmoaaWApart
import Derived.Test.YthmmlooakkkmoaaWArr
import Derived.Test.YthmmlooakkkmoaaWZeros
import Derived.Test.YthmmlooakkkmoaaWFoot
import Derived.Test.YthmmlooakkkmoaaWKept
import Derived.Test.YthmmlooakkkmoaaWShare
import Derived.Test.YthmmlooakkkmoaaWN
import Derived.Test.YthmmlooakkkmoaaWFootNe
import Derived.Test.YthmmlooakkkmoaaWAt
import Derived.Test.YthmmlooakkkmoaaWEqStruct
import Derived.Test.YthmmlooakkkmoaaWRepsOne
import Derived.Test.YthmmlooakkkmoaaWInv
import Derived.Test.YthmmlooakkkmoaaWInvWords
import Derived.Test.YthmmlooakkkmoaaWGuard
import Derived.Test.YthmmlooakkkmoaaWNEv
import Derived.Test.YthmmlooakkkmoaaWMore
namespace Go.Proofs.Ythmmlooakkkmoaa.PFnExactPermutation
open Go.RowKit Go.Proofs.YthmmlooakkkmoaaW.PrintWords Go.Proofs.YthmmlooakkkmoaaW.PrintLast Go.Proofs.YthmmlooakkkmoaaW.PrintMore
attribute [local go_sem] max2_int min2_int max_two min_two max_three min_three max_four min_four   -- for this text's walks alone
set_option linter.unusedVariables false
set_option linter.unusedSimpArgs false



def errW : Option Int → Value
  | none => .nilIface
  | some c => .iface 0 (.int .i64 c)
theorem errW_none : errW none = .nilIface := rfl
theorem errW_some (c : Int) : errW (some c) = .iface 0 (.int .i64 c) := rfl

theorem info3 : (Try.prog.info? 3).map (fun i => (i.zero, i.size, i.bytes)) = some (some (.int .i64 0), 1, 8) := by kernel_rfl
-- the values' own types

end Go.Proofs.Ythmmlooakkkmoaa.PFnExactPermutation
