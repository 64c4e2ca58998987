-- Written by a program of this session (wip/tools/xprint.py), over the kit's printer.
import Derived.Test.YtggnmnpmhknjgaaProg
import Derived.Below
import Derived.Deep.Draws
import Derived.Deep.AppendLies
import Derived.Maps.AppendAt
import Derived.OwnWalk
import Derived.Laws.BytesArg
import Derived.Laws.MakeOwn
import Derived.Laws.OwnMore
import Derived.Deep.OwnRows
import Derived.Tactics
import Derived.Lib.ConvBytes
import Derived.Laws.Slices
import Derived.WalkKit
import Derived.KernelRfl
import Derived.RowKit3
import Derived.Deep.LoopGhost
import Derived.Deep.QuietTactic
import Derived.BigQuiet
import Derived.WideLaws
import Derived.Deep.DeepCutAuto
import Derived.Deep.CutBlock
import Derived.Deep.RegionHeld3
import Derived.Laws.Rows
import Derived.Lib.AppendStr
import Derived.ArgAppend
import Derived.Laws.IdiomCopy
import Derived.OrdersHeld
import Derived.Laws.BitsLemmas
import Derived.RowKit
import Derived.Test.YtggnmnpmhknjgaaWWords
import Derived.Test.YtggnmnpmhknjgaaWLast
import Derived.Test.YtggnmnpmhknjgaaWTab
import Derived.Test.YtggnmnpmhknjgaaWFour
import Derived.Test.YtggnmnpmhknjgaaWQPut
import Derived.Test.YtggnmnpmhknjgaaWApart
import Derived.Test.YtggnmnpmhknjgaaWArr
import Derived.Test.YtggnmnpmhknjgaaWZeros
import Derived.Test.YtggnmnpmhknjgaaWFoot
import Derived.Test.YtggnmnpmhknjgaaWKept
import Derived.Test.YtggnmnpmhknjgaaWShare
import Derived.Test.YtggnmnpmhknjgaaWN
import Derived.Test.YtggnmnpmhknjgaaWFootNe
import Derived.Test.YtggnmnpmhknjgaaWAt
import Derived.Test.YtggnmnpmhknjgaaWEqStruct
import Derived.Test.YtggnmnpmhknjgaaWRepsOne
import Derived.Test.YtggnmnpmhknjgaaWInv
import Derived.Test.YtggnmnpmhknjgaaWInvWords
import Derived.Test.YtggnmnpmhknjgaaWGuard
import Derived.Test.YtggnmnpmhknjgaaWNEv
import Derived.Test.YtggnmnpmhknjgaaWMore
namespace Go.Proofs.Ytggnmnpmhknjgaa.I
open Go.RowKit Go.Proofs.YtggnmnpmhknjgaaW.PrintWords Go.Proofs.YtggnmnpmhknjgaaW.PrintLast Go.Proofs.YtggnmnpmhknjgaaW.PrintMore
attribute [local go_sem] max2_int min2_int max_two min_two max_three min_three max_four min_four   -- for this text's walks alone
set_option linter.unusedVariables false
set_option linter.unusedSimpArgs false



def errW : Option Int → Value
  | none => .nilIface
  | some c => .iface 0 (.int .i64 c)
theorem errW_none : errW none = .nilIface := rfl
theorem errW_some (c : Int) : errW (some c) = .iface 0 (.int .i64 c) := rfl

theorem info9 : (Try.prog.info? 9).map (fun i => (i.zero, i.size, i.bytes)) = some (some (.string ⟨#[]⟩), 1, 16) := by kernel_rfl
-- the values' own types

end Go.Proofs.Ytggnmnpmhknjgaa.I
