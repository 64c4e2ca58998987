-- Written by a program of this session (wip/tools/xprint.py), over the kit's printer.
import Derived.Test.YtocckplgjbhlbaaProg
import Derived.Below
import Derived.Deep.Draws
import Derived.Deep.AppendLies
import Derived.Maps.AppendAt
import Derived.OwnWalk
import Derived.Laws.BytesArg
import Derived.Laws.MakeOwn
import Derived.Laws.OwnMore
import Derived.Deep.OwnRows
import Derived.Tactics
import Derived.Lib.ConvBytes
import Derived.Laws.Slices
import Derived.WalkKit
import Derived.KernelRfl
import Derived.RowKit3
import Derived.Deep.LoopGhost
import Derived.Deep.QuietTactic
import Derived.BigQuiet
import Derived.WideLaws
import Derived.Deep.DeepCutAuto
import Derived.Deep.CutBlock
import Derived.Deep.RegionHeld3
import Derived.Laws.Rows
import Derived.Lib.AppendStr
import Derived.ArgAppend
import Derived.Laws.IdiomCopy
import Derived.OrdersHeld
import Derived.Laws.BitsLemmas
import Derived.RowKit
import Derived.Test.YtocckplgjbhlbaaWWords
import Derived.Test.YtocckplgjbhlbaaWLast
import Derived.Test.YtocckplgjbhlbaaWTab
import Derived.Test.YtocckplgjbhlbaaWFour
import Derived.Test.YtocckplgjbhlbaaWQPut
import Derived.Test.YtocckplgjbhlbaaWApart
import Derived.Test.YtocckplgjbhlbaaWArr
import Derived.Test.YtocckplgjbhlbaaWZeros
import Derived.Test.YtocckplgjbhlbaaWFoot
import Derived.Test.YtocckplgjbhlbaaWKept
import Derived.Test.YtocckplgjbhlbaaWShare
import Derived.Test.YtocckplgjbhlbaaWN
import Derived.Test.YtocckplgjbhlbaaWFootNe
import Derived.Test.YtocckplgjbhlbaaWAt
import Derived.Test.YtocckplgjbhlbaaWEqStruct
import Derived.Test.YtocckplgjbhlbaaWRepsOne
import Derived.Test.YtocckplgjbhlbaaWInv
import Derived.Test.YtocckplgjbhlbaaWInvWords
import Derived.Test.YtocckplgjbhlbaaWGuard
import Derived.Test.YtocckplgjbhlbaaWNEv
import Derived.Test.YtocckplgjbhlbaaWMore
import Derived.Test.YtocckplgjbhlbaaPolB
import Derived.Test.YtocckplgjbhlbaaPolC
import Derived.Test.YtocckplgjbhlbaaXor
import Derived.Test.YtocckplgjbhlbaaM
namespace Go.Proofs.Ytocckplgjbhlbaa.T
open Go.RowKit Go.Proofs.YtocckplgjbhlbaaW.PrintWords Go.Proofs.YtocckplgjbhlbaaW.PrintLast Go.Proofs.YtocckplgjbhlbaaW.PrintMore
attribute [local go_sem] max2_int min2_int max_two min_two max_three min_three max_four min_four   -- for this text's walks alone
set_option linter.unusedVariables false
set_option linter.unusedSimpArgs false



def errW : Option Int → Value
  | none => .nilIface
  | some c => .iface 0 (.int .i64 c)
theorem errW_none : errW none = .nilIface := rfl
theorem errW_some (c : Int) : errW (some c) = .iface 0 (.int .i64 c) := rfl

theorem info5 : (Try.prog.info? 5).map (fun i => (i.zero, i.size, i.bytes)) = some (some (.int .u8 0), 1, 1) := by kernel_rfl
-- the values' own types

end Go.Proofs.Ytocckplgjbhlbaa.T
