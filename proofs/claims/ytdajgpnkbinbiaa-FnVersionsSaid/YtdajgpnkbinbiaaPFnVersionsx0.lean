-- WRITTEN by pp.py, this session's own wrapper around the print; not trusted: Lean checks it
import Derived.Test.YtdajgpnkbinbiaaProg
import Derived.Below
import Derived.Deep.Draws
import Derived.Deep.AppendLies
import Derived.Maps.AppendAt
import Derived.OwnWalk
import Derived.Laws.BytesArg
import Derived.Laws.MakeOwn
import Derived.Laws.OwnMore
import Derived.Deep.OwnRows
import Derived.Tactics
import Derived.Lib.ConvBytes
import Derived.Laws.Slices
import Derived.WalkKit
import Derived.KernelRfl
import Derived.RowKit3
import Derived.Deep.LoopGhost
import Derived.Deep.QuietTactic
import Derived.BigQuiet
import Derived.WideLaws
import Derived.Deep.DeepCutAuto
import Derived.Deep.CutBlock
import Derived.Deep.RegionHeld3
import Derived.Laws.Rows
import Derived.Lib.AppendStr
import Derived.ArgAppend
import Derived.Laws.IdiomCopy
import Derived.OrdersHeld
import Derived.Laws.BitsLemmas
import Derived.RowKit
import Derived.Test.YtdajgpnkbinbiaaHw
import Derived.Test.YtdajgpnkbinbiaaHs
import Derived.Test.YtdajgpnkbinbiaaShelf
import Derived.Test.YtdajgpnkbinbiaaWWords
import Derived.Test.YtdajgpnkbinbiaaWLast
import Derived.Test.YtdajgpnkbinbiaaWTab
import Derived.Test.YtdajgpnkbinbiaaWFour
import Derived.Test.YtdajgpnkbinbiaaWQPut
import Derived.Test.YtdajgpnkbinbiaaWApart
import Derived.Test.YtdajgpnkbinbiaaWArr
import Derived.Test.YtdajgpnkbinbiaaWZeros
import Derived.Test.YtdajgpnkbinbiaaWFoot
import Derived.Test.YtdajgpnkbinbiaaWKept
import Derived.Test.YtdajgpnkbinbiaaWShare
import Derived.Test.YtdajgpnkbinbiaaWN
import Derived.Test.YtdajgpnkbinbiaaWFootNe
import Derived.Test.YtdajgpnkbinbiaaWAt
import Derived.Test.YtdajgpnkbinbiaaWEqStruct
import Derived.Test.YtdajgpnkbinbiaaWRepsOne
import Derived.Test.YtdajgpnkbinbiaaWInv
import Derived.Test.YtdajgpnkbinbiaaWInvWords
import Derived.Test.YtdajgpnkbinbiaaWGuard
import Derived.Test.YtdajgpnkbinbiaaWNEv
import Derived.Test.YtdajgpnkbinbiaaWMore
namespace Go.Proofs.Ytdajgpnkbinbiaa.PFnVersions
open Go.RowKit Go.Proofs.Ytdajgpnkbinbiaa.Hw Go.Proofs.YtdajgpnkbinbiaaW.PrintWords Go.Proofs.YtdajgpnkbinbiaaW.PrintLast Go.Proofs.YtdajgpnkbinbiaaW.PrintMore
attribute [local go_sem] max2_int min2_int max_two min_two max_three min_three max_four min_four   -- for this text's walks alone
set_option linter.unusedVariables false
set_option linter.unusedSimpArgs false
set_option linter.unusedSectionVars false



def errW : Option Int → Value
  | none => .nilIface
  | some c => .iface 0 (.int .i64 c)
theorem errW_none : errW none = .nilIface := rfl
theorem errW_some (c : Int) : errW (some c) = .iface 0 (.int .i64 c) := rfl

theorem info3 : (Try.prog.info? 3).map (fun i => (i.zero, i.size, i.bytes)) = some (some (.int .i64 0), 1, 8) := by kernel_rfl
-- the values' own types

end Go.Proofs.Ytdajgpnkbinbiaa.PFnVersions
