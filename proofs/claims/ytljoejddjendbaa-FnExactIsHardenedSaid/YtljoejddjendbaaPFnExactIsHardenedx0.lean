-- WRITTEN by pp.py, this session's own wrapper around the print; not trusted: Lean checks it
import Derived.Test.YtljoejddjendbaaProg
import Derived.Below
import Derived.Deep.Draws
import Derived.Deep.AppendLies
import Derived.Maps.AppendAt
import Derived.OwnWalk
import Derived.Laws.BytesArg
import Derived.Laws.MakeOwn
import Derived.Laws.OwnMore
import Derived.Deep.OwnRows
import Derived.Tactics
import Derived.Lib.ConvBytes
import Derived.Laws.Slices
import Derived.WalkKit
import Derived.KernelRfl
import Derived.RowKit3
import Derived.Deep.LoopGhost
import Derived.Deep.QuietTactic
import Derived.BigQuiet
import Derived.WideLaws
import Derived.Deep.DeepCutAuto
import Derived.Deep.CutBlock
import Derived.Deep.RegionHeld3
import Derived.Laws.Rows
import Derived.Lib.AppendStr
import Derived.ArgAppend
import Derived.Laws.IdiomCopy
import Derived.OrdersHeld
import Derived.Laws.BitsLemmas
import Derived.RowKit
import Derived.Test.YtljoejddjendbaaHw
import Derived.Test.YtljoejddjendbaaWWords
import Derived.Test.YtljoejddjendbaaWLast
import Derived.Test.YtljoejddjendbaaWTab
import Derived.Test.YtljoejddjendbaaWFour
import Derived.Test.YtljoejddjendbaaWQPut
import Derived.Test.YtljoejddjendbaaWApart
import Derived.Test.YtljoejddjendbaaWArr
import Derived.Test.YtljoejddjendbaaWZeros
import Derived.Test.YtljoejddjendbaaWFoot
import Derived.Test.YtljoejddjendbaaWKept
import Derived.Test.YtljoejddjendbaaWShare
import Derived.Test.YtljoejddjendbaaWN
import Derived.Test.YtljoejddjendbaaWFootNe
import Derived.Test.YtljoejddjendbaaWAt
import Derived.Test.YtljoejddjendbaaWEqStruct
import Derived.Test.YtljoejddjendbaaWRepsOne
import Derived.Test.YtljoejddjendbaaWInv
import Derived.Test.YtljoejddjendbaaWInvWords
import Derived.Test.YtljoejddjendbaaWGuard
import Derived.Test.YtljoejddjendbaaWNEv
import Derived.Test.YtljoejddjendbaaWMore
namespace Go.Proofs.Ytljoejddjendbaa.PFnExactIsHardened
open Go.RowKit Go.Proofs.Ytljoejddjendbaa.Hw Go.Proofs.YtljoejddjendbaaW.PrintWords Go.Proofs.YtljoejddjendbaaW.PrintLast Go.Proofs.YtljoejddjendbaaW.PrintMore
attribute [local go_sem] max2_int min2_int max_two min_two max_three min_three max_four min_four   -- for this text's walks alone
set_option linter.unusedVariables false
set_option linter.unusedSimpArgs false
set_option linter.unusedSectionVars false



def errW : Option Int → Value
  | none => .nilIface
  | some c => .iface 0 (.int .i64 c)
theorem errW_none : errW none = .nilIface := rfl
theorem errW_some (c : Int) : errW (some c) = .iface 0 (.int .i64 c) := rfl

theorem info3 : (Try.prog.info? 3).map (fun i => (i.zero, i.size, i.bytes)) = some (some (.int .i64 0), 1, 8) := by kernel_rfl
-- the values' own types

end Go.Proofs.Ytljoejddjendbaa.PFnExactIsHardened
