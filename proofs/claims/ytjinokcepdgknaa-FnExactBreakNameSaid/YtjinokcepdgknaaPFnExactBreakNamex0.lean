-- WRITTEN by pp.py, this session's own wrapper around the print; not trusted: Lean checks it
import Derived.Test.YtjinokcepdgknaaProg
import Derived.Below
import Derived.Deep.Draws
import Derived.Deep.AppendLies
import Derived.Maps.AppendAt
import Derived.OwnWalk
import Derived.Laws.BytesArg
import Derived.Laws.MakeOwn
import Derived.Laws.OwnMore
import Derived.Deep.OwnRows
import Derived.Tactics
import Derived.Lib.ConvBytes
import Derived.Laws.Slices
import Derived.WalkKit
import Derived.KernelRfl
import Derived.RowKit3
import Derived.Deep.LoopGhost
import Derived.Deep.QuietTactic
import Derived.BigQuiet
import Derived.WideLaws
import Derived.Deep.DeepCutAuto
import Derived.Deep.CutBlock
import Derived.Deep.RegionHeld3
import Derived.Laws.Rows
import Derived.Lib.AppendStr
import Derived.ArgAppend
import Derived.Laws.IdiomCopy
import Derived.OrdersHeld
import Derived.Laws.BitsLemmas
import Derived.RowKit
import Derived.Test.YtjinokcepdgknaaHw
import Derived.Test.YtjinokcepdgknaaWWords
import Derived.Test.YtjinokcepdgknaaWLast
import Derived.Test.YtjinokcepdgknaaWTab
import Derived.Test.YtjinokcepdgknaaWFour
import Derived.Test.YtjinokcepdgknaaWQPut
import Derived.Test.YtjinokcepdgknaaWApart
import Derived.Test.YtjinokcepdgknaaWArr
import Derived.Test.YtjinokcepdgknaaWZeros
import Derived.Test.YtjinokcepdgknaaWFoot
import Derived.Test.YtjinokcepdgknaaWKept
import Derived.Test.YtjinokcepdgknaaWShare
import Derived.Test.YtjinokcepdgknaaWN
import Derived.Test.YtjinokcepdgknaaWFootNe
import Derived.Test.YtjinokcepdgknaaWAt
import Derived.Test.YtjinokcepdgknaaWEqStruct
import Derived.Test.YtjinokcepdgknaaWRepsOne
import Derived.Test.YtjinokcepdgknaaWInv
import Derived.Test.YtjinokcepdgknaaWInvWords
import Derived.Test.YtjinokcepdgknaaWGuard
import Derived.Test.YtjinokcepdgknaaWNEv
import Derived.Test.YtjinokcepdgknaaWMore
namespace Go.Proofs.Ytjinokcepdgknaa.PFnExactBreakName
open Go.RowKit Go.Proofs.Ytjinokcepdgknaa.Hw Go.Proofs.YtjinokcepdgknaaW.PrintWords Go.Proofs.YtjinokcepdgknaaW.PrintLast Go.Proofs.YtjinokcepdgknaaW.PrintMore
attribute [local go_sem] max2_int min2_int max_two min_two max_three min_three max_four min_four   -- for this text's walks alone
set_option linter.unusedVariables false
set_option linter.unusedSimpArgs false
set_option linter.unusedSectionVars false



def errW : Option Int → Value
  | none => .nilIface
  | some c => .iface 0 (.int .i64 c)
theorem errW_none : errW none = .nilIface := rfl
theorem errW_some (c : Int) : errW (some c) = .iface 0 (.int .i64 c) := rfl

theorem info9 : (Try.prog.info? 9).map (fun i => (i.zero, i.size, i.bytes)) = some (some (.string ⟨#[]⟩), 1, 16) := by kernel_rfl
-- the values' own types

end Go.Proofs.Ytjinokcepdgknaa.PFnExactBreakName
