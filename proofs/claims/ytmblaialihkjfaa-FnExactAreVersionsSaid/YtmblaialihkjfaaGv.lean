/- Plain definitions and lemmas on lists of versions; no program in sight. -/
import Derived.Test.YtmblaialihkjfaaGb
namespace Go.Proofs.Ytmblaialihkjfaa.Gv
open Go.RowKit Go.Proofs.YtmblaialihkjfaaW.PrintWords Go.Proofs.Ytmblaialihkjfaa.Gb

/-- Element i is a version, and greater than the one ahead of it. -/
def verOk (l : List Int) (i : Nat) : Bool := decide (1 ≤ nt 0 l i ∧ nt 0 l i ≤ 9) && (i == 0 || decide (nt 0 l (i - 1) < nt 0 l i))
def areVers (l : List Int) : Bool := allFrom (verOk l) 0 l.length && decide (0 < l.length)

end Go.Proofs.Ytmblaialihkjfaa.Gv
