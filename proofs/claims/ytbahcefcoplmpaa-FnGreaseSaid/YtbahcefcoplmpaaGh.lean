/- Plain definitions and lemmas: the remainder, the hash, picks and reserved tags, as the program and the reference compute them; no program in sight. -/
import Derived.Test.YtbahcefcoplmpaaGb
set_option linter.unusedSimpArgs false
set_option linter.unusedVariables false
namespace Go.Proofs.Ytbahcefcoplmpaa.Gh
open Go.RowKit Go.Proofs.YtbahcefcoplmpaaW.PrintWords Go.Proofs.Ytbahcefcoplmpaa.Gb

def modOf (a b : Int) : Int := if 1 ≤ b ∧ b ≤ 1000000000000 then Int.tmod (wrap64 (Int.tmod a b + b)) b else 0
def hashStep (s x : Int) : Int := Int.tmod (wrap64 (wrap64 (wrap64 (s * 1000003) + modOf x 2147483647) + 13)) 2147483647
def hashOf (l : List Int) : Int := l.foldl hashStep 11
def pickOf (a b c : Int) : Int := if c < 1 then 0 else modOf (hashOf [a, b]) c
def greaseTag (a : Int) : Int := wrap64 (wrap64 (16 * pickOf a 0 16) + 10)

end Go.Proofs.Ytbahcefcoplmpaa.Gh
