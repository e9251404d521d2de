/-
  No cell of these rows narrows 'for every input' (looked for: loops, veiled, ifaces, maps, wideKeys, modest, calm, conditions, laid).
  DERIVED. THE GIVEN ROWS OF THIS SEAT. 18 by the template 'for every input the law returns true; each argument reads behind the call as it read before'; 0 by the template 'total and deterministic' (their statements: YtfnbfconhpppfaaTotals.lean).
  GIVEN WITH THE SEED: the statements are not yours to turn. If you find one false, say at which input.
  Laid BY PROGRAM, IN A SANDBOX (cutbox-rows.mjs): the forced cells as the released guide's own fill.sh prints them over the translation 110e960eb8a51f6d… (all of the seat's roots in one cut). By AI agents, Wed Nov 11 2026. No macro, syntax, notation, axiom, sorry.
-/
import Derived.Test.YtfnbfconhpppfaaChecked
import GoSem.Claim
import GoSem.ClaimJoined
import GoSem.ClaimMapViews
import Derived.JoinedTies
import Derived.KernelRfl
namespace Go.Proofs.Ytfnbfconhpppfaa
/- THE CELL 'sum', in the pinned program and in every row, IS THE sha256 OF THE DUMP (.gsa) THAT YtfnbfconhpppfaaProg.lean LOADS. Nothing in Lean hashes anything: it is a label: what it is worth is what the hold of that sum in a sandbox is worth. -/
noncomputable def Try.pinned : Pinned := { name := "ytfnbfconhpppfaa", sum := "110e960eb8a51f6d5bfd2b67549289832ebc253b48bcd6dd5f9c8f35f34abca4", checked := Try.checked }
namespace Rows
def none {H : Type} : Left H := { results := [], args := [] }

/-- 'laws.FnChain': WHATEVER THE INPUT: true; the input reads as it did. -/
def fnChainSpec : ChangeSpec := { name := "fnChain", fn := fun _ => fun
  | [d] => { results := [.lit (.bool true)], args := [d] }
  | _ => none }
def fnChainRow : OpenClaim := { program := "ytfnbfconhpppfaa", sum := "110e960eb8a51f6d5bfd2b67549289832ebc253b48bcd6dd5f9c8f35f34abca4", func := "loop.example/g03000/laws.FnChain", spec := "fnChain", unfollowed := true, recurses := true, apart := false }
def FnChainSaid : Prop := fnChainRow.holds Try.pinned (OpenSpec.ofChange fnChainSpec)

/-- ITS FALSE NEIGHBOUR: 'it returns false'. Refute it at one input. -/
def fnChainWrong : ChangeSpec := { name := "fnChain", fn := fun _ => fun
  | [d] => { results := [.lit (.bool false)], args := [d] }
  | _ => none }
def FnChainWrongFalsely : Prop := fnChainRow.holds Try.pinned (OpenSpec.ofChange fnChainWrong)

/-- 'laws.FnExactFirstTrouble': WHATEVER THE INPUT: true; the input reads as it did. -/
def fnExactFirstTroubleSpec : ChangeSpec := { name := "fnExactFirstTrouble", fn := fun _ => fun
  | [d1, d2] => { results := [.lit (.bool true)], args := [d1, d2] }
  | _ => none }
def fnExactFirstTroubleRow : OpenClaim := { program := "ytfnbfconhpppfaa", sum := "110e960eb8a51f6d5bfd2b67549289832ebc253b48bcd6dd5f9c8f35f34abca4", func := "loop.example/g03000/laws.FnExactFirstTrouble", spec := "fnExactFirstTrouble", unfollowed := true, recurses := true, apart := false }
def FnExactFirstTroubleSaid : Prop := fnExactFirstTroubleRow.holds Try.pinned (OpenSpec.ofChange fnExactFirstTroubleSpec)

/-- ITS FALSE NEIGHBOUR: 'it returns false'. Refute it at one input. -/
def fnExactFirstTroubleWrong : ChangeSpec := { name := "fnExactFirstTrouble", fn := fun _ => fun
  | [d1, d2] => { results := [.lit (.bool false)], args := [d1, d2] }
  | _ => none }
def FnExactFirstTroubleWrongFalsely : Prop := fnExactFirstTroubleRow.holds Try.pinned (OpenSpec.ofChange fnExactFirstTroubleWrong)

/-- 'laws.FnExactMoveOf': WHATEVER THE INPUT: true; the input reads as it did. -/
def fnExactMoveOfSpec : ChangeSpec := { name := "fnExactMoveOf", fn := fun _ => fun
  | [d1, d2, d3, d4] => { results := [.lit (.bool true)], args := [d1, d2, d3, d4] }
  | _ => none }
def fnExactMoveOfRow : OpenClaim := { program := "ytfnbfconhpppfaa", sum := "110e960eb8a51f6d5bfd2b67549289832ebc253b48bcd6dd5f9c8f35f34abca4", func := "loop.example/g03000/laws.FnExactMoveOf", spec := "fnExactMoveOf", unfollowed := true, recurses := true, apart := false }
def FnExactMoveOfSaid : Prop := fnExactMoveOfRow.holds Try.pinned (OpenSpec.ofChange fnExactMoveOfSpec)

/-- ITS FALSE NEIGHBOUR: 'it returns false'. Refute it at one input. -/
def fnExactMoveOfWrong : ChangeSpec := { name := "fnExactMoveOf", fn := fun _ => fun
  | [d1, d2, d3, d4] => { results := [.lit (.bool false)], args := [d1, d2, d3, d4] }
  | _ => none }
def FnExactMoveOfWrongFalsely : Prop := fnExactMoveOfRow.holds Try.pinned (OpenSpec.ofChange fnExactMoveOfWrong)

/-- 'laws.FnExactChainFollows': WHATEVER THE INPUT: true; the input reads as it did. -/
def fnExactChainFollowsSpec : ChangeSpec := { name := "fnExactChainFollows", fn := fun _ => fun
  | [d] => { results := [.lit (.bool true)], args := [d] }
  | _ => none }
def fnExactChainFollowsRow : OpenClaim := { program := "ytfnbfconhpppfaa", sum := "110e960eb8a51f6d5bfd2b67549289832ebc253b48bcd6dd5f9c8f35f34abca4", func := "loop.example/g03000/laws.FnExactChainFollows", spec := "fnExactChainFollows", unfollowed := true, recurses := true, apart := false }
def FnExactChainFollowsSaid : Prop := fnExactChainFollowsRow.holds Try.pinned (OpenSpec.ofChange fnExactChainFollowsSpec)

/-- ITS FALSE NEIGHBOUR: 'it returns false'. Refute it at one input. -/
def fnExactChainFollowsWrong : ChangeSpec := { name := "fnExactChainFollows", fn := fun _ => fun
  | [d] => { results := [.lit (.bool false)], args := [d] }
  | _ => none }
def FnExactChainFollowsWrongFalsely : Prop := fnExactChainFollowsRow.holds Try.pinned (OpenSpec.ofChange fnExactChainFollowsWrong)

/-- 'laws.FnExactEqualMachines': WHATEVER THE INPUT: true; the input reads as it did. -/
def fnExactEqualMachinesSpec : ChangeSpec := { name := "fnExactEqualMachines", fn := fun _ => fun
  | [d1, d2] => { results := [.lit (.bool true)], args := [d1, d2] }
  | _ => none }
def fnExactEqualMachinesRow : OpenClaim := { program := "ytfnbfconhpppfaa", sum := "110e960eb8a51f6d5bfd2b67549289832ebc253b48bcd6dd5f9c8f35f34abca4", func := "loop.example/g03000/laws.FnExactEqualMachines", spec := "fnExactEqualMachines", apart := false }
def FnExactEqualMachinesSaid : Prop := fnExactEqualMachinesRow.holds Try.pinned (OpenSpec.ofChange fnExactEqualMachinesSpec)

/-- ITS FALSE NEIGHBOUR: 'it returns false'. Refute it at one input. -/
def fnExactEqualMachinesWrong : ChangeSpec := { name := "fnExactEqualMachines", fn := fun _ => fun
  | [d1, d2] => { results := [.lit (.bool false)], args := [d1, d2] }
  | _ => none }
def FnExactEqualMachinesWrongFalsely : Prop := fnExactEqualMachinesRow.holds Try.pinned (OpenSpec.ofChange fnExactEqualMachinesWrong)

/-- 'laws.FnExactIsMachine': WHATEVER THE INPUT: true; the input reads as it did. -/
def fnExactIsMachineSpec : ChangeSpec := { name := "fnExactIsMachine", fn := fun _ => fun
  | [d] => { results := [.lit (.bool true)], args := [d] }
  | _ => none }
def fnExactIsMachineRow : OpenClaim := { program := "ytfnbfconhpppfaa", sum := "110e960eb8a51f6d5bfd2b67549289832ebc253b48bcd6dd5f9c8f35f34abca4", func := "loop.example/g03000/laws.FnExactIsMachine", spec := "fnExactIsMachine", apart := false }
def FnExactIsMachineSaid : Prop := fnExactIsMachineRow.holds Try.pinned (OpenSpec.ofChange fnExactIsMachineSpec)

/-- ITS FALSE NEIGHBOUR: 'it returns false'. Refute it at one input. -/
def fnExactIsMachineWrong : ChangeSpec := { name := "fnExactIsMachine", fn := fun _ => fun
  | [d] => { results := [.lit (.bool false)], args := [d] }
  | _ => none }
def FnExactIsMachineWrongFalsely : Prop := fnExactIsMachineRow.holds Try.pinned (OpenSpec.ofChange fnExactIsMachineWrong)

/-- 'laws.FnExactDualOf': WHATEVER THE INPUT: true; the input reads as it did. -/
def fnExactDualOfSpec : ChangeSpec := { name := "fnExactDualOf", fn := fun _ => fun
  | [d] => { results := [.lit (.bool true)], args := [d] }
  | _ => none }
def fnExactDualOfRow : OpenClaim := { program := "ytfnbfconhpppfaa", sum := "110e960eb8a51f6d5bfd2b67549289832ebc253b48bcd6dd5f9c8f35f34abca4", func := "loop.example/g03000/laws.FnExactDualOf", spec := "fnExactDualOf", apart := false }
def FnExactDualOfSaid : Prop := fnExactDualOfRow.holds Try.pinned (OpenSpec.ofChange fnExactDualOfSpec)

/-- ITS FALSE NEIGHBOUR: 'it returns false'. Refute it at one input. -/
def fnExactDualOfWrong : ChangeSpec := { name := "fnExactDualOf", fn := fun _ => fun
  | [d] => { results := [.lit (.bool false)], args := [d] }
  | _ => none }
def FnExactDualOfWrongFalsely : Prop := fnExactDualOfRow.holds Try.pinned (OpenSpec.ofChange fnExactDualOfWrong)

/-- 'laws.FnExactRunMachine': WHATEVER THE INPUT: true; the input reads as it did. -/
def fnExactRunMachineSpec : ChangeSpec := { name := "fnExactRunMachine", fn := fun _ => fun
  | [d1, d2] => { results := [.lit (.bool true)], args := [d1, d2] }
  | _ => none }
def fnExactRunMachineRow : OpenClaim := { program := "ytfnbfconhpppfaa", sum := "110e960eb8a51f6d5bfd2b67549289832ebc253b48bcd6dd5f9c8f35f34abca4", func := "loop.example/g03000/laws.FnExactRunMachine", spec := "fnExactRunMachine", unfollowed := true, recurses := true, apart := false }
def FnExactRunMachineSaid : Prop := fnExactRunMachineRow.holds Try.pinned (OpenSpec.ofChange fnExactRunMachineSpec)

/-- ITS FALSE NEIGHBOUR: 'it returns false'. Refute it at one input. -/
def fnExactRunMachineWrong : ChangeSpec := { name := "fnExactRunMachine", fn := fun _ => fun
  | [d1, d2] => { results := [.lit (.bool false)], args := [d1, d2] }
  | _ => none }
def FnExactRunMachineWrongFalsely : Prop := fnExactRunMachineRow.holds Try.pinned (OpenSpec.ofChange fnExactRunMachineWrong)

/-- 'laws.FnExactMovesFrom': WHATEVER THE INPUT: true; the input reads as it did. -/
def fnExactMovesFromSpec : ChangeSpec := { name := "fnExactMovesFrom", fn := fun _ => fun
  | [d1, d2, d3] => { results := [.lit (.bool true)], args := [d1, d2, d3] }
  | _ => none }
def fnExactMovesFromRow : OpenClaim := { program := "ytfnbfconhpppfaa", sum := "110e960eb8a51f6d5bfd2b67549289832ebc253b48bcd6dd5f9c8f35f34abca4", func := "loop.example/g03000/laws.FnExactMovesFrom", spec := "fnExactMovesFrom", recurses := true, apart := false }
def FnExactMovesFromSaid : Prop := fnExactMovesFromRow.holds Try.pinned (OpenSpec.ofChange fnExactMovesFromSpec)

/-- ITS FALSE NEIGHBOUR: 'it returns false'. Refute it at one input. -/
def fnExactMovesFromWrong : ChangeSpec := { name := "fnExactMovesFrom", fn := fun _ => fun
  | [d1, d2, d3] => { results := [.lit (.bool false)], args := [d1, d2, d3] }
  | _ => none }
def FnExactMovesFromWrongFalsely : Prop := fnExactMovesFromRow.holds Try.pinned (OpenSpec.ofChange fnExactMovesFromWrong)

/-- 'laws.FnMachines': WHATEVER THE INPUT: true; the input reads as it did. -/
def fnMachinesSpec : ChangeSpec := { name := "fnMachines", fn := fun _ => fun
  | [d] => { results := [.lit (.bool true)], args := [d] }
  | _ => none }
def fnMachinesRow : OpenClaim := { program := "ytfnbfconhpppfaa", sum := "110e960eb8a51f6d5bfd2b67549289832ebc253b48bcd6dd5f9c8f35f34abca4", func := "loop.example/g03000/laws.FnMachines", spec := "fnMachines", unfollowed := true, recurses := true, apart := false }
def FnMachinesSaid : Prop := fnMachinesRow.holds Try.pinned (OpenSpec.ofChange fnMachinesSpec)

/-- ITS FALSE NEIGHBOUR: 'it returns false'. Refute it at one input. -/
def fnMachinesWrong : ChangeSpec := { name := "fnMachines", fn := fun _ => fun
  | [d] => { results := [.lit (.bool false)], args := [d] }
  | _ => none }
def FnMachinesWrongFalsely : Prop := fnMachinesRow.holds Try.pinned (OpenSpec.ofChange fnMachinesWrong)

/-- 'laws.FnExactFollowsAt': WHATEVER THE INPUT: true; the input reads as it did. -/
def fnExactFollowsAtSpec : ChangeSpec := { name := "fnExactFollowsAt", fn := fun _ => fun
  | [d1, d2, d3, d4] => { results := [.lit (.bool true)], args := [d1, d2, d3, d4] }
  | _ => none }
def fnExactFollowsAtRow : OpenClaim := { program := "ytfnbfconhpppfaa", sum := "110e960eb8a51f6d5bfd2b67549289832ebc253b48bcd6dd5f9c8f35f34abca4", func := "loop.example/g03000/laws.FnExactFollowsAt", spec := "fnExactFollowsAt", recurses := true, apart := false }
def FnExactFollowsAtSaid : Prop := fnExactFollowsAtRow.holds Try.pinned (OpenSpec.ofChange fnExactFollowsAtSpec)

/-- ITS FALSE NEIGHBOUR: 'it returns false'. Refute it at one input. -/
def fnExactFollowsAtWrong : ChangeSpec := { name := "fnExactFollowsAt", fn := fun _ => fun
  | [d1, d2, d3, d4] => { results := [.lit (.bool false)], args := [d1, d2, d3, d4] }
  | _ => none }
def FnExactFollowsAtWrongFalsely : Prop := fnExactFollowsAtRow.holds Try.pinned (OpenSpec.ofChange fnExactFollowsAtWrong)

/-- 'laws.FnExactTroubleAt': WHATEVER THE INPUT: true; the input reads as it did. -/
def fnExactTroubleAtSpec : ChangeSpec := { name := "fnExactTroubleAt", fn := fun _ => fun
  | [d1, d2, d3, d4] => { results := [.lit (.bool true)], args := [d1, d2, d3, d4] }
  | _ => none }
def fnExactTroubleAtRow : OpenClaim := { program := "ytfnbfconhpppfaa", sum := "110e960eb8a51f6d5bfd2b67549289832ebc253b48bcd6dd5f9c8f35f34abca4", func := "loop.example/g03000/laws.FnExactTroubleAt", spec := "fnExactTroubleAt", unfollowed := true, recurses := true, apart := false }
def FnExactTroubleAtSaid : Prop := fnExactTroubleAtRow.holds Try.pinned (OpenSpec.ofChange fnExactTroubleAtSpec)

/-- ITS FALSE NEIGHBOUR: 'it returns false'. Refute it at one input. -/
def fnExactTroubleAtWrong : ChangeSpec := { name := "fnExactTroubleAt", fn := fun _ => fun
  | [d1, d2, d3, d4] => { results := [.lit (.bool false)], args := [d1, d2, d3, d4] }
  | _ => none }
def FnExactTroubleAtWrongFalsely : Prop := fnExactTroubleAtRow.holds Try.pinned (OpenSpec.ofChange fnExactTroubleAtWrong)

/-- 'laws.FnExactNextPairs': WHATEVER THE INPUT: true; the input reads as it did. -/
def fnExactNextPairsSpec : ChangeSpec := { name := "fnExactNextPairs", fn := fun _ => fun
  | [d1, d2, d3, d4] => { results := [.lit (.bool true)], args := [d1, d2, d3, d4] }
  | _ => none }
def fnExactNextPairsRow : OpenClaim := { program := "ytfnbfconhpppfaa", sum := "110e960eb8a51f6d5bfd2b67549289832ebc253b48bcd6dd5f9c8f35f34abca4", func := "loop.example/g03000/laws.FnExactNextPairs", spec := "fnExactNextPairs", unfollowed := true, recurses := true, apart := false }
def FnExactNextPairsSaid : Prop := fnExactNextPairsRow.holds Try.pinned (OpenSpec.ofChange fnExactNextPairsSpec)

/-- ITS FALSE NEIGHBOUR: 'it returns false'. Refute it at one input. -/
def fnExactNextPairsWrong : ChangeSpec := { name := "fnExactNextPairs", fn := fun _ => fun
  | [d1, d2, d3, d4] => { results := [.lit (.bool false)], args := [d1, d2, d3, d4] }
  | _ => none }
def FnExactNextPairsWrongFalsely : Prop := fnExactNextPairsRow.holds Try.pinned (OpenSpec.ofChange fnExactNextPairsWrong)

/-- 'laws.FnPairs': WHATEVER THE INPUT: true; the input reads as it did. -/
def fnPairsSpec : ChangeSpec := { name := "fnPairs", fn := fun _ => fun
  | [d] => { results := [.lit (.bool true)], args := [d] }
  | _ => none }
def fnPairsRow : OpenClaim := { program := "ytfnbfconhpppfaa", sum := "110e960eb8a51f6d5bfd2b67549289832ebc253b48bcd6dd5f9c8f35f34abca4", func := "loop.example/g03000/laws.FnPairs", spec := "fnPairs", unfollowed := true, recurses := true, apart := false }
def FnPairsSaid : Prop := fnPairsRow.holds Try.pinned (OpenSpec.ofChange fnPairsSpec)

/-- ITS FALSE NEIGHBOUR: 'it returns false'. Refute it at one input. -/
def fnPairsWrong : ChangeSpec := { name := "fnPairs", fn := fun _ => fun
  | [d] => { results := [.lit (.bool false)], args := [d] }
  | _ => none }
def FnPairsWrongFalsely : Prop := fnPairsRow.holds Try.pinned (OpenSpec.ofChange fnPairsWrong)

/-- 'laws.FnExactIsSafe': WHATEVER THE INPUT: true; the input reads as it did. -/
def fnExactIsSafeSpec : ChangeSpec := { name := "fnExactIsSafe", fn := fun _ => fun
  | [d1, d2] => { results := [.lit (.bool true)], args := [d1, d2] }
  | _ => none }
def fnExactIsSafeRow : OpenClaim := { program := "ytfnbfconhpppfaa", sum := "110e960eb8a51f6d5bfd2b67549289832ebc253b48bcd6dd5f9c8f35f34abca4", func := "loop.example/g03000/laws.FnExactIsSafe", spec := "fnExactIsSafe", unfollowed := true, recurses := true, apart := false }
def FnExactIsSafeSaid : Prop := fnExactIsSafeRow.holds Try.pinned (OpenSpec.ofChange fnExactIsSafeSpec)

/-- ITS FALSE NEIGHBOUR: 'it returns false'. Refute it at one input. -/
def fnExactIsSafeWrong : ChangeSpec := { name := "fnExactIsSafe", fn := fun _ => fun
  | [d1, d2] => { results := [.lit (.bool false)], args := [d1, d2] }
  | _ => none }
def FnExactIsSafeWrongFalsely : Prop := fnExactIsSafeRow.holds Try.pinned (OpenSpec.ofChange fnExactIsSafeWrong)

/-- 'laws.FnExactFollowPairs': WHATEVER THE INPUT: true; the input reads as it did. -/
def fnExactFollowPairsSpec : ChangeSpec := { name := "fnExactFollowPairs", fn := fun _ => fun
  | [d1, d2] => { results := [.lit (.bool true)], args := [d1, d2] }
  | _ => none }
def fnExactFollowPairsRow : OpenClaim := { program := "ytfnbfconhpppfaa", sum := "110e960eb8a51f6d5bfd2b67549289832ebc253b48bcd6dd5f9c8f35f34abca4", func := "loop.example/g03000/laws.FnExactFollowPairs", spec := "fnExactFollowPairs", unfollowed := true, recurses := true, apart := false }
def FnExactFollowPairsSaid : Prop := fnExactFollowPairsRow.holds Try.pinned (OpenSpec.ofChange fnExactFollowPairsSpec)

/-- ITS FALSE NEIGHBOUR: 'it returns false'. Refute it at one input. -/
def fnExactFollowPairsWrong : ChangeSpec := { name := "fnExactFollowPairs", fn := fun _ => fun
  | [d1, d2] => { results := [.lit (.bool false)], args := [d1, d2] }
  | _ => none }
def FnExactFollowPairsWrongFalsely : Prop := fnExactFollowPairsRow.holds Try.pinned (OpenSpec.ofChange fnExactFollowPairsWrong)

/-- 'laws.FnExactFollows': WHATEVER THE INPUT: true; the input reads as it did. -/
def fnExactFollowsSpec : ChangeSpec := { name := "fnExactFollows", fn := fun _ => fun
  | [d1, d2] => { results := [.lit (.bool true)], args := [d1, d2] }
  | _ => none }
def fnExactFollowsRow : OpenClaim := { program := "ytfnbfconhpppfaa", sum := "110e960eb8a51f6d5bfd2b67549289832ebc253b48bcd6dd5f9c8f35f34abca4", func := "loop.example/g03000/laws.FnExactFollows", spec := "fnExactFollows", unfollowed := true, recurses := true, apart := false }
def FnExactFollowsSaid : Prop := fnExactFollowsRow.holds Try.pinned (OpenSpec.ofChange fnExactFollowsSpec)

/-- ITS FALSE NEIGHBOUR: 'it returns false'. Refute it at one input. -/
def fnExactFollowsWrong : ChangeSpec := { name := "fnExactFollows", fn := fun _ => fun
  | [d1, d2] => { results := [.lit (.bool false)], args := [d1, d2] }
  | _ => none }
def FnExactFollowsWrongFalsely : Prop := fnExactFollowsRow.holds Try.pinned (OpenSpec.ofChange fnExactFollowsWrong)

/-- 'laws.FnExactPairsOf': WHATEVER THE INPUT: true; the input reads as it did. -/
def fnExactPairsOfSpec : ChangeSpec := { name := "fnExactPairsOf", fn := fun _ => fun
  | [d1, d2] => { results := [.lit (.bool true)], args := [d1, d2] }
  | _ => none }
def fnExactPairsOfRow : OpenClaim := { program := "ytfnbfconhpppfaa", sum := "110e960eb8a51f6d5bfd2b67549289832ebc253b48bcd6dd5f9c8f35f34abca4", func := "loop.example/g03000/laws.FnExactPairsOf", spec := "fnExactPairsOf", unfollowed := true, recurses := true, apart := false }
def FnExactPairsOfSaid : Prop := fnExactPairsOfRow.holds Try.pinned (OpenSpec.ofChange fnExactPairsOfSpec)

/-- ITS FALSE NEIGHBOUR: 'it returns false'. Refute it at one input. -/
def fnExactPairsOfWrong : ChangeSpec := { name := "fnExactPairsOf", fn := fun _ => fun
  | [d1, d2] => { results := [.lit (.bool false)], args := [d1, d2] }
  | _ => none }
def FnExactPairsOfWrongFalsely : Prop := fnExactPairsOfRow.holds Try.pinned (OpenSpec.ofChange fnExactPairsOfWrong)

/- THE SECOND FORM. 'bulk': how many values and letters a reading holds, each counted each time it is reached (what is shared counts as often as it is met; a slice's spare places count too). A statement '..UptoSaid' is the law's where the arguments, and the package variables that the reading takes, are together of bulk at most 1048576: NARROWER than '..Said'. Prove '..Said' where nothing that the law and all that it calls make is longer than what came in: it says more and counts as full. Else prove '..UptoSaid'. A law counts once. -/
mutual
def uptoBulk {H : Type} : DataW H → Nat
  | .lit (.string bytes) => bytes.length + 1
  | .lit _ => 1
  | .nil => 1
  | .ptr d => uptoBulk d + 1
  | .slice elems spare => uptoBulkAll elems + uptoBulkAll spare + 1
  | .agg parts => uptoBulkAll parts + 1
  | .iface _ d => uptoBulk d + 1
  | .map entries => uptoBulkEntries entries + 1
  | .held _ => 1
def uptoBulkAll {H : Type} : List (DataW H) → Nat
  | [] => 0
  | d :: r => uptoBulk d + uptoBulkAll r
def uptoBulkEntries {H : Type} : List (Lit × DataW H) → Nat
  | [] => 0
  | x :: r => uptoBulkEntry x + uptoBulkEntries r
def uptoBulkEntry {H : Type} : Lit × DataW H → Nat
  | (.string bytes, d) => bytes.length + uptoBulk d + 1
  | (_, d) => uptoBulk d + 1
 end
def uptoSmall : (H : Type) → List (DataW H) → Bool := fun _ ds => decide (uptoBulkAll ds ≤ 1048576)
def OpenSpec.upto (s : _root_.Go.ChangeSpec) : _root_.Go.OpenSpec := { _root_.Go.OpenSpec.ofChange s with cond := some uptoSmall }

/-- 'laws.FnChain', WHERE WHAT IT READS IS OF BULK AT MOST 1048576: true; the input reads as it did. -/
def fnChainUptoRow : OpenClaim := { program := "ytfnbfconhpppfaa", sum := "110e960eb8a51f6d5bfd2b67549289832ebc253b48bcd6dd5f9c8f35f34abca4", func := "loop.example/g03000/laws.FnChain", spec := "fnChain", unfollowed := true, recurses := true, apart := false, narrowed := true }
def FnChainUptoSaid : Prop := fnChainUptoRow.holds Try.pinned (OpenSpec.upto fnChainSpec)

/-- 'laws.FnExactFirstTrouble', WHERE WHAT IT READS IS OF BULK AT MOST 1048576: true; the input reads as it did. -/
def fnExactFirstTroubleUptoRow : OpenClaim := { program := "ytfnbfconhpppfaa", sum := "110e960eb8a51f6d5bfd2b67549289832ebc253b48bcd6dd5f9c8f35f34abca4", func := "loop.example/g03000/laws.FnExactFirstTrouble", spec := "fnExactFirstTrouble", unfollowed := true, recurses := true, apart := false, narrowed := true }
def FnExactFirstTroubleUptoSaid : Prop := fnExactFirstTroubleUptoRow.holds Try.pinned (OpenSpec.upto fnExactFirstTroubleSpec)

/-- 'laws.FnExactMoveOf', WHERE WHAT IT READS IS OF BULK AT MOST 1048576: true; the input reads as it did. -/
def fnExactMoveOfUptoRow : OpenClaim := { program := "ytfnbfconhpppfaa", sum := "110e960eb8a51f6d5bfd2b67549289832ebc253b48bcd6dd5f9c8f35f34abca4", func := "loop.example/g03000/laws.FnExactMoveOf", spec := "fnExactMoveOf", unfollowed := true, recurses := true, apart := false, narrowed := true }
def FnExactMoveOfUptoSaid : Prop := fnExactMoveOfUptoRow.holds Try.pinned (OpenSpec.upto fnExactMoveOfSpec)

/-- 'laws.FnExactChainFollows', WHERE WHAT IT READS IS OF BULK AT MOST 1048576: true; the input reads as it did. -/
def fnExactChainFollowsUptoRow : OpenClaim := { program := "ytfnbfconhpppfaa", sum := "110e960eb8a51f6d5bfd2b67549289832ebc253b48bcd6dd5f9c8f35f34abca4", func := "loop.example/g03000/laws.FnExactChainFollows", spec := "fnExactChainFollows", unfollowed := true, recurses := true, apart := false, narrowed := true }
def FnExactChainFollowsUptoSaid : Prop := fnExactChainFollowsUptoRow.holds Try.pinned (OpenSpec.upto fnExactChainFollowsSpec)

/-- 'laws.FnExactEqualMachines', WHERE WHAT IT READS IS OF BULK AT MOST 1048576: true; the input reads as it did. -/
def fnExactEqualMachinesUptoRow : OpenClaim := { program := "ytfnbfconhpppfaa", sum := "110e960eb8a51f6d5bfd2b67549289832ebc253b48bcd6dd5f9c8f35f34abca4", func := "loop.example/g03000/laws.FnExactEqualMachines", spec := "fnExactEqualMachines", apart := false, narrowed := true }
def FnExactEqualMachinesUptoSaid : Prop := fnExactEqualMachinesUptoRow.holds Try.pinned (OpenSpec.upto fnExactEqualMachinesSpec)

/-- 'laws.FnExactIsMachine', WHERE WHAT IT READS IS OF BULK AT MOST 1048576: true; the input reads as it did. -/
def fnExactIsMachineUptoRow : OpenClaim := { program := "ytfnbfconhpppfaa", sum := "110e960eb8a51f6d5bfd2b67549289832ebc253b48bcd6dd5f9c8f35f34abca4", func := "loop.example/g03000/laws.FnExactIsMachine", spec := "fnExactIsMachine", apart := false, narrowed := true }
def FnExactIsMachineUptoSaid : Prop := fnExactIsMachineUptoRow.holds Try.pinned (OpenSpec.upto fnExactIsMachineSpec)

/-- 'laws.FnExactDualOf', WHERE WHAT IT READS IS OF BULK AT MOST 1048576: true; the input reads as it did. -/
def fnExactDualOfUptoRow : OpenClaim := { program := "ytfnbfconhpppfaa", sum := "110e960eb8a51f6d5bfd2b67549289832ebc253b48bcd6dd5f9c8f35f34abca4", func := "loop.example/g03000/laws.FnExactDualOf", spec := "fnExactDualOf", apart := false, narrowed := true }
def FnExactDualOfUptoSaid : Prop := fnExactDualOfUptoRow.holds Try.pinned (OpenSpec.upto fnExactDualOfSpec)

/-- 'laws.FnExactRunMachine', WHERE WHAT IT READS IS OF BULK AT MOST 1048576: true; the input reads as it did. -/
def fnExactRunMachineUptoRow : OpenClaim := { program := "ytfnbfconhpppfaa", sum := "110e960eb8a51f6d5bfd2b67549289832ebc253b48bcd6dd5f9c8f35f34abca4", func := "loop.example/g03000/laws.FnExactRunMachine", spec := "fnExactRunMachine", unfollowed := true, recurses := true, apart := false, narrowed := true }
def FnExactRunMachineUptoSaid : Prop := fnExactRunMachineUptoRow.holds Try.pinned (OpenSpec.upto fnExactRunMachineSpec)

/-- 'laws.FnExactMovesFrom', WHERE WHAT IT READS IS OF BULK AT MOST 1048576: true; the input reads as it did. -/
def fnExactMovesFromUptoRow : OpenClaim := { program := "ytfnbfconhpppfaa", sum := "110e960eb8a51f6d5bfd2b67549289832ebc253b48bcd6dd5f9c8f35f34abca4", func := "loop.example/g03000/laws.FnExactMovesFrom", spec := "fnExactMovesFrom", recurses := true, apart := false, narrowed := true }
def FnExactMovesFromUptoSaid : Prop := fnExactMovesFromUptoRow.holds Try.pinned (OpenSpec.upto fnExactMovesFromSpec)

/-- 'laws.FnMachines', WHERE WHAT IT READS IS OF BULK AT MOST 1048576: true; the input reads as it did. -/
def fnMachinesUptoRow : OpenClaim := { program := "ytfnbfconhpppfaa", sum := "110e960eb8a51f6d5bfd2b67549289832ebc253b48bcd6dd5f9c8f35f34abca4", func := "loop.example/g03000/laws.FnMachines", spec := "fnMachines", unfollowed := true, recurses := true, apart := false, narrowed := true }
def FnMachinesUptoSaid : Prop := fnMachinesUptoRow.holds Try.pinned (OpenSpec.upto fnMachinesSpec)

/-- 'laws.FnExactFollowsAt', WHERE WHAT IT READS IS OF BULK AT MOST 1048576: true; the input reads as it did. -/
def fnExactFollowsAtUptoRow : OpenClaim := { program := "ytfnbfconhpppfaa", sum := "110e960eb8a51f6d5bfd2b67549289832ebc253b48bcd6dd5f9c8f35f34abca4", func := "loop.example/g03000/laws.FnExactFollowsAt", spec := "fnExactFollowsAt", recurses := true, apart := false, narrowed := true }
def FnExactFollowsAtUptoSaid : Prop := fnExactFollowsAtUptoRow.holds Try.pinned (OpenSpec.upto fnExactFollowsAtSpec)

/-- 'laws.FnExactTroubleAt', WHERE WHAT IT READS IS OF BULK AT MOST 1048576: true; the input reads as it did. -/
def fnExactTroubleAtUptoRow : OpenClaim := { program := "ytfnbfconhpppfaa", sum := "110e960eb8a51f6d5bfd2b67549289832ebc253b48bcd6dd5f9c8f35f34abca4", func := "loop.example/g03000/laws.FnExactTroubleAt", spec := "fnExactTroubleAt", unfollowed := true, recurses := true, apart := false, narrowed := true }
def FnExactTroubleAtUptoSaid : Prop := fnExactTroubleAtUptoRow.holds Try.pinned (OpenSpec.upto fnExactTroubleAtSpec)

/-- 'laws.FnExactNextPairs', WHERE WHAT IT READS IS OF BULK AT MOST 1048576: true; the input reads as it did. -/
def fnExactNextPairsUptoRow : OpenClaim := { program := "ytfnbfconhpppfaa", sum := "110e960eb8a51f6d5bfd2b67549289832ebc253b48bcd6dd5f9c8f35f34abca4", func := "loop.example/g03000/laws.FnExactNextPairs", spec := "fnExactNextPairs", unfollowed := true, recurses := true, apart := false, narrowed := true }
def FnExactNextPairsUptoSaid : Prop := fnExactNextPairsUptoRow.holds Try.pinned (OpenSpec.upto fnExactNextPairsSpec)

/-- 'laws.FnPairs', WHERE WHAT IT READS IS OF BULK AT MOST 1048576: true; the input reads as it did. -/
def fnPairsUptoRow : OpenClaim := { program := "ytfnbfconhpppfaa", sum := "110e960eb8a51f6d5bfd2b67549289832ebc253b48bcd6dd5f9c8f35f34abca4", func := "loop.example/g03000/laws.FnPairs", spec := "fnPairs", unfollowed := true, recurses := true, apart := false, narrowed := true }
def FnPairsUptoSaid : Prop := fnPairsUptoRow.holds Try.pinned (OpenSpec.upto fnPairsSpec)

/-- 'laws.FnExactIsSafe', WHERE WHAT IT READS IS OF BULK AT MOST 1048576: true; the input reads as it did. -/
def fnExactIsSafeUptoRow : OpenClaim := { program := "ytfnbfconhpppfaa", sum := "110e960eb8a51f6d5bfd2b67549289832ebc253b48bcd6dd5f9c8f35f34abca4", func := "loop.example/g03000/laws.FnExactIsSafe", spec := "fnExactIsSafe", unfollowed := true, recurses := true, apart := false, narrowed := true }
def FnExactIsSafeUptoSaid : Prop := fnExactIsSafeUptoRow.holds Try.pinned (OpenSpec.upto fnExactIsSafeSpec)

/-- 'laws.FnExactFollowPairs', WHERE WHAT IT READS IS OF BULK AT MOST 1048576: true; the input reads as it did. -/
def fnExactFollowPairsUptoRow : OpenClaim := { program := "ytfnbfconhpppfaa", sum := "110e960eb8a51f6d5bfd2b67549289832ebc253b48bcd6dd5f9c8f35f34abca4", func := "loop.example/g03000/laws.FnExactFollowPairs", spec := "fnExactFollowPairs", unfollowed := true, recurses := true, apart := false, narrowed := true }
def FnExactFollowPairsUptoSaid : Prop := fnExactFollowPairsUptoRow.holds Try.pinned (OpenSpec.upto fnExactFollowPairsSpec)

/-- 'laws.FnExactFollows', WHERE WHAT IT READS IS OF BULK AT MOST 1048576: true; the input reads as it did. -/
def fnExactFollowsUptoRow : OpenClaim := { program := "ytfnbfconhpppfaa", sum := "110e960eb8a51f6d5bfd2b67549289832ebc253b48bcd6dd5f9c8f35f34abca4", func := "loop.example/g03000/laws.FnExactFollows", spec := "fnExactFollows", unfollowed := true, recurses := true, apart := false, narrowed := true }
def FnExactFollowsUptoSaid : Prop := fnExactFollowsUptoRow.holds Try.pinned (OpenSpec.upto fnExactFollowsSpec)

/-- 'laws.FnExactPairsOf', WHERE WHAT IT READS IS OF BULK AT MOST 1048576: true; the input reads as it did. -/
def fnExactPairsOfUptoRow : OpenClaim := { program := "ytfnbfconhpppfaa", sum := "110e960eb8a51f6d5bfd2b67549289832ebc253b48bcd6dd5f9c8f35f34abca4", func := "loop.example/g03000/laws.FnExactPairsOf", spec := "fnExactPairsOf", unfollowed := true, recurses := true, apart := false, narrowed := true }
def FnExactPairsOfUptoSaid : Prop := fnExactPairsOfUptoRow.holds Try.pinned (OpenSpec.upto fnExactPairsOfSpec)

end Rows
end Go.Proofs.Ytfnbfconhpppfaa
