/-
  No cell of these rows narrows 'for every input' (looked for: loops, veiled, ifaces, maps, wideKeys, modest, calm, conditions, laid).
  DERIVED. THE GIVEN ROWS OF THIS SEAT. 4 by the template 'for every input the law returns true; each argument reads behind the call as it read before'; 0 by the template 'total and deterministic' (their statements: YtdajgpnkbinbiaaTotals.lean).
  GIVEN WITH THE SEED: the statements are not yours to turn. If you find one false, say at which input.
  Laid BY PROGRAM, IN A SANDBOX (cutbox-rows.mjs): the forced cells as the released guide's own fill.sh prints them over the translation f9ac62e5a75ee769… (all of the seat's roots in one cut). By AI agents, Wed Nov 11 2026. No macro, syntax, notation, axiom, sorry.
-/
import Derived.Test.YtdajgpnkbinbiaaChecked
import GoSem.Claim
import GoSem.ClaimJoined
import GoSem.ClaimMapViews
import Derived.JoinedTies
import Derived.KernelRfl
namespace Go.Proofs.Ytdajgpnkbinbiaa
/- THE CELL 'sum', in the pinned program and in every row, IS THE sha256 OF THE DUMP (.gsa) THAT YtdajgpnkbinbiaaProg.lean LOADS. Nothing in Lean hashes anything: it is a label: what it is worth is what the hold of that sum in a sandbox is worth. -/
noncomputable def Try.pinned : Pinned := { name := "ytdajgpnkbinbiaa", sum := "f9ac62e5a75ee76949ec572285c26568c136804d818a5d3900d39b9eabca5500", checked := Try.checked }
namespace Rows
def none {H : Type} : Left H := { results := [], args := [] }

/-- 'laws.FnExactAddVersion': WHATEVER THE INPUT: true; the input reads as it did. -/
def fnExactAddVersionSpec : ChangeSpec := { name := "fnExactAddVersion", fn := fun _ => fun
  | [d1, d2] => { results := [.lit (.bool true)], args := [d1, d2] }
  | _ => none }
def fnExactAddVersionRow : OpenClaim := { program := "ytdajgpnkbinbiaa", sum := "f9ac62e5a75ee76949ec572285c26568c136804d818a5d3900d39b9eabca5500", func := "loop.example/g03000/laws.FnExactAddVersion", spec := "fnExactAddVersion", recurses := true, apart := false }
def FnExactAddVersionSaid : Prop := fnExactAddVersionRow.holds Try.pinned (OpenSpec.ofChange fnExactAddVersionSpec)

/-- ITS FALSE NEIGHBOUR: 'it returns false'. Refute it at one input. -/
def fnExactAddVersionWrong : ChangeSpec := { name := "fnExactAddVersion", fn := fun _ => fun
  | [d1, d2] => { results := [.lit (.bool false)], args := [d1, d2] }
  | _ => none }
def FnExactAddVersionWrongFalsely : Prop := fnExactAddVersionRow.holds Try.pinned (OpenSpec.ofChange fnExactAddVersionWrong)

/-- 'laws.FnVersions': WHATEVER THE INPUT: true; the input reads as it did. -/
def fnVersionsSpec : ChangeSpec := { name := "fnVersions", fn := fun _ => fun
  | [d] => { results := [.lit (.bool true)], args := [d] }
  | _ => none }
def fnVersionsRow : OpenClaim := { program := "ytdajgpnkbinbiaa", sum := "f9ac62e5a75ee76949ec572285c26568c136804d818a5d3900d39b9eabca5500", func := "loop.example/g03000/laws.FnVersions", spec := "fnVersions", recurses := true, apart := false }
def FnVersionsSaid : Prop := fnVersionsRow.holds Try.pinned (OpenSpec.ofChange fnVersionsSpec)

/-- ITS FALSE NEIGHBOUR: 'it returns false'. Refute it at one input. -/
def fnVersionsWrong : ChangeSpec := { name := "fnVersions", fn := fun _ => fun
  | [d] => { results := [.lit (.bool false)], args := [d] }
  | _ => none }
def FnVersionsWrongFalsely : Prop := fnVersionsRow.holds Try.pinned (OpenSpec.ofChange fnVersionsWrong)

/-- 'laws.FnExactAssignTag': WHATEVER THE INPUT: true; the input reads as it did. -/
def fnExactAssignTagSpec : ChangeSpec := { name := "fnExactAssignTag", fn := fun _ => fun
  | [d1, d2] => { results := [.lit (.bool true)], args := [d1, d2] }
  | _ => none }
def fnExactAssignTagRow : OpenClaim := { program := "ytdajgpnkbinbiaa", sum := "f9ac62e5a75ee76949ec572285c26568c136804d818a5d3900d39b9eabca5500", func := "loop.example/g03000/laws.FnExactAssignTag", spec := "fnExactAssignTag", unfollowed := true, recurses := true, apart := false }
def FnExactAssignTagSaid : Prop := fnExactAssignTagRow.holds Try.pinned (OpenSpec.ofChange fnExactAssignTagSpec)

/-- ITS FALSE NEIGHBOUR: 'it returns false'. Refute it at one input. -/
def fnExactAssignTagWrong : ChangeSpec := { name := "fnExactAssignTag", fn := fun _ => fun
  | [d1, d2] => { results := [.lit (.bool false)], args := [d1, d2] }
  | _ => none }
def FnExactAssignTagWrongFalsely : Prop := fnExactAssignTagRow.holds Try.pinned (OpenSpec.ofChange fnExactAssignTagWrong)

/-- 'laws.FnRegistry': WHATEVER THE INPUT: true; the input reads as it did. -/
def fnRegistrySpec : ChangeSpec := { name := "fnRegistry", fn := fun _ => fun
  | [d] => { results := [.lit (.bool true)], args := [d] }
  | _ => none }
def fnRegistryRow : OpenClaim := { program := "ytdajgpnkbinbiaa", sum := "f9ac62e5a75ee76949ec572285c26568c136804d818a5d3900d39b9eabca5500", func := "loop.example/g03000/laws.FnRegistry", spec := "fnRegistry", unfollowed := true, recurses := true, apart := false }
def FnRegistrySaid : Prop := fnRegistryRow.holds Try.pinned (OpenSpec.ofChange fnRegistrySpec)

/-- ITS FALSE NEIGHBOUR: 'it returns false'. Refute it at one input. -/
def fnRegistryWrong : ChangeSpec := { name := "fnRegistry", fn := fun _ => fun
  | [d] => { results := [.lit (.bool false)], args := [d] }
  | _ => none }
def FnRegistryWrongFalsely : Prop := fnRegistryRow.holds Try.pinned (OpenSpec.ofChange fnRegistryWrong)

/- THE SECOND FORM. 'bulk': how many values and letters a reading holds, each counted each time it is reached (what is shared counts as often as it is met; a slice's spare places count too). A statement '..UptoSaid' is the law's where the arguments, and the package variables that the reading takes, are together of bulk at most 1048576: NARROWER than '..Said'. Prove '..Said' where nothing that the law and all that it calls make is longer than what came in: it says more and counts as full. Else prove '..UptoSaid'. A law counts once. -/
mutual
def uptoBulk {H : Type} : DataW H → Nat
  | .lit (.string bytes) => bytes.length + 1
  | .lit _ => 1
  | .nil => 1
  | .ptr d => uptoBulk d + 1
  | .slice elems spare => uptoBulkAll elems + uptoBulkAll spare + 1
  | .agg parts => uptoBulkAll parts + 1
  | .iface _ d => uptoBulk d + 1
  | .map entries => uptoBulkEntries entries + 1
  | .held _ => 1
def uptoBulkAll {H : Type} : List (DataW H) → Nat
  | [] => 0
  | d :: r => uptoBulk d + uptoBulkAll r
def uptoBulkEntries {H : Type} : List (Lit × DataW H) → Nat
  | [] => 0
  | x :: r => uptoBulkEntry x + uptoBulkEntries r
def uptoBulkEntry {H : Type} : Lit × DataW H → Nat
  | (.string bytes, d) => bytes.length + uptoBulk d + 1
  | (_, d) => uptoBulk d + 1
 end
def uptoSmall : (H : Type) → List (DataW H) → Bool := fun _ ds => decide (uptoBulkAll ds ≤ 1048576)
def OpenSpec.upto (s : _root_.Go.ChangeSpec) : _root_.Go.OpenSpec := { _root_.Go.OpenSpec.ofChange s with cond := some uptoSmall }

/-- 'laws.FnExactAddVersion', WHERE WHAT IT READS IS OF BULK AT MOST 1048576: true; the input reads as it did. -/
def fnExactAddVersionUptoRow : OpenClaim := { program := "ytdajgpnkbinbiaa", sum := "f9ac62e5a75ee76949ec572285c26568c136804d818a5d3900d39b9eabca5500", func := "loop.example/g03000/laws.FnExactAddVersion", spec := "fnExactAddVersion", recurses := true, apart := false, narrowed := true }
def FnExactAddVersionUptoSaid : Prop := fnExactAddVersionUptoRow.holds Try.pinned (OpenSpec.upto fnExactAddVersionSpec)

/-- 'laws.FnVersions', WHERE WHAT IT READS IS OF BULK AT MOST 1048576: true; the input reads as it did. -/
def fnVersionsUptoRow : OpenClaim := { program := "ytdajgpnkbinbiaa", sum := "f9ac62e5a75ee76949ec572285c26568c136804d818a5d3900d39b9eabca5500", func := "loop.example/g03000/laws.FnVersions", spec := "fnVersions", recurses := true, apart := false, narrowed := true }
def FnVersionsUptoSaid : Prop := fnVersionsUptoRow.holds Try.pinned (OpenSpec.upto fnVersionsSpec)

/-- 'laws.FnExactAssignTag', WHERE WHAT IT READS IS OF BULK AT MOST 1048576: true; the input reads as it did. -/
def fnExactAssignTagUptoRow : OpenClaim := { program := "ytdajgpnkbinbiaa", sum := "f9ac62e5a75ee76949ec572285c26568c136804d818a5d3900d39b9eabca5500", func := "loop.example/g03000/laws.FnExactAssignTag", spec := "fnExactAssignTag", unfollowed := true, recurses := true, apart := false, narrowed := true }
def FnExactAssignTagUptoSaid : Prop := fnExactAssignTagUptoRow.holds Try.pinned (OpenSpec.upto fnExactAssignTagSpec)

/-- 'laws.FnRegistry', WHERE WHAT IT READS IS OF BULK AT MOST 1048576: true; the input reads as it did. -/
def fnRegistryUptoRow : OpenClaim := { program := "ytdajgpnkbinbiaa", sum := "f9ac62e5a75ee76949ec572285c26568c136804d818a5d3900d39b9eabca5500", func := "loop.example/g03000/laws.FnRegistry", spec := "fnRegistry", unfollowed := true, recurses := true, apart := false, narrowed := true }
def FnRegistryUptoSaid : Prop := fnRegistryUptoRow.holds Try.pinned (OpenSpec.upto fnRegistrySpec)

end Rows
end Go.Proofs.Ytdajgpnkbinbiaa
