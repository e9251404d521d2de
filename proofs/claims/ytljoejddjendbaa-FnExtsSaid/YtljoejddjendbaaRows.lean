/-
  No cell of these rows narrows 'for every input' (looked for: loops, veiled, ifaces, maps, wideKeys, modest, calm, conditions, laid).
  DERIVED. THE GIVEN ROWS OF THIS SEAT. 13 by the template 'for every input the law returns true; each argument reads behind the call as it read before'; 0 by the template 'total and deterministic' (their statements: YtljoejddjendbaaTotals.lean).
  GIVEN WITH THE SEED: the statements are not yours to turn. If you find one false, say at which input.
  Laid BY PROGRAM, IN A SANDBOX (cutbox-rows.mjs): the forced cells as the released guide's own fill.sh prints them over the translation b4062b3e763ad9f3… (all of the seat's roots in one cut). By AI agents, Wed Nov 11 2026. No macro, syntax, notation, axiom, sorry.
-/
import Derived.Test.YtljoejddjendbaaChecked
import GoSem.Claim
import GoSem.ClaimJoined
import GoSem.ClaimMapViews
import Derived.JoinedTies
import Derived.KernelRfl
namespace Go.Proofs.Ytljoejddjendbaa
/- THE CELL 'sum', in the pinned program and in every row, IS THE sha256 OF THE DUMP (.gsa) THAT YtljoejddjendbaaProg.lean LOADS. Nothing in Lean hashes anything: it is a label: what it is worth is what the hold of that sum in a sandbox is worth. -/
noncomputable def Try.pinned : Pinned := { name := "ytljoejddjendbaa", sum := "b4062b3e763ad9f355cb1ccf31328b0859a723b5a1d84a614c0c18188d10e905", checked := Try.checked }
namespace Rows
def none {H : Type} : Left H := { results := [], args := [] }

/-- 'laws.FnExactIsHardened': WHATEVER THE INPUT: true; the input reads as it did. -/
def fnExactIsHardenedSpec : ChangeSpec := { name := "fnExactIsHardened", fn := fun _ => fun
  | [d] => { results := [.lit (.bool true)], args := [d] }
  | _ => none }
def fnExactIsHardenedRow : OpenClaim := { program := "ytljoejddjendbaa", sum := "b4062b3e763ad9f355cb1ccf31328b0859a723b5a1d84a614c0c18188d10e905", func := "loop.example/g03000/laws.FnExactIsHardened", spec := "fnExactIsHardened", unfollowed := true, recurses := true, apart := false }
def FnExactIsHardenedSaid : Prop := fnExactIsHardenedRow.holds Try.pinned (OpenSpec.ofChange fnExactIsHardenedSpec)

/-- ITS FALSE NEIGHBOUR: 'it returns false'. Refute it at one input. -/
def fnExactIsHardenedWrong : ChangeSpec := { name := "fnExactIsHardened", fn := fun _ => fun
  | [d] => { results := [.lit (.bool false)], args := [d] }
  | _ => none }
def FnExactIsHardenedWrongFalsely : Prop := fnExactIsHardenedRow.holds Try.pinned (OpenSpec.ofChange fnExactIsHardenedWrong)

/-- 'laws.FnExactExtOf': WHATEVER THE INPUT: true; the input reads as it did. -/
def fnExactExtOfSpec : ChangeSpec := { name := "fnExactExtOf", fn := fun _ => fun
  | [d1, d2] => { results := [.lit (.bool true)], args := [d1, d2] }
  | _ => none }
def fnExactExtOfRow : OpenClaim := { program := "ytljoejddjendbaa", sum := "b4062b3e763ad9f355cb1ccf31328b0859a723b5a1d84a614c0c18188d10e905", func := "loop.example/g03000/laws.FnExactExtOf", spec := "fnExactExtOf", unfollowed := true, recurses := true, apart := false }
def FnExactExtOfSaid : Prop := fnExactExtOfRow.holds Try.pinned (OpenSpec.ofChange fnExactExtOfSpec)

/-- ITS FALSE NEIGHBOUR: 'it returns false'. Refute it at one input. -/
def fnExactExtOfWrong : ChangeSpec := { name := "fnExactExtOf", fn := fun _ => fun
  | [d1, d2] => { results := [.lit (.bool false)], args := [d1, d2] }
  | _ => none }
def FnExactExtOfWrongFalsely : Prop := fnExactExtOfRow.holds Try.pinned (OpenSpec.ofChange fnExactExtOfWrong)

/-- 'laws.FnExactHasGrease': WHATEVER THE INPUT: true; the input reads as it did. -/
def fnExactHasGreaseSpec : ChangeSpec := { name := "fnExactHasGrease", fn := fun _ => fun
  | [d] => { results := [.lit (.bool true)], args := [d] }
  | _ => none }
def fnExactHasGreaseRow : OpenClaim := { program := "ytljoejddjendbaa", sum := "b4062b3e763ad9f355cb1ccf31328b0859a723b5a1d84a614c0c18188d10e905", func := "loop.example/g03000/laws.FnExactHasGrease", spec := "fnExactHasGrease", unfollowed := true, recurses := true, apart := false }
def FnExactHasGreaseSaid : Prop := fnExactHasGreaseRow.holds Try.pinned (OpenSpec.ofChange fnExactHasGreaseSpec)

/-- ITS FALSE NEIGHBOUR: 'it returns false'. Refute it at one input. -/
def fnExactHasGreaseWrong : ChangeSpec := { name := "fnExactHasGrease", fn := fun _ => fun
  | [d] => { results := [.lit (.bool false)], args := [d] }
  | _ => none }
def FnExactHasGreaseWrongFalsely : Prop := fnExactHasGreaseRow.holds Try.pinned (OpenSpec.ofChange fnExactHasGreaseWrong)

/-- 'laws.FnExactTagsOf': WHATEVER THE INPUT: true; the input reads as it did. -/
def fnExactTagsOfSpec : ChangeSpec := { name := "fnExactTagsOf", fn := fun _ => fun
  | [d] => { results := [.lit (.bool true)], args := [d] }
  | _ => none }
def fnExactTagsOfRow : OpenClaim := { program := "ytljoejddjendbaa", sum := "b4062b3e763ad9f355cb1ccf31328b0859a723b5a1d84a614c0c18188d10e905", func := "loop.example/g03000/laws.FnExactTagsOf", spec := "fnExactTagsOf", apart := false }
def FnExactTagsOfSaid : Prop := fnExactTagsOfRow.holds Try.pinned (OpenSpec.ofChange fnExactTagsOfSpec)

/-- ITS FALSE NEIGHBOUR: 'it returns false'. Refute it at one input. -/
def fnExactTagsOfWrong : ChangeSpec := { name := "fnExactTagsOf", fn := fun _ => fun
  | [d] => { results := [.lit (.bool false)], args := [d] }
  | _ => none }
def FnExactTagsOfWrongFalsely : Prop := fnExactTagsOfRow.holds Try.pinned (OpenSpec.ofChange fnExactTagsOfWrong)

/-- 'laws.FnExactEqualExts': WHATEVER THE INPUT: true; the input reads as it did. -/
def fnExactEqualExtsSpec : ChangeSpec := { name := "fnExactEqualExts", fn := fun _ => fun
  | [d1, d2] => { results := [.lit (.bool true)], args := [d1, d2] }
  | _ => none }
def fnExactEqualExtsRow : OpenClaim := { program := "ytljoejddjendbaa", sum := "b4062b3e763ad9f355cb1ccf31328b0859a723b5a1d84a614c0c18188d10e905", func := "loop.example/g03000/laws.FnExactEqualExts", spec := "fnExactEqualExts", unfollowed := true, recurses := true, apart := false }
def FnExactEqualExtsSaid : Prop := fnExactEqualExtsRow.holds Try.pinned (OpenSpec.ofChange fnExactEqualExtsSpec)

/-- ITS FALSE NEIGHBOUR: 'it returns false'. Refute it at one input. -/
def fnExactEqualExtsWrong : ChangeSpec := { name := "fnExactEqualExts", fn := fun _ => fun
  | [d1, d2] => { results := [.lit (.bool false)], args := [d1, d2] }
  | _ => none }
def FnExactEqualExtsWrongFalsely : Prop := fnExactEqualExtsRow.holds Try.pinned (OpenSpec.ofChange fnExactEqualExtsWrong)

/-- 'laws.FnExactAreExts': WHATEVER THE INPUT: true; the input reads as it did. -/
def fnExactAreExtsSpec : ChangeSpec := { name := "fnExactAreExts", fn := fun _ => fun
  | [d] => { results := [.lit (.bool true)], args := [d] }
  | _ => none }
def fnExactAreExtsRow : OpenClaim := { program := "ytljoejddjendbaa", sum := "b4062b3e763ad9f355cb1ccf31328b0859a723b5a1d84a614c0c18188d10e905", func := "loop.example/g03000/laws.FnExactAreExts", spec := "fnExactAreExts", unfollowed := true, recurses := true, apart := false }
def FnExactAreExtsSaid : Prop := fnExactAreExtsRow.holds Try.pinned (OpenSpec.ofChange fnExactAreExtsSpec)

/-- ITS FALSE NEIGHBOUR: 'it returns false'. Refute it at one input. -/
def fnExactAreExtsWrong : ChangeSpec := { name := "fnExactAreExts", fn := fun _ => fun
  | [d] => { results := [.lit (.bool false)], args := [d] }
  | _ => none }
def FnExactAreExtsWrongFalsely : Prop := fnExactAreExtsRow.holds Try.pinned (OpenSpec.ofChange fnExactAreExtsWrong)

/-- 'laws.FnExactStripGrease': WHATEVER THE INPUT: true; the input reads as it did. -/
def fnExactStripGreaseSpec : ChangeSpec := { name := "fnExactStripGrease", fn := fun _ => fun
  | [d] => { results := [.lit (.bool true)], args := [d] }
  | _ => none }
def fnExactStripGreaseRow : OpenClaim := { program := "ytljoejddjendbaa", sum := "b4062b3e763ad9f355cb1ccf31328b0859a723b5a1d84a614c0c18188d10e905", func := "loop.example/g03000/laws.FnExactStripGrease", spec := "fnExactStripGrease", unfollowed := true, recurses := true, apart := false }
def FnExactStripGreaseSaid : Prop := fnExactStripGreaseRow.holds Try.pinned (OpenSpec.ofChange fnExactStripGreaseSpec)

/-- ITS FALSE NEIGHBOUR: 'it returns false'. Refute it at one input. -/
def fnExactStripGreaseWrong : ChangeSpec := { name := "fnExactStripGrease", fn := fun _ => fun
  | [d] => { results := [.lit (.bool false)], args := [d] }
  | _ => none }
def FnExactStripGreaseWrongFalsely : Prop := fnExactStripGreaseRow.holds Try.pinned (OpenSpec.ofChange fnExactStripGreaseWrong)

/-- 'laws.FnExactKnownOf': WHATEVER THE INPUT: true; the input reads as it did. -/
def fnExactKnownOfSpec : ChangeSpec := { name := "fnExactKnownOf", fn := fun _ => fun
  | [d1, d2] => { results := [.lit (.bool true)], args := [d1, d2] }
  | _ => none }
def fnExactKnownOfRow : OpenClaim := { program := "ytljoejddjendbaa", sum := "b4062b3e763ad9f355cb1ccf31328b0859a723b5a1d84a614c0c18188d10e905", func := "loop.example/g03000/laws.FnExactKnownOf", spec := "fnExactKnownOf", unfollowed := true, recurses := true, apart := false }
def FnExactKnownOfSaid : Prop := fnExactKnownOfRow.holds Try.pinned (OpenSpec.ofChange fnExactKnownOfSpec)

/-- ITS FALSE NEIGHBOUR: 'it returns false'. Refute it at one input. -/
def fnExactKnownOfWrong : ChangeSpec := { name := "fnExactKnownOf", fn := fun _ => fun
  | [d1, d2] => { results := [.lit (.bool false)], args := [d1, d2] }
  | _ => none }
def FnExactKnownOfWrongFalsely : Prop := fnExactKnownOfRow.holds Try.pinned (OpenSpec.ofChange fnExactKnownOfWrong)

/-- 'laws.FnExactDecodeExts': WHATEVER THE INPUT: true; the input reads as it did. -/
def fnExactDecodeExtsSpec : ChangeSpec := { name := "fnExactDecodeExts", fn := fun _ => fun
  | [d] => { results := [.lit (.bool true)], args := [d] }
  | _ => none }
def fnExactDecodeExtsRow : OpenClaim := { program := "ytljoejddjendbaa", sum := "b4062b3e763ad9f355cb1ccf31328b0859a723b5a1d84a614c0c18188d10e905", func := "loop.example/g03000/laws.FnExactDecodeExts", spec := "fnExactDecodeExts", unfollowed := true, recurses := true, apart := false }
def FnExactDecodeExtsSaid : Prop := fnExactDecodeExtsRow.holds Try.pinned (OpenSpec.ofChange fnExactDecodeExtsSpec)

/-- ITS FALSE NEIGHBOUR: 'it returns false'. Refute it at one input. -/
def fnExactDecodeExtsWrong : ChangeSpec := { name := "fnExactDecodeExts", fn := fun _ => fun
  | [d] => { results := [.lit (.bool false)], args := [d] }
  | _ => none }
def FnExactDecodeExtsWrongFalsely : Prop := fnExactDecodeExtsRow.holds Try.pinned (OpenSpec.ofChange fnExactDecodeExtsWrong)

/-- 'laws.FnExactEncodeExts': WHATEVER THE INPUT: true; the input reads as it did. -/
def fnExactEncodeExtsSpec : ChangeSpec := { name := "fnExactEncodeExts", fn := fun _ => fun
  | [d] => { results := [.lit (.bool true)], args := [d] }
  | _ => none }
def fnExactEncodeExtsRow : OpenClaim := { program := "ytljoejddjendbaa", sum := "b4062b3e763ad9f355cb1ccf31328b0859a723b5a1d84a614c0c18188d10e905", func := "loop.example/g03000/laws.FnExactEncodeExts", spec := "fnExactEncodeExts", unfollowed := true, recurses := true, apart := false }
def FnExactEncodeExtsSaid : Prop := fnExactEncodeExtsRow.holds Try.pinned (OpenSpec.ofChange fnExactEncodeExtsSpec)

/-- ITS FALSE NEIGHBOUR: 'it returns false'. Refute it at one input. -/
def fnExactEncodeExtsWrong : ChangeSpec := { name := "fnExactEncodeExts", fn := fun _ => fun
  | [d] => { results := [.lit (.bool false)], args := [d] }
  | _ => none }
def FnExactEncodeExtsWrongFalsely : Prop := fnExactEncodeExtsRow.holds Try.pinned (OpenSpec.ofChange fnExactEncodeExtsWrong)

/-- 'laws.FnExts': WHATEVER THE INPUT: true; the input reads as it did. -/
def fnExtsSpec : ChangeSpec := { name := "fnExts", fn := fun _ => fun
  | [d] => { results := [.lit (.bool true)], args := [d] }
  | _ => none }
def fnExtsRow : OpenClaim := { program := "ytljoejddjendbaa", sum := "b4062b3e763ad9f355cb1ccf31328b0859a723b5a1d84a614c0c18188d10e905", func := "loop.example/g03000/laws.FnExts", spec := "fnExts", unfollowed := true, recurses := true, apart := false }
def FnExtsSaid : Prop := fnExtsRow.holds Try.pinned (OpenSpec.ofChange fnExtsSpec)

/-- ITS FALSE NEIGHBOUR: 'it returns false'. Refute it at one input. -/
def fnExtsWrong : ChangeSpec := { name := "fnExts", fn := fun _ => fun
  | [d] => { results := [.lit (.bool false)], args := [d] }
  | _ => none }
def FnExtsWrongFalsely : Prop := fnExtsRow.holds Try.pinned (OpenSpec.ofChange fnExtsWrong)

/-- 'laws.FnGrease': WHATEVER THE INPUT: true; the input reads as it did. -/
def fnGreaseSpec : ChangeSpec := { name := "fnGrease", fn := fun _ => fun
  | [d] => { results := [.lit (.bool true)], args := [d] }
  | _ => none }
def fnGreaseRow : OpenClaim := { program := "ytljoejddjendbaa", sum := "b4062b3e763ad9f355cb1ccf31328b0859a723b5a1d84a614c0c18188d10e905", func := "loop.example/g03000/laws.FnGrease", spec := "fnGrease", inPlace := ["slices.overlaps[loop.example/g03000/impl.Ext]"], unfollowed := true, recurses := true, apart := false }
def FnGreaseSaid : Prop := fnGreaseRow.holds Try.pinned (OpenSpec.ofChange fnGreaseSpec)

/-- ITS FALSE NEIGHBOUR: 'it returns false'. Refute it at one input. -/
def fnGreaseWrong : ChangeSpec := { name := "fnGrease", fn := fun _ => fun
  | [d] => { results := [.lit (.bool false)], args := [d] }
  | _ => none }
def FnGreaseWrongFalsely : Prop := fnGreaseRow.holds Try.pinned (OpenSpec.ofChange fnGreaseWrong)

/-- 'laws.FnExactAddGrease': WHATEVER THE INPUT: true; the input reads as it did. -/
def fnExactAddGreaseSpec : ChangeSpec := { name := "fnExactAddGrease", fn := fun _ => fun
  | [d1, d2] => { results := [.lit (.bool true)], args := [d1, d2] }
  | _ => none }
def fnExactAddGreaseRow : OpenClaim := { program := "ytljoejddjendbaa", sum := "b4062b3e763ad9f355cb1ccf31328b0859a723b5a1d84a614c0c18188d10e905", func := "loop.example/g03000/laws.FnExactAddGrease", spec := "fnExactAddGrease", inPlace := ["slices.overlaps[loop.example/g03000/impl.Ext]"], unfollowed := true, recurses := true, apart := false }
def FnExactAddGreaseSaid : Prop := fnExactAddGreaseRow.holds Try.pinned (OpenSpec.ofChange fnExactAddGreaseSpec)

/-- ITS FALSE NEIGHBOUR: 'it returns false'. Refute it at one input. -/
def fnExactAddGreaseWrong : ChangeSpec := { name := "fnExactAddGrease", fn := fun _ => fun
  | [d1, d2] => { results := [.lit (.bool false)], args := [d1, d2] }
  | _ => none }
def FnExactAddGreaseWrongFalsely : Prop := fnExactAddGreaseRow.holds Try.pinned (OpenSpec.ofChange fnExactAddGreaseWrong)

/- THE SECOND FORM. 'bulk': how many values and letters a reading holds, each counted each time it is reached (what is shared counts as often as it is met; a slice's spare places count too). A statement '..UptoSaid' is the law's where the arguments, and the package variables that the reading takes, are together of bulk at most 1048576: NARROWER than '..Said'. Prove '..Said' where nothing that the law and all that it calls make is longer than what came in: it says more and counts as full. Else prove '..UptoSaid'. A law counts once. -/
mutual
def uptoBulk {H : Type} : DataW H → Nat
  | .lit (.string bytes) => bytes.length + 1
  | .lit _ => 1
  | .nil => 1
  | .ptr d => uptoBulk d + 1
  | .slice elems spare => uptoBulkAll elems + uptoBulkAll spare + 1
  | .agg parts => uptoBulkAll parts + 1
  | .iface _ d => uptoBulk d + 1
  | .map entries => uptoBulkEntries entries + 1
  | .held _ => 1
def uptoBulkAll {H : Type} : List (DataW H) → Nat
  | [] => 0
  | d :: r => uptoBulk d + uptoBulkAll r
def uptoBulkEntries {H : Type} : List (Lit × DataW H) → Nat
  | [] => 0
  | x :: r => uptoBulkEntry x + uptoBulkEntries r
def uptoBulkEntry {H : Type} : Lit × DataW H → Nat
  | (.string bytes, d) => bytes.length + uptoBulk d + 1
  | (_, d) => uptoBulk d + 1
 end
def uptoSmall : (H : Type) → List (DataW H) → Bool := fun _ ds => decide (uptoBulkAll ds ≤ 1048576)
def OpenSpec.upto (s : _root_.Go.ChangeSpec) : _root_.Go.OpenSpec := { _root_.Go.OpenSpec.ofChange s with cond := some uptoSmall }

/-- 'laws.FnExactIsHardened', WHERE WHAT IT READS IS OF BULK AT MOST 1048576: true; the input reads as it did. -/
def fnExactIsHardenedUptoRow : OpenClaim := { program := "ytljoejddjendbaa", sum := "b4062b3e763ad9f355cb1ccf31328b0859a723b5a1d84a614c0c18188d10e905", func := "loop.example/g03000/laws.FnExactIsHardened", spec := "fnExactIsHardened", unfollowed := true, recurses := true, apart := false, narrowed := true }
def FnExactIsHardenedUptoSaid : Prop := fnExactIsHardenedUptoRow.holds Try.pinned (OpenSpec.upto fnExactIsHardenedSpec)

/-- 'laws.FnExactExtOf', WHERE WHAT IT READS IS OF BULK AT MOST 1048576: true; the input reads as it did. -/
def fnExactExtOfUptoRow : OpenClaim := { program := "ytljoejddjendbaa", sum := "b4062b3e763ad9f355cb1ccf31328b0859a723b5a1d84a614c0c18188d10e905", func := "loop.example/g03000/laws.FnExactExtOf", spec := "fnExactExtOf", unfollowed := true, recurses := true, apart := false, narrowed := true }
def FnExactExtOfUptoSaid : Prop := fnExactExtOfUptoRow.holds Try.pinned (OpenSpec.upto fnExactExtOfSpec)

/-- 'laws.FnExactHasGrease', WHERE WHAT IT READS IS OF BULK AT MOST 1048576: true; the input reads as it did. -/
def fnExactHasGreaseUptoRow : OpenClaim := { program := "ytljoejddjendbaa", sum := "b4062b3e763ad9f355cb1ccf31328b0859a723b5a1d84a614c0c18188d10e905", func := "loop.example/g03000/laws.FnExactHasGrease", spec := "fnExactHasGrease", unfollowed := true, recurses := true, apart := false, narrowed := true }
def FnExactHasGreaseUptoSaid : Prop := fnExactHasGreaseUptoRow.holds Try.pinned (OpenSpec.upto fnExactHasGreaseSpec)

/-- 'laws.FnExactTagsOf', WHERE WHAT IT READS IS OF BULK AT MOST 1048576: true; the input reads as it did. -/
def fnExactTagsOfUptoRow : OpenClaim := { program := "ytljoejddjendbaa", sum := "b4062b3e763ad9f355cb1ccf31328b0859a723b5a1d84a614c0c18188d10e905", func := "loop.example/g03000/laws.FnExactTagsOf", spec := "fnExactTagsOf", apart := false, narrowed := true }
def FnExactTagsOfUptoSaid : Prop := fnExactTagsOfUptoRow.holds Try.pinned (OpenSpec.upto fnExactTagsOfSpec)

/-- 'laws.FnExactEqualExts', WHERE WHAT IT READS IS OF BULK AT MOST 1048576: true; the input reads as it did. -/
def fnExactEqualExtsUptoRow : OpenClaim := { program := "ytljoejddjendbaa", sum := "b4062b3e763ad9f355cb1ccf31328b0859a723b5a1d84a614c0c18188d10e905", func := "loop.example/g03000/laws.FnExactEqualExts", spec := "fnExactEqualExts", unfollowed := true, recurses := true, apart := false, narrowed := true }
def FnExactEqualExtsUptoSaid : Prop := fnExactEqualExtsUptoRow.holds Try.pinned (OpenSpec.upto fnExactEqualExtsSpec)

/-- 'laws.FnExactAreExts', WHERE WHAT IT READS IS OF BULK AT MOST 1048576: true; the input reads as it did. -/
def fnExactAreExtsUptoRow : OpenClaim := { program := "ytljoejddjendbaa", sum := "b4062b3e763ad9f355cb1ccf31328b0859a723b5a1d84a614c0c18188d10e905", func := "loop.example/g03000/laws.FnExactAreExts", spec := "fnExactAreExts", unfollowed := true, recurses := true, apart := false, narrowed := true }
def FnExactAreExtsUptoSaid : Prop := fnExactAreExtsUptoRow.holds Try.pinned (OpenSpec.upto fnExactAreExtsSpec)

/-- 'laws.FnExactStripGrease', WHERE WHAT IT READS IS OF BULK AT MOST 1048576: true; the input reads as it did. -/
def fnExactStripGreaseUptoRow : OpenClaim := { program := "ytljoejddjendbaa", sum := "b4062b3e763ad9f355cb1ccf31328b0859a723b5a1d84a614c0c18188d10e905", func := "loop.example/g03000/laws.FnExactStripGrease", spec := "fnExactStripGrease", unfollowed := true, recurses := true, apart := false, narrowed := true }
def FnExactStripGreaseUptoSaid : Prop := fnExactStripGreaseUptoRow.holds Try.pinned (OpenSpec.upto fnExactStripGreaseSpec)

/-- 'laws.FnExactKnownOf', WHERE WHAT IT READS IS OF BULK AT MOST 1048576: true; the input reads as it did. -/
def fnExactKnownOfUptoRow : OpenClaim := { program := "ytljoejddjendbaa", sum := "b4062b3e763ad9f355cb1ccf31328b0859a723b5a1d84a614c0c18188d10e905", func := "loop.example/g03000/laws.FnExactKnownOf", spec := "fnExactKnownOf", unfollowed := true, recurses := true, apart := false, narrowed := true }
def FnExactKnownOfUptoSaid : Prop := fnExactKnownOfUptoRow.holds Try.pinned (OpenSpec.upto fnExactKnownOfSpec)

/-- 'laws.FnExactDecodeExts', WHERE WHAT IT READS IS OF BULK AT MOST 1048576: true; the input reads as it did. -/
def fnExactDecodeExtsUptoRow : OpenClaim := { program := "ytljoejddjendbaa", sum := "b4062b3e763ad9f355cb1ccf31328b0859a723b5a1d84a614c0c18188d10e905", func := "loop.example/g03000/laws.FnExactDecodeExts", spec := "fnExactDecodeExts", unfollowed := true, recurses := true, apart := false, narrowed := true }
def FnExactDecodeExtsUptoSaid : Prop := fnExactDecodeExtsUptoRow.holds Try.pinned (OpenSpec.upto fnExactDecodeExtsSpec)

/-- 'laws.FnExactEncodeExts', WHERE WHAT IT READS IS OF BULK AT MOST 1048576: true; the input reads as it did. -/
def fnExactEncodeExtsUptoRow : OpenClaim := { program := "ytljoejddjendbaa", sum := "b4062b3e763ad9f355cb1ccf31328b0859a723b5a1d84a614c0c18188d10e905", func := "loop.example/g03000/laws.FnExactEncodeExts", spec := "fnExactEncodeExts", unfollowed := true, recurses := true, apart := false, narrowed := true }
def FnExactEncodeExtsUptoSaid : Prop := fnExactEncodeExtsUptoRow.holds Try.pinned (OpenSpec.upto fnExactEncodeExtsSpec)

/-- 'laws.FnExts', WHERE WHAT IT READS IS OF BULK AT MOST 1048576: true; the input reads as it did. -/
def fnExtsUptoRow : OpenClaim := { program := "ytljoejddjendbaa", sum := "b4062b3e763ad9f355cb1ccf31328b0859a723b5a1d84a614c0c18188d10e905", func := "loop.example/g03000/laws.FnExts", spec := "fnExts", unfollowed := true, recurses := true, apart := false, narrowed := true }
def FnExtsUptoSaid : Prop := fnExtsUptoRow.holds Try.pinned (OpenSpec.upto fnExtsSpec)

/-- 'laws.FnGrease', WHERE WHAT IT READS IS OF BULK AT MOST 1048576: true; the input reads as it did. -/
def fnGreaseUptoRow : OpenClaim := { program := "ytljoejddjendbaa", sum := "b4062b3e763ad9f355cb1ccf31328b0859a723b5a1d84a614c0c18188d10e905", func := "loop.example/g03000/laws.FnGrease", spec := "fnGrease", inPlace := ["slices.overlaps[loop.example/g03000/impl.Ext]"], unfollowed := true, recurses := true, apart := false, narrowed := true }
def FnGreaseUptoSaid : Prop := fnGreaseUptoRow.holds Try.pinned (OpenSpec.upto fnGreaseSpec)

/-- 'laws.FnExactAddGrease', WHERE WHAT IT READS IS OF BULK AT MOST 1048576: true; the input reads as it did. -/
def fnExactAddGreaseUptoRow : OpenClaim := { program := "ytljoejddjendbaa", sum := "b4062b3e763ad9f355cb1ccf31328b0859a723b5a1d84a614c0c18188d10e905", func := "loop.example/g03000/laws.FnExactAddGrease", spec := "fnExactAddGrease", inPlace := ["slices.overlaps[loop.example/g03000/impl.Ext]"], unfollowed := true, recurses := true, apart := false, narrowed := true }
def FnExactAddGreaseUptoSaid : Prop := fnExactAddGreaseUptoRow.holds Try.pinned (OpenSpec.upto fnExactAddGreaseSpec)

end Rows
end Go.Proofs.Ytljoejddjendbaa
