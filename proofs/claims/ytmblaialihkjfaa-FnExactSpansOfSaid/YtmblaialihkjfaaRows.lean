/-
  No cell of these rows narrows 'for every input' (looked for: loops, veiled, ifaces, maps, wideKeys, modest, calm, conditions, laid).
  DERIVED. THE GIVEN ROWS OF THIS SEAT. 7 by the template 'for every input the law returns true; each argument reads behind the call as it read before'; 0 by the template 'total and deterministic' (their statements: YtmblaialihkjfaaTotals.lean).
  GIVEN WITH THE SEED: the statements are not yours to turn. If you find one false, say at which input.
  Laid BY PROGRAM, IN A SANDBOX (cutbox-rows.mjs): the forced cells as the released guide's own fill.sh prints them over the translation e4253d1d841be2ff… (all of the seat's roots in one cut). By AI agents, Wed Nov 11 2026. No macro, syntax, notation, axiom, sorry.
-/
import Derived.Test.YtmblaialihkjfaaChecked
import GoSem.Claim
import GoSem.ClaimJoined
import GoSem.ClaimMapViews
import Derived.JoinedTies
import Derived.KernelRfl
namespace Go.Proofs.Ytmblaialihkjfaa
/- THE CELL 'sum', in the pinned program and in every row, IS THE sha256 OF THE DUMP (.gsa) THAT YtmblaialihkjfaaProg.lean LOADS. Nothing in Lean hashes anything: it is a label: what it is worth is what the hold of that sum in a sandbox is worth. -/
noncomputable def Try.pinned : Pinned := { name := "ytmblaialihkjfaa", sum := "e4253d1d841be2ffa98c6c0d72c568a17996d5f986193e192e2f595c5b0327c1", checked := Try.checked }
namespace Rows
def none {H : Type} : Left H := { results := [], args := [] }

/-- 'laws.FnExactAreVersions': WHATEVER THE INPUT: true; the input reads as it did. -/
def fnExactAreVersionsSpec : ChangeSpec := { name := "fnExactAreVersions", fn := fun _ => fun
  | [d] => { results := [.lit (.bool true)], args := [d] }
  | _ => none }
def fnExactAreVersionsRow : OpenClaim := { program := "ytmblaialihkjfaa", sum := "e4253d1d841be2ffa98c6c0d72c568a17996d5f986193e192e2f595c5b0327c1", func := "loop.example/g03000/laws.FnExactAreVersions", spec := "fnExactAreVersions", apart := false }
def FnExactAreVersionsSaid : Prop := fnExactAreVersionsRow.holds Try.pinned (OpenSpec.ofChange fnExactAreVersionsSpec)

/-- ITS FALSE NEIGHBOUR: 'it returns false'. Refute it at one input. -/
def fnExactAreVersionsWrong : ChangeSpec := { name := "fnExactAreVersions", fn := fun _ => fun
  | [d] => { results := [.lit (.bool false)], args := [d] }
  | _ => none }
def FnExactAreVersionsWrongFalsely : Prop := fnExactAreVersionsRow.holds Try.pinned (OpenSpec.ofChange fnExactAreVersionsWrong)

/-- 'laws.FnExactSpansOf': WHATEVER THE INPUT: true; the input reads as it did. -/
def fnExactSpansOfSpec : ChangeSpec := { name := "fnExactSpansOf", fn := fun _ => fun
  | [d] => { results := [.lit (.bool true)], args := [d] }
  | _ => none }
def fnExactSpansOfRow : OpenClaim := { program := "ytmblaialihkjfaa", sum := "e4253d1d841be2ffa98c6c0d72c568a17996d5f986193e192e2f595c5b0327c1", func := "loop.example/g03000/laws.FnExactSpansOf", spec := "fnExactSpansOf", apart := false }
def FnExactSpansOfSaid : Prop := fnExactSpansOfRow.holds Try.pinned (OpenSpec.ofChange fnExactSpansOfSpec)

/-- ITS FALSE NEIGHBOUR: 'it returns false'. Refute it at one input. -/
def fnExactSpansOfWrong : ChangeSpec := { name := "fnExactSpansOf", fn := fun _ => fun
  | [d] => { results := [.lit (.bool false)], args := [d] }
  | _ => none }
def FnExactSpansOfWrongFalsely : Prop := fnExactSpansOfRow.holds Try.pinned (OpenSpec.ofChange fnExactSpansOfWrong)

/-- 'laws.FnExactCommonOf': WHATEVER THE INPUT: true; the input reads as it did. -/
def fnExactCommonOfSpec : ChangeSpec := { name := "fnExactCommonOf", fn := fun _ => fun
  | [d1, d2] => { results := [.lit (.bool true)], args := [d1, d2] }
  | _ => none }
def fnExactCommonOfRow : OpenClaim := { program := "ytmblaialihkjfaa", sum := "e4253d1d841be2ffa98c6c0d72c568a17996d5f986193e192e2f595c5b0327c1", func := "loop.example/g03000/laws.FnExactCommonOf", spec := "fnExactCommonOf", apart := false }
def FnExactCommonOfSaid : Prop := fnExactCommonOfRow.holds Try.pinned (OpenSpec.ofChange fnExactCommonOfSpec)

/-- ITS FALSE NEIGHBOUR: 'it returns false'. Refute it at one input. -/
def fnExactCommonOfWrong : ChangeSpec := { name := "fnExactCommonOf", fn := fun _ => fun
  | [d1, d2] => { results := [.lit (.bool false)], args := [d1, d2] }
  | _ => none }
def FnExactCommonOfWrongFalsely : Prop := fnExactCommonOfRow.holds Try.pinned (OpenSpec.ofChange fnExactCommonOfWrong)

/-- 'laws.FnExactBestCommon': WHATEVER THE INPUT: true; the input reads as it did. -/
def fnExactBestCommonSpec : ChangeSpec := { name := "fnExactBestCommon", fn := fun _ => fun
  | [d1, d2] => { results := [.lit (.bool true)], args := [d1, d2] }
  | _ => none }
def fnExactBestCommonRow : OpenClaim := { program := "ytmblaialihkjfaa", sum := "e4253d1d841be2ffa98c6c0d72c568a17996d5f986193e192e2f595c5b0327c1", func := "loop.example/g03000/laws.FnExactBestCommon", spec := "fnExactBestCommon", apart := false }
def FnExactBestCommonSaid : Prop := fnExactBestCommonRow.holds Try.pinned (OpenSpec.ofChange fnExactBestCommonSpec)

/-- ITS FALSE NEIGHBOUR: 'it returns false'. Refute it at one input. -/
def fnExactBestCommonWrong : ChangeSpec := { name := "fnExactBestCommon", fn := fun _ => fun
  | [d1, d2] => { results := [.lit (.bool false)], args := [d1, d2] }
  | _ => none }
def FnExactBestCommonWrongFalsely : Prop := fnExactBestCommonRow.holds Try.pinned (OpenSpec.ofChange fnExactBestCommonWrong)

/-- 'laws.FnExactDropVersion': WHATEVER THE INPUT: true; the input reads as it did. -/
def fnExactDropVersionSpec : ChangeSpec := { name := "fnExactDropVersion", fn := fun _ => fun
  | [d1, d2] => { results := [.lit (.bool true)], args := [d1, d2] }
  | _ => none }
def fnExactDropVersionRow : OpenClaim := { program := "ytmblaialihkjfaa", sum := "e4253d1d841be2ffa98c6c0d72c568a17996d5f986193e192e2f595c5b0327c1", func := "loop.example/g03000/laws.FnExactDropVersion", spec := "fnExactDropVersion", apart := false }
def FnExactDropVersionSaid : Prop := fnExactDropVersionRow.holds Try.pinned (OpenSpec.ofChange fnExactDropVersionSpec)

/-- ITS FALSE NEIGHBOUR: 'it returns false'. Refute it at one input. -/
def fnExactDropVersionWrong : ChangeSpec := { name := "fnExactDropVersion", fn := fun _ => fun
  | [d1, d2] => { results := [.lit (.bool false)], args := [d1, d2] }
  | _ => none }
def FnExactDropVersionWrongFalsely : Prop := fnExactDropVersionRow.holds Try.pinned (OpenSpec.ofChange fnExactDropVersionWrong)

/-- 'laws.FnExactAddVersion': WHATEVER THE INPUT: true; the input reads as it did. -/
def fnExactAddVersionSpec : ChangeSpec := { name := "fnExactAddVersion", fn := fun _ => fun
  | [d1, d2] => { results := [.lit (.bool true)], args := [d1, d2] }
  | _ => none }
def fnExactAddVersionRow : OpenClaim := { program := "ytmblaialihkjfaa", sum := "e4253d1d841be2ffa98c6c0d72c568a17996d5f986193e192e2f595c5b0327c1", func := "loop.example/g03000/laws.FnExactAddVersion", spec := "fnExactAddVersion", recurses := true, apart := false }
def FnExactAddVersionSaid : Prop := fnExactAddVersionRow.holds Try.pinned (OpenSpec.ofChange fnExactAddVersionSpec)

/-- ITS FALSE NEIGHBOUR: 'it returns false'. Refute it at one input. -/
def fnExactAddVersionWrong : ChangeSpec := { name := "fnExactAddVersion", fn := fun _ => fun
  | [d1, d2] => { results := [.lit (.bool false)], args := [d1, d2] }
  | _ => none }
def FnExactAddVersionWrongFalsely : Prop := fnExactAddVersionRow.holds Try.pinned (OpenSpec.ofChange fnExactAddVersionWrong)

/-- 'laws.FnVersions': WHATEVER THE INPUT: true; the input reads as it did. -/
def fnVersionsSpec : ChangeSpec := { name := "fnVersions", fn := fun _ => fun
  | [d] => { results := [.lit (.bool true)], args := [d] }
  | _ => none }
def fnVersionsRow : OpenClaim := { program := "ytmblaialihkjfaa", sum := "e4253d1d841be2ffa98c6c0d72c568a17996d5f986193e192e2f595c5b0327c1", func := "loop.example/g03000/laws.FnVersions", spec := "fnVersions", recurses := true, apart := false }
def FnVersionsSaid : Prop := fnVersionsRow.holds Try.pinned (OpenSpec.ofChange fnVersionsSpec)

/-- ITS FALSE NEIGHBOUR: 'it returns false'. Refute it at one input. -/
def fnVersionsWrong : ChangeSpec := { name := "fnVersions", fn := fun _ => fun
  | [d] => { results := [.lit (.bool false)], args := [d] }
  | _ => none }
def FnVersionsWrongFalsely : Prop := fnVersionsRow.holds Try.pinned (OpenSpec.ofChange fnVersionsWrong)

/- THE SECOND FORM. 'bulk': how many values and letters a reading holds, each counted each time it is reached (what is shared counts as often as it is met; a slice's spare places count too). A statement '..UptoSaid' is the law's where the arguments, and the package variables that the reading takes, are together of bulk at most 1048576: NARROWER than '..Said'. Prove '..Said' where nothing that the law and all that it calls make is longer than what came in: it says more and counts as full. Else prove '..UptoSaid'. A law counts once. -/
mutual
def uptoBulk {H : Type} : DataW H → Nat
  | .lit (.string bytes) => bytes.length + 1
  | .lit _ => 1
  | .nil => 1
  | .ptr d => uptoBulk d + 1
  | .slice elems spare => uptoBulkAll elems + uptoBulkAll spare + 1
  | .agg parts => uptoBulkAll parts + 1
  | .iface _ d => uptoBulk d + 1
  | .map entries => uptoBulkEntries entries + 1
  | .held _ => 1
def uptoBulkAll {H : Type} : List (DataW H) → Nat
  | [] => 0
  | d :: r => uptoBulk d + uptoBulkAll r
def uptoBulkEntries {H : Type} : List (Lit × DataW H) → Nat
  | [] => 0
  | x :: r => uptoBulkEntry x + uptoBulkEntries r
def uptoBulkEntry {H : Type} : Lit × DataW H → Nat
  | (.string bytes, d) => bytes.length + uptoBulk d + 1
  | (_, d) => uptoBulk d + 1
 end
def uptoSmall : (H : Type) → List (DataW H) → Bool := fun _ ds => decide (uptoBulkAll ds ≤ 1048576)
def OpenSpec.upto (s : _root_.Go.ChangeSpec) : _root_.Go.OpenSpec := { _root_.Go.OpenSpec.ofChange s with cond := some uptoSmall }

/-- 'laws.FnExactAreVersions', WHERE WHAT IT READS IS OF BULK AT MOST 1048576: true; the input reads as it did. -/
def fnExactAreVersionsUptoRow : OpenClaim := { program := "ytmblaialihkjfaa", sum := "e4253d1d841be2ffa98c6c0d72c568a17996d5f986193e192e2f595c5b0327c1", func := "loop.example/g03000/laws.FnExactAreVersions", spec := "fnExactAreVersions", apart := false, narrowed := true }
def FnExactAreVersionsUptoSaid : Prop := fnExactAreVersionsUptoRow.holds Try.pinned (OpenSpec.upto fnExactAreVersionsSpec)

/-- 'laws.FnExactSpansOf', WHERE WHAT IT READS IS OF BULK AT MOST 1048576: true; the input reads as it did. -/
def fnExactSpansOfUptoRow : OpenClaim := { program := "ytmblaialihkjfaa", sum := "e4253d1d841be2ffa98c6c0d72c568a17996d5f986193e192e2f595c5b0327c1", func := "loop.example/g03000/laws.FnExactSpansOf", spec := "fnExactSpansOf", apart := false, narrowed := true }
def FnExactSpansOfUptoSaid : Prop := fnExactSpansOfUptoRow.holds Try.pinned (OpenSpec.upto fnExactSpansOfSpec)

/-- 'laws.FnExactCommonOf', WHERE WHAT IT READS IS OF BULK AT MOST 1048576: true; the input reads as it did. -/
def fnExactCommonOfUptoRow : OpenClaim := { program := "ytmblaialihkjfaa", sum := "e4253d1d841be2ffa98c6c0d72c568a17996d5f986193e192e2f595c5b0327c1", func := "loop.example/g03000/laws.FnExactCommonOf", spec := "fnExactCommonOf", apart := false, narrowed := true }
def FnExactCommonOfUptoSaid : Prop := fnExactCommonOfUptoRow.holds Try.pinned (OpenSpec.upto fnExactCommonOfSpec)

/-- 'laws.FnExactBestCommon', WHERE WHAT IT READS IS OF BULK AT MOST 1048576: true; the input reads as it did. -/
def fnExactBestCommonUptoRow : OpenClaim := { program := "ytmblaialihkjfaa", sum := "e4253d1d841be2ffa98c6c0d72c568a17996d5f986193e192e2f595c5b0327c1", func := "loop.example/g03000/laws.FnExactBestCommon", spec := "fnExactBestCommon", apart := false, narrowed := true }
def FnExactBestCommonUptoSaid : Prop := fnExactBestCommonUptoRow.holds Try.pinned (OpenSpec.upto fnExactBestCommonSpec)

/-- 'laws.FnExactDropVersion', WHERE WHAT IT READS IS OF BULK AT MOST 1048576: true; the input reads as it did. -/
def fnExactDropVersionUptoRow : OpenClaim := { program := "ytmblaialihkjfaa", sum := "e4253d1d841be2ffa98c6c0d72c568a17996d5f986193e192e2f595c5b0327c1", func := "loop.example/g03000/laws.FnExactDropVersion", spec := "fnExactDropVersion", apart := false, narrowed := true }
def FnExactDropVersionUptoSaid : Prop := fnExactDropVersionUptoRow.holds Try.pinned (OpenSpec.upto fnExactDropVersionSpec)

/-- 'laws.FnExactAddVersion', WHERE WHAT IT READS IS OF BULK AT MOST 1048576: true; the input reads as it did. -/
def fnExactAddVersionUptoRow : OpenClaim := { program := "ytmblaialihkjfaa", sum := "e4253d1d841be2ffa98c6c0d72c568a17996d5f986193e192e2f595c5b0327c1", func := "loop.example/g03000/laws.FnExactAddVersion", spec := "fnExactAddVersion", recurses := true, apart := false, narrowed := true }
def FnExactAddVersionUptoSaid : Prop := fnExactAddVersionUptoRow.holds Try.pinned (OpenSpec.upto fnExactAddVersionSpec)

/-- 'laws.FnVersions', WHERE WHAT IT READS IS OF BULK AT MOST 1048576: true; the input reads as it did. -/
def fnVersionsUptoRow : OpenClaim := { program := "ytmblaialihkjfaa", sum := "e4253d1d841be2ffa98c6c0d72c568a17996d5f986193e192e2f595c5b0327c1", func := "loop.example/g03000/laws.FnVersions", spec := "fnVersions", recurses := true, apart := false, narrowed := true }
def FnVersionsUptoSaid : Prop := fnVersionsUptoRow.holds Try.pinned (OpenSpec.upto fnVersionsSpec)

end Rows
end Go.Proofs.Ytmblaialihkjfaa
