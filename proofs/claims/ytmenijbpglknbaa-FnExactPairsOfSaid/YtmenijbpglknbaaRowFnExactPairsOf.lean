/- The law FnExactPairsOf holds of the program for every input, each argument reading afterwards as it read before: out of its pure statement and its walk. -/
import Derived.Test.YtmenijbpglknbaaRows
import Derived.Test.YtmenijbpglknbaaPFnExactPairsOfx11
import Derived.Test.YtmenijbpglknbaaPureFnExactPairsOf
import Derived.Test.YtmenijbpglknbaaGr
import Derived.WalkKit
import Derived.ProofKit
import Derived.OpenShut
import Derived.ShutString
import Derived.ChangeOld
import Derived.Below
import Derived.SizedLaws
import Derived.Lib.SmallJoins
import Derived.Deep.Strs
namespace Go.Proofs.Ytmenijbpglknbaa.fnExactPairsOf
open Go.ChangeShapes Go.WideShapes Go.ChangeAt Go.RowKit Go.Deep Go.Joins Go.Proofs.Ytmenijbpglknbaa.Gr Go.Proofs.Ytmenijbpglknbaa.PFnExactPairsOf Go.Proofs.YtmenijbpglknbaaW.PrintWords
open Go.ChangeMaps (open_string shut_string)
set_option linter.unusedVariables false
set_option linter.unusedSimpArgs false
theorem own : ownKnob Try.prog.godebug = none := by kernel_rfl
theorem laidOut : laidOutB Try.prog = true := by kernel_rfl
theorem cells3 : Try.prog.cellsOf 3 = 1 := by kernel_rfl
theorem cells4 : Try.prog.cellsOf 4 = 1 := by kernel_rfl
theorem cells22 : Try.prog.cellsOf 22 = 1 := by kernel_rfl
theorem cells23 : Try.prog.cellsOf 23 = 1 := by kernel_rfl
theorem cells25 : Try.prog.cellsOf 25 = 3 := by kernel_rfl
theorem cells69 : Try.prog.cellsOf 69 = 4 := by kernel_rfl
set_option maxRecDepth 100000 in
theorem opens_k69 {H : Type} {enc : TypeId × Value → H} {w : World} : Opens enc Try.prog w 69 k69 W69 := by
  intro fuel cs x h
  obtain ⟨y0, y1, y2, y3, n, _, hl, h0, h1, h2, h3⟩ := trod_struct4 Try.underlying69 h
  have hl' : cs.length = 4 := by rw [hl]; exact cells69
  obtain ⟨c0, c1, c2, c3, rfl⟩ := len4 hl'
  clear hl hl'
  replace h0 : DataW.trod enc Try.prog w 0 (fun _ => true) true n 3 [c0] = some y0 := by rw [show Try.prog.cellsOf _ = 1 from cells3] at h0; exact h0
  obtain ⟨x0, rfl, w0⟩ := opens_int_cell Try.underlying3 h0
  replace h1 : DataW.trod enc Try.prog w 0 (fun _ => true) true n 4 [c1] = some y1 := by rw [show Try.prog.cellsOf _ = 1 from cells4] at h1; exact h1
  obtain ⟨x1, rfl⟩ := opens_bool_cell Try.underlying4 h1
  replace h2 : DataW.trod enc Try.prog w 0 (fun _ => true) true n 3 [c2] = some y2 := by rw [show Try.prog.cellsOf _ = 1 from cells3] at h2; exact h2
  obtain ⟨x2, rfl, w2⟩ := opens_int_cell Try.underlying3 h2
  replace h3 : DataW.trod enc Try.prog w 0 (fun _ => true) true n 3 [c3] = some y3 := by rw [show Try.prog.cellsOf _ = 1 from cells3] at h3; exact h3
  obtain ⟨x3, rfl, w3⟩ := opens_int_cell Try.underlying3 h3
  exact ⟨⟨x0, x1, x2, x3⟩, k69_mk w ⟨x0, x1, x2, x3⟩, w0, trivial, w2, w3⟩
set_option maxRecDepth 100000 in
theorem lifted (os : Os) (started : os.Started) (H : Type) (enc : TypeId × Value → H) :
    ReturnsInHanded {} Try.checked os 3 .any (Rows.fnExactPairsOfSpec.pre6 enc Try.prog Try.f3 Rows.fnExactPairsOfRow.domain false) (Rows.fnExactPairsOfSpec.post enc Try.prog Try.f3 false true false false) := by
  refine returnsInHanded_of_change_sized (C := Try.checked) own started (by kernel_rfl) Try.func3
    (ChangeSpec.witness6 (enc := enc) (C := Try.checked) false ⟨#[], #[.agg #[.int .i64 0, .slice none 0 0, .slice none 0 0], .agg #[.int .i64 0, .slice none 0 0, .slice none 0 0]], []⟩ 8 (by kernel_rfl) (by kernel_rfl) (by kernel_rfl) (by kernel_rfl)) ?_
  intro W base args ds gs before hval0 hW hcnd hsz0 _
  have hval : ∀ (j : Nat) t v, Try.f3.params[j]? = some t → args[j]? = some v → Value.okWide Try.prog W .any base t v := hval0
  have hW' := hW
  obtain ⟨p, q, hA0, hV, rfl, hfz, hnd⟩ := hW
  have hA : DataW.TrodAll enc Try.prog W 0 (fun _ => true) true Try.f3.params.toList args.toList ds p := hA0
  rw [Try.params3] at hA hval
  obtain ⟨v0, vs0, d0, ds0, p0, q0, hargs, rfl, rfl, h0, r0⟩ := trodAll_cons hA
  obtain ⟨v1, vs1, d1, ds1, p1, q1, rfl, rfl, rfl, h1, r1⟩ := trodAll_cons r0
  obtain ⟨rfl, rfl, rfl⟩ := trodAll_nil r1
  obtain rfl : args = #[v0, v1] := by cases args; simp_all
  obtain ⟨rfl, rfl⟩ := trodVars_none hV
  have k0 := h0
  have lt0 : ∀ x ∈ p0, x.block < W.heap.size := by obtain ⟨m, hm⟩ := k0; exact DataW.trod_lt m _ _ _ hm
  obtain ⟨c0_0, c0_1, c0_2, y0_0, y0_1, y0_2, n0, rfl, rfl, rfl, h0_0, h0_1, h0_2⟩ := open_agg3 Try.underlying25 (by kernel_rfl) cells25 (hval 0 25 v0 rfl rfl) h0
  obtain ⟨a0_0, rfl, w0_0⟩ := opens_int_cell Try.underlying3 h0_0
  obtain ⟨l0_1, A0_1, cap0_1, rfl, hc0_1, hr0_1, hm0_1, hw0_1⟩ := opens_slice_cell (opens_slice Try.underlying22 cells4 (opens_bool Try.underlying4)) h0_1
  obtain ⟨l0_2, A0_2, cap0_2, rfl, hc0_2, hr0_2, hm0_2, hw0_2⟩ := opens_slice_cell (opens_slice Try.underlying23 cells69 opens_k69) h0_2
  have k1 := h1
  have lt1 : ∀ x ∈ p1, x.block < W.heap.size := by obtain ⟨m, hm⟩ := k1; exact DataW.trod_lt m _ _ _ hm
  obtain ⟨c1_0, c1_1, c1_2, y1_0, y1_1, y1_2, n1, rfl, rfl, rfl, h1_0, h1_1, h1_2⟩ := open_agg3 Try.underlying25 (by kernel_rfl) cells25 (hval 1 25 v1 rfl rfl) h1
  obtain ⟨a1_0, rfl, w1_0⟩ := opens_int_cell Try.underlying3 h1_0
  obtain ⟨l1_1, A1_1, cap1_1, rfl, hc1_1, hr1_1, hm1_1, hw1_1⟩ := opens_slice_cell (opens_slice Try.underlying22 cells4 (opens_bool Try.underlying4)) h1_1
  obtain ⟨l1_2, A1_2, cap1_2, rfl, hc1_2, hr1_2, hm1_2, hw1_2⟩ := opens_slice_cell (opens_slice Try.underlying23 cells69 opens_k69) h1_2
  clear hA0 hval0 hsz0
  obtain ⟨k, hp⟩ := Pure.FnExactPairsOf a0_0 l0_1 l0_2 a1_0 l1_1 l1_2 w0_0 hm0_1 hw0_1 hm0_2 hw0_2 w1_0 hm1_1 hw1_1 hm1_2 hw1_2
  refine (laws_FnExactPairsOf.calls (k := k) (r := true) (w := W) (hr0_1 := hr0_1) (hc0_1 := hc0_1) (hr0_2 := hr0_2) (hc0_2 := hc0_2) (hr1_1 := hr1_1) (hc1_1 := hc1_1) (hr1_2 := hr1_2) (hc1_2 := hc1_2) (ht_ := rfl) (h := hp)).mono fun e W' ⟨he, bel0⟩ => ?_
  have bel : Below W.heap.size W W' := bel0
  subst he
  exact ⟨_, rfl, _, _, _, [], _, [], hW', trodAll_mk1 (shut_bool Try.underlying4 _), (trodAll_cons_mk (Below.trod laidOut (by kernel_rfl) (of_decide_eq_true (by kernel_rfl)) k0 bel lt0) (trodAll_cons_mk (Below.trod laidOut (by kernel_rfl) (of_decide_eq_true (by kernel_rfl)) k1 bel lt1) trodAll_mk0)), rfl, bel.frame _, fun h => by cases h⟩
theorem over : Rows.fnExactPairsOfRow.holds Try.pinned (OpenSpec.ofChange Rows.fnExactPairsOfSpec) :=
  OpenClaim.holds_of_wide 3 Try.f3 rfl rfl rfl rfl rfl rfl rfl ⟨rfl, rfl, rfl, rfl, rfl⟩ rfl rfl rfl rfl rfl (by kernel_rfl) Try.func3 (by kernel_rfl)
    (of_decide_eq_true (by kernel_rfl)) (by unfold Func.isWrapper; first | (rw [if_pos (by decide +kernel)]; kernel_rfl) | (rw [if_neg (by decide +kernel)]; exact ⟨rfl, rfl⟩))
    (fun os started H enc _ => lifted os started H enc)
theorem proved : Rows.FnExactPairsOfSaid := over
#print axioms proved
end Go.Proofs.Ytmenijbpglknbaa.fnExactPairsOf
namespace Go.Proofs.Ytmenijbpglknbaa
/-- The row, under a short name, for the claim. -/
theorem fnExactPairsOf_holds : Rows.FnExactPairsOfSaid := fnExactPairsOf.proved
end Go.Proofs.Ytmenijbpglknbaa
