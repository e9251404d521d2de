/- The law FnExactChainFollows holds of the program for every input, each argument reading afterwards as it read before: out of its pure statement and its walk. -/
import Derived.Test.YtmenijbpglknbaaRows
import Derived.Test.YtmenijbpglknbaaPFnExactChainFollowsx15
import Derived.Test.YtmenijbpglknbaaPureFnExactChainFollows
import Derived.Test.YtmenijbpglknbaaGr
import Derived.WalkKit
import Derived.ProofKit
import Derived.OpenShut
import Derived.ShutString
import Derived.ChangeOld
import Derived.Below
import Derived.SizedLaws
import Derived.Lib.SmallJoins
import Derived.Deep.Strs
namespace Go.Proofs.Ytmenijbpglknbaa.fnExactChainFollows
open Go.ChangeShapes Go.WideShapes Go.ChangeAt Go.RowKit Go.Deep Go.Joins Go.Proofs.Ytmenijbpglknbaa.Gr Go.Proofs.Ytmenijbpglknbaa.PFnExactChainFollows Go.Proofs.YtmenijbpglknbaaW.PrintWords
open Go.ChangeMaps (open_string shut_string)
set_option linter.unusedVariables false
set_option linter.unusedSimpArgs false
theorem own : ownKnob Try.prog.godebug = none := by kernel_rfl
theorem laidOut : laidOutB Try.prog = true := by kernel_rfl
theorem cells3 : Try.prog.cellsOf 3 = 1 := by kernel_rfl
theorem cells4 : Try.prog.cellsOf 4 = 1 := by kernel_rfl
theorem cells22 : Try.prog.cellsOf 22 = 1 := by kernel_rfl
theorem cells23 : Try.prog.cellsOf 23 = 1 := by kernel_rfl
theorem cells25 : Try.prog.cellsOf 25 = 3 := by kernel_rfl
theorem cells69 : Try.prog.cellsOf 69 = 4 := by kernel_rfl
set_option maxRecDepth 100000 in
theorem opens_k69 {H : Type} {enc : TypeId × Value → H} {w : World} : Opens enc Try.prog w 69 k69 W69 := by
  intro fuel cs x h
  obtain ⟨y0, y1, y2, y3, n, _, hl, h0, h1, h2, h3⟩ := trod_struct4 Try.underlying69 h
  have hl' : cs.length = 4 := by rw [hl]; exact cells69
  obtain ⟨c0, c1, c2, c3, rfl⟩ := len4 hl'
  clear hl hl'
  replace h0 : DataW.trod enc Try.prog w 0 (fun _ => true) true n 3 [c0] = some y0 := by rw [show Try.prog.cellsOf _ = 1 from cells3] at h0; exact h0
  obtain ⟨x0, rfl, w0⟩ := opens_int_cell Try.underlying3 h0
  replace h1 : DataW.trod enc Try.prog w 0 (fun _ => true) true n 4 [c1] = some y1 := by rw [show Try.prog.cellsOf _ = 1 from cells4] at h1; exact h1
  obtain ⟨x1, rfl⟩ := opens_bool_cell Try.underlying4 h1
  replace h2 : DataW.trod enc Try.prog w 0 (fun _ => true) true n 3 [c2] = some y2 := by rw [show Try.prog.cellsOf _ = 1 from cells3] at h2; exact h2
  obtain ⟨x2, rfl, w2⟩ := opens_int_cell Try.underlying3 h2
  replace h3 : DataW.trod enc Try.prog w 0 (fun _ => true) true n 3 [c3] = some y3 := by rw [show Try.prog.cellsOf _ = 1 from cells3] at h3; exact h3
  obtain ⟨x3, rfl, w3⟩ := opens_int_cell Try.underlying3 h3
  exact ⟨⟨x0, x1, x2, x3⟩, k69_mk w ⟨x0, x1, x2, x3⟩, w0, trivial, w2, w3⟩
set_option maxRecDepth 100000 in
theorem opens_k25 {H : Type} {enc : TypeId × Value → H} {w : World} : Opens enc Try.prog w 25 k25 W25 := by
  intro fuel cs x h
  obtain ⟨y0, y1, y2, n, _, hl, h0, h1, h2⟩ := trod_struct3 Try.underlying25 h
  have hl' : cs.length = 3 := by rw [hl]; exact cells25
  obtain ⟨c0, c1, c2, rfl⟩ := len3 hl'
  clear hl hl'
  replace h0 : DataW.trod enc Try.prog w 0 (fun _ => true) true n 3 [c0] = some y0 := by rw [show Try.prog.cellsOf _ = 1 from cells3] at h0; exact h0
  obtain ⟨x0, rfl, w0⟩ := opens_int_cell Try.underlying3 h0
  replace h1 : DataW.trod enc Try.prog w 0 (fun _ => true) true n 22 [c1] = some y1 := by rw [show Try.prog.cellsOf _ = 1 from cells22] at h1; exact h1
  obtain ⟨x1, A1, p1, rfl, l1, g1, w1⟩ := opens_slice_cell (opens_slice Try.underlying22 cells4 (opens_bool Try.underlying4)) h1
  replace h2 : DataW.trod enc Try.prog w 0 (fun _ => true) true n 23 [c2] = some y2 := by rw [show Try.prog.cellsOf _ = 1 from cells23] at h2; exact h2
  obtain ⟨x2, A2, p2, rfl, l2, g2, w2⟩ := opens_slice_cell (opens_slice Try.underlying23 cells69 opens_k69) h2
  exact ⟨⟨x0, x1, x2⟩, k25_mk w ⟨x0, x1, x2⟩ l1 g1 l2 g2, w0, w1, w2⟩
set_option maxRecDepth 100000 in
theorem lifted (os : Os) (started : os.Started) (H : Type) (enc : TypeId × Value → H) :
    ReturnsInHanded {} Try.checked os 8 .any (Rows.fnExactChainFollowsSpec.pre6 enc Try.prog Try.f8 Rows.fnExactChainFollowsRow.domain false) (Rows.fnExactChainFollowsSpec.post enc Try.prog Try.f8 false true false false) := by
  refine returnsInHanded_of_change_sized (C := Try.checked) own started (by kernel_rfl) Try.func8
    (ChangeSpec.witness6 (enc := enc) (C := Try.checked) false ⟨#[], #[.slice none 0 0], []⟩ 8 (by kernel_rfl) (by kernel_rfl) (by kernel_rfl) (by kernel_rfl)) ?_
  intro W base args ds gs before hval0 hW hcnd hsz0 _
  have hval : ∀ (j : Nat) t v, Try.f8.params[j]? = some t → args[j]? = some v → Value.okWide Try.prog W .any base t v := hval0
  have hW' := hW
  obtain ⟨p, q, hA0, hV, rfl, hfz, hnd⟩ := hW
  have hA : DataW.TrodAll enc Try.prog W 0 (fun _ => true) true Try.f8.params.toList args.toList ds p := hA0
  rw [Try.params8] at hA hval
  obtain ⟨v0, vs0, d0, ds0, p0, q0, hargs, rfl, rfl, h0, r0⟩ := trodAll_cons hA
  obtain ⟨rfl, rfl, rfl⟩ := trodAll_nil r0
  obtain rfl : args = #[v0] := by cases args; simp_all
  obtain ⟨rfl, rfl⟩ := trodVars_none hV
  have k0 := h0
  have lt0 : ∀ x ∈ p0, x.block < W.heap.size := by obtain ⟨m, hm⟩ := k0; exact DataW.trod_lt m _ _ _ hm
  obtain ⟨A0, len0, cap0, rfl⟩ := okWide_slice Try.underlying42 (hval 0 42 v0 rfl rfl)
  obtain ⟨l0, rfl, hc0, hr0, hm0, hw0⟩ := opens_slice_val (opens_slice Try.underlying42 cells25 opens_k25) h0
  clear hA0 hval0 hsz0
  obtain ⟨k, hp⟩ := Pure.FnExactChainFollows l0 hm0 hw0
  refine (laws_FnExactChainFollows.calls (k := k) (r := true) (w := W) (hr0 := hr0) (hc0 := hc0) (ht_ := rfl) (h := hp)).mono fun e W' ⟨he, bel0⟩ => ?_
  have bel : Below W.heap.size W W' := bel0
  subst he
  exact ⟨_, rfl, _, _, _, [], _, [], hW', trodAll_mk1 (shut_bool Try.underlying4 _), (trodAll_cons_mk (Below.trod laidOut (by kernel_rfl) (of_decide_eq_true (by kernel_rfl)) k0 bel lt0) trodAll_mk0), rfl, bel.frame _, fun h => by cases h⟩
theorem over : Rows.fnExactChainFollowsRow.holds Try.pinned (OpenSpec.ofChange Rows.fnExactChainFollowsSpec) :=
  OpenClaim.holds_of_wide 8 Try.f8 rfl rfl rfl rfl rfl rfl rfl ⟨rfl, rfl, rfl, rfl, rfl⟩ rfl rfl rfl rfl rfl (by kernel_rfl) Try.func8 (by kernel_rfl)
    (of_decide_eq_true (by kernel_rfl)) (by unfold Func.isWrapper; first | (rw [if_pos (by decide +kernel)]; kernel_rfl) | (rw [if_neg (by decide +kernel)]; exact ⟨rfl, rfl⟩))
    (fun os started H enc _ => lifted os started H enc)
theorem proved : Rows.FnExactChainFollowsSaid := over
#print axioms proved
end Go.Proofs.Ytmenijbpglknbaa.fnExactChainFollows
namespace Go.Proofs.Ytmenijbpglknbaa
/-- The row, under a short name, for the claim. -/
theorem fnExactChainFollows_holds : Rows.FnExactChainFollowsSaid := fnExactChainFollows.proved
end Go.Proofs.Ytmenijbpglknbaa
