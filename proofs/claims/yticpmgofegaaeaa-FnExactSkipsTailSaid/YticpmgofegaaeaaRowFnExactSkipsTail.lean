/- The law FnExactSkipsTail holds of the program for every input, each argument reading afterwards as it read before: out of its pure statement and its walk. -/
import Derived.Test.YticpmgofegaaeaaRows
import Derived.Test.YticpmgofegaaeaaPFnExactSkipsTailx14
import Derived.Test.YticpmgofegaaeaaPureFnExactSkipsTail
import Derived.Test.YticpmgofegaaeaaGr
import Derived.WalkKit
import Derived.ProofKit
import Derived.OpenShut
import Derived.ShutString
import Derived.ChangeOld
import Derived.Below
import Derived.SizedLaws
import Derived.Lib.SmallJoins
import Derived.Deep.Strs
namespace Go.Proofs.Yticpmgofegaaeaa.fnExactSkipsTail
open Go.ChangeShapes Go.WideShapes Go.ChangeAt Go.RowKit Go.Deep Go.Joins Go.Proofs.Yticpmgofegaaeaa.Gr Go.Proofs.Yticpmgofegaaeaa.PFnExactSkipsTail Go.Proofs.YticpmgofegaaeaaW.PrintWords
open Go.ChangeMaps (open_string shut_string)
set_option linter.unusedVariables false
set_option linter.unusedSimpArgs false
theorem own : ownKnob Try.prog.godebug = none := by kernel_rfl
theorem laidOut : laidOutB Try.prog = true := by kernel_rfl
theorem cells3 : Try.prog.cellsOf 3 = 1 := by kernel_rfl
theorem cells49 : Try.prog.cellsOf 49 = 4 := by kernel_rfl
set_option maxRecDepth 100000 in
theorem opens_k49 {H : Type} {enc : TypeId × Value → H} {w : World} : Opens enc Try.prog w 49 k49 W49 := by
  intro fuel cs x h
  obtain ⟨y0, y1, y2, y3, n, _, hl, h0, h1, h2, h3⟩ := trod_struct4 Try.underlying49 h
  have hl' : cs.length = 4 := by rw [hl]; exact cells49
  obtain ⟨c0, c1, c2, c3, rfl⟩ := len4 hl'
  clear hl hl'
  replace h0 : DataW.trod enc Try.prog w 0 (fun _ => true) true n 3 [c0] = some y0 := by rw [show Try.prog.cellsOf _ = 1 from cells3] at h0; exact h0
  obtain ⟨x0, rfl, w0⟩ := opens_int_cell Try.underlying3 h0
  replace h1 : DataW.trod enc Try.prog w 0 (fun _ => true) true n 3 [c1] = some y1 := by rw [show Try.prog.cellsOf _ = 1 from cells3] at h1; exact h1
  obtain ⟨x1, rfl, w1⟩ := opens_int_cell Try.underlying3 h1
  replace h2 : DataW.trod enc Try.prog w 0 (fun _ => true) true n 3 [c2] = some y2 := by rw [show Try.prog.cellsOf _ = 1 from cells3] at h2; exact h2
  obtain ⟨x2, rfl, w2⟩ := opens_int_cell Try.underlying3 h2
  replace h3 : DataW.trod enc Try.prog w 0 (fun _ => true) true n 3 [c3] = some y3 := by rw [show Try.prog.cellsOf _ = 1 from cells3] at h3; exact h3
  obtain ⟨x3, rfl, w3⟩ := opens_int_cell Try.underlying3 h3
  exact ⟨⟨x0, x1, x2, x3⟩, k49_mk w ⟨x0, x1, x2, x3⟩, w0, w1, w2, w3⟩
set_option maxRecDepth 100000 in
theorem lifted (os : Os) (started : os.Started) (H : Type) (enc : TypeId × Value → H) :
    ReturnsInHanded {} Try.checked os 3 .any (Rows.fnExactSkipsTailSpec.pre6 enc Try.prog Try.f3 Rows.fnExactSkipsTailRow.domain false) (Rows.fnExactSkipsTailSpec.post enc Try.prog Try.f3 false true false false) := by
  refine returnsInHanded_of_change_sized (C := Try.checked) own started (by kernel_rfl) Try.func3
    (ChangeSpec.witness6 (enc := enc) (C := Try.checked) false ⟨#[], #[.slice none 0 0, .slice none 0 0, .int .i64 0], []⟩ 8 (by kernel_rfl) (by kernel_rfl) (by kernel_rfl) (by kernel_rfl)) ?_
  intro W base args ds gs before hval0 hW hcnd hsz0 _
  have hval : ∀ (j : Nat) t v, Try.f3.params[j]? = some t → args[j]? = some v → Value.okWide Try.prog W .any base t v := hval0
  have hW' := hW
  obtain ⟨p, q, hA0, hV, rfl, hfz, hnd⟩ := hW
  have hA : DataW.TrodAll enc Try.prog W 0 (fun _ => true) true Try.f3.params.toList args.toList ds p := hA0
  rw [Try.params3] at hA hval
  obtain ⟨v0, vs0, d0, ds0, p0, q0, hargs, rfl, rfl, h0, r0⟩ := trodAll_cons hA
  obtain ⟨v1, vs1, d1, ds1, p1, q1, rfl, rfl, rfl, h1, r1⟩ := trodAll_cons r0
  obtain ⟨v2, vs2, d2, ds2, p2, q2, rfl, rfl, rfl, h2, r2⟩ := trodAll_cons r1
  obtain ⟨rfl, rfl, rfl⟩ := trodAll_nil r2
  obtain rfl : args = #[v0, v1, v2] := by cases args; simp_all
  obtain ⟨rfl, rfl⟩ := trodVars_none hV
  have k0 := h0
  have lt0 : ∀ x ∈ p0, x.block < W.heap.size := by obtain ⟨m, hm⟩ := k0; exact DataW.trod_lt m _ _ _ hm
  obtain ⟨A0, len0, cap0, rfl⟩ := okWide_slice Try.underlying22 (hval 0 22 v0 rfl rfl)
  obtain ⟨l0, rfl, hc0, hr0, hm0, hw0⟩ := opens_slice_val (opens_slice Try.underlying22 cells49 opens_k49) h0
  have k1 := h1
  have lt1 : ∀ x ∈ p1, x.block < W.heap.size := by obtain ⟨m, hm⟩ := k1; exact DataW.trod_lt m _ _ _ hm
  obtain ⟨A1, len1, cap1, rfl⟩ := okWide_slice Try.underlying22 (hval 1 22 v1 rfl rfl)
  obtain ⟨l1, rfl, hc1, hr1, hm1, hw1⟩ := opens_slice_val (opens_slice Try.underlying22 cells49 opens_k49) h1
  obtain ⟨a2, rfl, rfl, rfl, w2⟩ := open_int Try.underlying3 (hval 2 3 v2 rfl rfl) h2
  clear hA0 hval0 hsz0
  obtain ⟨k, hp⟩ := Pure.FnExactSkipsTail l0 l1 a2 hm0 hw0 hm1 hw1 w2
  refine (laws_FnExactSkipsTail.calls (k := k) (r := true) (w := W) (hr0 := hr0) (hc0 := hc0) (hr1 := hr1) (hc1 := hc1) (h := hp)).mono fun e W' ⟨he, bel0⟩ => ?_
  have bel : Below W.heap.size W W' := bel0
  subst he
  exact ⟨_, rfl, _, _, _, [], _, [], hW', trodAll_mk1 (shut_bool Try.underlying4 _), (trodAll_cons_mk (Below.trod laidOut (by kernel_rfl) (of_decide_eq_true (by kernel_rfl)) k0 bel lt0) (trodAll_cons_mk (Below.trod laidOut (by kernel_rfl) (of_decide_eq_true (by kernel_rfl)) k1 bel lt1) (trodAll_cons_mk (shut_int Try.underlying3 w2) trodAll_mk0))), rfl, bel.frame _, fun h => by cases h⟩
theorem over : Rows.fnExactSkipsTailRow.holds Try.pinned (OpenSpec.ofChange Rows.fnExactSkipsTailSpec) :=
  OpenClaim.holds_of_wide 3 Try.f3 rfl rfl rfl rfl rfl rfl rfl ⟨rfl, rfl, rfl, rfl, rfl⟩ rfl rfl rfl rfl rfl (by kernel_rfl) Try.func3 (by kernel_rfl)
    (of_decide_eq_true (by kernel_rfl)) (by unfold Func.isWrapper; first | (rw [if_pos (by decide +kernel)]; kernel_rfl) | (rw [if_neg (by decide +kernel)]; exact ⟨rfl, rfl⟩))
    (fun os started H enc _ => lifted os started H enc)
theorem proved : Rows.FnExactSkipsTailSaid := over
#print axioms proved
end Go.Proofs.Yticpmgofegaaeaa.fnExactSkipsTail
namespace Go.Proofs.Yticpmgofegaaeaa
/-- The row, under a short name, for the claim. -/
theorem fnExactSkipsTail_holds : Rows.FnExactSkipsTailSaid := fnExactSkipsTail.proved
end Go.Proofs.Yticpmgofegaaeaa
