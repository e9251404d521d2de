/- The law FnExactAddGrease holds of the program for every input, each argument reading afterwards as it read before: out of its pure statement and its walk. -/
import Derived.Test.YtbahcefcoplmpaaRows
import Derived.Test.YtbahcefcoplmpaaPFnExactAddGreasex8
import Derived.Test.YtbahcefcoplmpaaPureFnExactAddGrease
import Derived.Test.YtbahcefcoplmpaaGr
import Derived.WalkKit
import Derived.ProofKit
import Derived.OpenShut
import Derived.ShutString
import Derived.ChangeOld
import Derived.Below
import Derived.SizedLaws
import Derived.Lib.SmallJoins
import Derived.Deep.Strs
namespace Go.Proofs.Ytbahcefcoplmpaa.fnExactAddGrease
open Go.ChangeShapes Go.WideShapes Go.ChangeAt Go.RowKit Go.Deep Go.Joins Go.Proofs.Ytbahcefcoplmpaa.Gr Go.Proofs.Ytbahcefcoplmpaa.PFnExactAddGrease Go.Proofs.YtbahcefcoplmpaaW.PrintWords
open Go.ChangeMaps (open_string shut_string)
set_option linter.unusedVariables false
set_option linter.unusedSimpArgs false
theorem own : ownKnob Try.prog.godebug = none := by kernel_rfl
theorem laidOut : laidOutB Try.prog = true := by kernel_rfl
theorem cells3 : Try.prog.cellsOf 3 = 1 := by kernel_rfl
theorem cells38 : Try.prog.cellsOf 38 = 1 := by kernel_rfl
theorem cells45 : Try.prog.cellsOf 45 = 2 := by kernel_rfl
set_option maxRecDepth 100000 in
theorem opens_k45 {H : Type} {enc : TypeId × Value → H} {w : World} : Opens enc Try.prog w 45 k45 W45 := by
  intro fuel cs x h
  obtain ⟨y0, y1, n, _, hl, h0, h1⟩ := trod_struct2 Try.underlying45 h
  have hl' : cs.length = 2 := by rw [hl]; exact cells45
  obtain ⟨c0, c1, rfl⟩ := len2 hl'
  clear hl hl'
  replace h0 : DataW.trod enc Try.prog w 0 (fun _ => true) true n 3 [c0] = some y0 := by rw [show Try.prog.cellsOf _ = 1 from cells3] at h0; exact h0
  obtain ⟨x0, rfl, w0⟩ := opens_int_cell Try.underlying3 h0
  replace h1 : DataW.trod enc Try.prog w 0 (fun _ => true) true n 38 [c1] = some y1 := by rw [show Try.prog.cellsOf _ = 1 from cells38] at h1; exact h1
  obtain ⟨x1, A1, p1, rfl, l1, g1, w1⟩ := opens_slice_cell (opens_slice Try.underlying38 cells3 (opens_int Try.underlying3)) h1
  exact ⟨⟨x0, x1⟩, k45_mk w ⟨x0, x1⟩ l1 g1, w0, w1⟩
set_option maxRecDepth 100000 in
theorem lifted (os : Os) (started : os.Started) (H : Type) (enc : TypeId × Value → H) :
    ReturnsInHanded {} Try.checked os 3 .any (Rows.fnExactAddGreaseSpec.pre6 enc Try.prog Try.f3 Rows.fnExactAddGreaseRow.domain false) (Rows.fnExactAddGreaseSpec.post enc Try.prog Try.f3 false true false false) := by
  refine returnsInHanded_of_change_sized (C := Try.checked) own started (by kernel_rfl) Try.func3
    (ChangeSpec.witness6 (enc := enc) (C := Try.checked) false ⟨#[], #[.slice none 0 0, .int .i64 0], []⟩ 8 (by kernel_rfl) (by kernel_rfl) (by kernel_rfl) (by kernel_rfl)) ?_
  intro W base args ds gs before hval0 hW hcnd hsz0 _
  have hval : ∀ (j : Nat) t v, Try.f3.params[j]? = some t → args[j]? = some v → Value.okWide Try.prog W .any base t v := hval0
  have hW' := hW
  obtain ⟨p, q, hA0, hV, rfl, hfz, hnd⟩ := hW
  have hA : DataW.TrodAll enc Try.prog W 0 (fun _ => true) true Try.f3.params.toList args.toList ds p := hA0
  rw [Try.params3] at hA hval
  obtain ⟨v0, vs0, d0, ds0, p0, q0, hargs, rfl, rfl, h0, r0⟩ := trodAll_cons hA
  obtain ⟨v1, vs1, d1, ds1, p1, q1, rfl, rfl, rfl, h1, r1⟩ := trodAll_cons r0
  obtain ⟨rfl, rfl, rfl⟩ := trodAll_nil r1
  obtain rfl : args = #[v0, v1] := by cases args; simp_all
  obtain ⟨rfl, rfl⟩ := trodVars_none hV
  have k0 := h0
  have lt0 : ∀ x ∈ p0, x.block < W.heap.size := by obtain ⟨m, hm⟩ := k0; exact DataW.trod_lt m _ _ _ hm
  obtain ⟨A0, len0, cap0, rfl⟩ := okWide_slice Try.underlying22 (hval 0 22 v0 rfl rfl)
  obtain ⟨l0, rfl, hc0, hr0, hm0, hw0⟩ := opens_slice_val (opens_slice Try.underlying22 cells45 opens_k45) h0
  obtain ⟨a1, rfl, rfl, rfl, w1⟩ := open_int Try.underlying3 (hval 1 3 v1 rfl rfl) h1
  clear hA0 hval0 hsz0
  obtain ⟨k, hp⟩ := Pure.FnExactAddGrease l0 a1 hm0 hw0 w1
  refine (laws_FnExactAddGrease.calls (k := k) (r := true) (w := W) (hr0 := hr0) (hc0 := hc0) (ht_ := rfl) (h := hp)).mono fun e W' ⟨he, bel0⟩ => ?_
  have bel : Below W.heap.size W W' := bel0
  subst he
  exact ⟨_, rfl, _, _, _, [], _, [], hW', trodAll_mk1 (shut_bool Try.underlying4 _), (trodAll_cons_mk (Below.trod laidOut (by kernel_rfl) (of_decide_eq_true (by kernel_rfl)) k0 bel lt0) (trodAll_cons_mk (shut_int Try.underlying3 w1) trodAll_mk0)), rfl, bel.frame _, fun h => by cases h⟩
theorem over : Rows.fnExactAddGreaseRow.holds Try.pinned (OpenSpec.ofChange Rows.fnExactAddGreaseSpec) :=
  OpenClaim.holds_of_wide 3 Try.f3 rfl rfl rfl rfl rfl rfl rfl ⟨rfl, rfl, rfl, rfl, rfl⟩ rfl rfl rfl rfl rfl (by kernel_rfl) Try.func3 (by kernel_rfl)
    (of_decide_eq_true (by kernel_rfl)) (by unfold Func.isWrapper; first | (rw [if_pos (by decide +kernel)]; kernel_rfl) | (rw [if_neg (by decide +kernel)]; exact ⟨rfl, rfl⟩))
    (fun os started H enc _ => lifted os started H enc)
theorem proved : Rows.FnExactAddGreaseSaid := over
#print axioms proved
end Go.Proofs.Ytbahcefcoplmpaa.fnExactAddGrease
namespace Go.Proofs.Ytbahcefcoplmpaa
/-- The row, under a short name, for the claim. -/
theorem fnExactAddGrease_holds : Rows.FnExactAddGreaseSaid := fnExactAddGrease.proved
end Go.Proofs.Ytbahcefcoplmpaa
