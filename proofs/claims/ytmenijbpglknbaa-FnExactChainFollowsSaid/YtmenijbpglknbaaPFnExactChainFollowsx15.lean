-- WRITTEN by pp.py, this session's own wrapper around the print; not trusted: Lean checks it
import Derived.Test.YtmenijbpglknbaaPFnExactChainFollowsx0
import Derived.Test.YtmenijbpglknbaaPFnExactChainFollowsx1
import Derived.Test.YtmenijbpglknbaaPFnExactChainFollowsx7
import Derived.Test.YtmenijbpglknbaaPFnExactChainFollowsx8
import Derived.Test.YtmenijbpglknbaaPFnExactChainFollowsx13
import Derived.Test.YtmenijbpglknbaaPFnExactChainFollowsx14
namespace Go.Proofs.Ytmenijbpglknbaa.PFnExactChainFollows
open Go.RowKit Go.Proofs.Ytmenijbpglknbaa.Hw Go.Proofs.YtmenijbpglknbaaW.PrintWords Go.Proofs.YtmenijbpglknbaaW.PrintLast Go.Proofs.YtmenijbpglknbaaW.PrintMore
attribute [local go_sem] max2_int min2_int max_two min_two max_three min_three max_four min_four   -- for this text's walks alone
set_option linter.unusedVariables false
set_option linter.unusedSimpArgs false
set_option linter.unusedSectionVars false

/-! ### laws_FnExactChainFollows: function 8 -/
def laws_FnExactChainFollows.f (k : Nat) (l0 : List (S25)) : Option (Bool) := (laws_szMachineS.f k l0 1048576).bind fun t422 => (if t422 < 0 then (some true) else ((laws_toMachineS.f k l0).bind fun t423 => ((spec_ChainFollows.f k t423).bind fun t426 => ((laws_toMachineS.f k l0).bind fun t427 => ((impl_ChainFollows.f k t427).bind fun t430 => (if (t430 != t426) = true then (some false) else ((laws_toMachineS.f k l0).bind fun t431 => ((laws_eqMachineS.f k t427 t431).bind fun t434 => (if t434 = true then (some true) else (some false))))))))))
theorem laws_FnExactChainFollows.mono : ∀ a0 k, LeO (laws_FnExactChainFollows.f k a0) (laws_FnExactChainFollows.f (k + 1) a0) := by
 intro a0 k
 unfold laws_FnExactChainFollows.f
 repeat' first
   | (with_reducible exact impl_ChainFollows.mono _ _)
   | (with_reducible exact laws_eqMachineS.mono _ _ _)
   | (with_reducible exact laws_szMachineS.mono _ _ _)
   | (with_reducible exact laws_toMachineS.mono _ _)
   | (with_reducible exact spec_ChainFollows.mono _ _)
   | (with_reducible exact LeO.refl _)
   | (with_reducible exact LeO.none _)
   | (with_reducible refine LeO.ite ?_ ?_)
   | (with_reducible refine LeO.bind ?_ (fun _ => ?_))
   | exact impl_ChainFollows.mono _ _
   | exact laws_eqMachineS.mono _ _ _
   | exact laws_szMachineS.mono _ _ _
   | exact laws_toMachineS.mono _ _
   | exact spec_ChainFollows.mono _ _
   | exact LeO.none _
   | refine LeO.ite ?_ ?_
   | refine LeO.bind ?_ (fun _ => ?_)
set_option maxHeartbeats 8000000 in
set_option maxRecDepth 100000 in
theorem laws_FnExactChainFollows.calls (k : Nat) (A0 : Option Addr) (c0 : Nat) (l0 : List (S25)) (r : Bool) (w : World) (hr0 : Kd.C k25 w A0 l0.length l0) (hc0 : l0.length ≤ c0) (ht_ : r = true) (h : laws_FnExactChainFollows.f k l0 = some r) :
  Calls Try.prog 8 #[.slice A0 l0.length c0] w fun e w' => e = .returned (.bool r) ∧ Below w.heap.size w w' := by
 have HR0 := Aside0.mk hr0
 have HC0 := Aside0.mk hc0
 clear hr0 hc0
 have HB := Aside0.mk (Below.refl w.heap.size w)
 have H : ((laws_szMachineS.f k l0 1048576).bind fun t422 => (if t422 < 0 then (some true) else ((laws_toMachineS.f k l0).bind fun t423 => ((spec_ChainFollows.f k t423).bind fun t426 => ((laws_toMachineS.f k l0).bind fun t427 => ((impl_ChainFollows.f k t427).bind fun t430 => (if (t430 != t426) = true then (some false) else ((laws_toMachineS.f k l0).bind fun t431 => ((laws_eqMachineS.f k t427 t431).bind fun t434 => (if t434 = true then (some true) else (some false))))))))))) = some r := h
 clear h
 obtain ⟨t422, A2, H⟩ := bindS H
 by_cases c3 : t422 < 0
 ·rw [if_pos c3] at H
  have c3b0 : decide (t422 < 0) = true := decide_eq_true c3
  clear c3
  obtain rfl := Option.some.inj H
  go_enter Try.func8, Try.ntmps8
  go_wp2_with (first | ((with_reducible refine gate_callee (f := 29) rfl ?_); refine goesL_ (some 9) rfl rfl Try.func29 (by kernel_rfl) rfl #[.slice A0 l0.length c0, .int .i64 1048576] rfl zG ?_; (with_reducible refine (laws_szMachineS.calls k _ _ l0 1048576 t422 _ ?side1 ?side2 A2.out).mono ?_); (case side1 => exact cT HR0); (case side2 => exact HC0.out); rintro e w4 ⟨rfl, hb⟩; refine ⟨_, rfl, ?_⟩; replace HB := bS HB hb; (try clear hb)))
  go_ret
  exact ⟨zE, zB HB⟩
 ·rw [if_neg c3] at H
  have c3b0 : decide (t422 < 0) = false := decide_eq_false c3
  clear c3
  obtain ⟨t423, A5, H⟩ := bindS H
  obtain ⟨t426, A6, H⟩ := bindS H
  obtain ⟨t427, A7, H⟩ := bindS H
  obtain ⟨t430, A8, H⟩ := bindS H
  by_cases c9 : (t430 != t426) = true
  ·rw [if_pos c9] at H
   have c9b0 : (t430 != t426) = true := c9
   (try (have c9b1 : decide (t430 = t426) = false := by simpa using c9))
   (try (have c9b2 : (t430 == t426) = false := by simpa using c9))
   (try (have c9b3 : ¬ (t430 = t426) := by simpa using c9))
   clear c9
   exact absurd H (by simp [ht_])
  ·rw [if_neg c9] at H
   have c9b0 : (t430 != t426) = false := by simpa using c9
   (try (have c9b1 : decide (t430 = t426) = true := by simpa using c9))
   (try (have c9b2 : (t430 == t426) = true := by simpa using c9))
   clear c9
   obtain ⟨t431, A10, H⟩ := bindS H
   obtain ⟨t434, A11, H⟩ := bindS H
   by_cases c12 : t434 = true
   ·subst c12
    have H1 : (some true) = some r := by rw [if_pos rfl] at H; exact H
    clear H
    have H := H1
    clear H1
    obtain rfl := Option.some.inj H
    go_enter Try.func8, Try.ntmps8
    go_wp2_with (first | ((with_reducible refine gate_callee (f := 29) rfl ?_); refine goesL_ (some 9) rfl rfl Try.func29 (by kernel_rfl) rfl #[.slice A0 l0.length c0, .int .i64 1048576] rfl zG ?_; (with_reducible refine (laws_szMachineS.calls k _ _ l0 1048576 t422 _ ?side1 ?side2 A2.out).mono ?_); (case side1 => exact cT HR0); (case side2 => exact HC0.out); rintro e w13 ⟨rfl, hb⟩; refine ⟨_, rfl, ?_⟩; replace HB := bS HB hb; (try clear hb)) | ((with_reducible refine gate_callee (f := 31) rfl ?_); refine goesL_ (some 13) rfl rfl Try.func31 (by kernel_rfl) rfl #[.slice A0 l0.length c0] rfl zG ?_; (with_reducible refine (laws_toMachineS.calls k _ _ l0 t423 _ ?side1 ?side2 A5.out).mono ?_); (case side1 => exact cS HR0 HB); (case side2 => exact HC0.out); rintro e w14 ⟨v424, rfl, ho0, hb⟩; refine ⟨_, rfl, ?_⟩; have HO425 := Aside0.mk (Kd.S_lower ho0 (below_size (zB HB))); replace HB := bS HB hb; (try clear hb); (try clear ho0); obtain ⟨Ao15, co15, eo15⟩ := Kd.S_slice HO425.out; subst eo15) | ((with_reducible refine gate_callee (f := 30) rfl ?_); refine goesL_ (some 14) rfl rfl Try.func30 (by kernel_rfl) rfl #[.slice Ao15 t423.length co15] rfl zG ?_; (with_reducible refine (spec_ChainFollows.calls k _ _ t423 t426 _ ?side1 ?side2 A6.out).mono ?_); (case side1 => repeat (first | exact (Kd.S_reads' HO425.out).2.2 | (with_reducible refine Kd.C_alloc ?_ _) | (with_reducible refine Kd.C_drewN ?_ _) | (with_reducible refine Kd.C_drew ?_))); (case side2 => exact (Kd.S_reads' HO425.out).2.1); rintro e w16 ⟨rfl, hb⟩; refine ⟨_, rfl, ?_⟩; replace HO425 := Aside0.mk (Kd.S_below (zS HO425) hb); replace HB := bS HB hb; (try clear hb)) | ((with_reducible refine gate_callee (f := 31) rfl ?_); refine goesL_ (some 16) rfl rfl Try.func31 (by kernel_rfl) rfl #[.slice A0 l0.length c0] rfl zG ?_; (with_reducible refine (laws_toMachineS.calls k _ _ l0 t427 _ ?side1 ?side2 A7.out).mono ?_); (case side1 => exact cS HR0 HB); (case side2 => exact HC0.out); rintro e w17 ⟨v428, rfl, ho0, hb⟩; refine ⟨_, rfl, ?_⟩; have HO429 := Aside0.mk (Kd.S_lower (Kd.S_new' ho0 (Kd.S_lt (zS HO425))) (below_size (zB HB))); replace HO425 := Aside0.mk (Kd.S_elder' (zS HO425) (Kd.S_base ho0) hb); replace HB := bS HB hb; (try clear hb); (try clear ho0); obtain ⟨Ao18, co18, eo18⟩ := Kd.S_slice HO429.out; subst eo18) | ((with_reducible refine gate_callee (f := 32) rfl ?_); refine goesL_ (some 18) rfl rfl Try.func32 (by kernel_rfl) rfl #[.slice Ao18 t427.length co18] rfl zG ?_; (with_reducible refine (impl_ChainFollows.calls k _ _ t427 t430 _ ?side1 ?side2 A8.out).mono ?_); (case side1 => repeat (first | exact (Kd.S_reads' HO429.out).2.2 | (with_reducible refine Kd.C_alloc ?_ _) | (with_reducible refine Kd.C_drewN ?_ _) | (with_reducible refine Kd.C_drew ?_))); (case side2 => exact (Kd.S_reads' HO429.out).2.1); rintro e w19 ⟨rfl, hb⟩; refine ⟨_, rfl, ?_⟩; replace HO425 := Aside0.mk (Kd.S_below (zS HO425) hb); replace HO429 := Aside0.mk (Kd.S_below (zS HO429) hb); replace HB := bS HB hb; (try clear hb)) | ((with_reducible refine gate_callee (f := 31) rfl ?_); refine goesL_ (some 24) rfl rfl Try.func31 (by kernel_rfl) rfl #[.slice A0 l0.length c0] rfl zG ?_; (with_reducible refine (laws_toMachineS.calls k _ _ l0 t431 _ ?side1 ?side2 A10.out).mono ?_); (case side1 => exact cS HR0 HB); (case side2 => exact HC0.out); rintro e w20 ⟨v432, rfl, ho0, hb⟩; refine ⟨_, rfl, ?_⟩; have HO433 := Aside0.mk (Kd.S_lower (Kd.S_new' (Kd.S_new' ho0 (Kd.S_lt (zS HO425))) (Kd.S_lt (zS HO429))) (below_size (zB HB))); replace HO425 := Aside0.mk (Kd.S_elder' (zS HO425) (Kd.S_base ho0) hb); replace HO429 := Aside0.mk (Kd.S_elder' (zS HO429) (Kd.S_base ho0) hb); replace HB := bS HB hb; (try clear hb); (try clear ho0); obtain ⟨Ao21, co21, eo21⟩ := Kd.S_slice HO433.out; subst eo21) | ((with_reducible refine gate_callee (f := 33) rfl ?_); refine goesL_ (some 25) rfl rfl Try.func33 (by kernel_rfl) rfl #[.slice Ao18 t427.length co18, .slice Ao21 t431.length co21] rfl zG ?_; (with_reducible refine (laws_eqMachineS.calls k _ _ t427 _ _ t431 true _ ?side1 ?side2 ?side3 ?side4 A11.out).mono ?_); (case side1 => repeat (first | exact (Kd.S_reads' HO429.out).2.2 | (with_reducible refine Kd.C_alloc ?_ _) | (with_reducible refine Kd.C_drewN ?_ _) | (with_reducible refine Kd.C_drew ?_))); (case side2 => exact (Kd.S_reads' HO429.out).2.1); (case side3 => repeat (first | exact (Kd.S_reads' HO433.out).2.2 | (with_reducible refine Kd.C_alloc ?_ _) | (with_reducible refine Kd.C_drewN ?_ _) | (with_reducible refine Kd.C_drew ?_))); (case side4 => exact (Kd.S_reads' HO433.out).2.1); rintro e w22 ⟨rfl, hb⟩; refine ⟨_, rfl, ?_⟩; replace HO425 := Aside0.mk (Kd.S_below (zS HO425) hb); replace HO429 := Aside0.mk (Kd.S_below (zS HO429) hb); replace HO433 := Aside0.mk (Kd.S_below (zS HO433) hb); replace HB := bS HB hb; (try clear hb)))
    go_ret
    exact ⟨zE, zB HB⟩
   ·replace c12 := Bool.eq_false_iff.mpr c12
    subst c12
    have H1 : (some false) = some r := by rw [if_neg (show ¬ (false = true) by decide)] at H; exact H
    clear H
    have H := H1
    clear H1
    exact absurd H (by simp [ht_])
/-- What is known of a value of type 69 that came in. -/
def W69 (x : S69) : Prop := (Lit.int .i64 x.f0).wf = true ∧ True ∧ (Lit.int .i64 x.f2).wf = true ∧ (Lit.int .i64 x.f3).wf = true
/-- What is known of a value of type 25 that came in. -/
def W25 (x : S25) : Prop := (Lit.int .i64 x.f0).wf = true ∧ (x.f1.length ≤ 9223372036854775807 ∧ ∀ y ∈ x.f1, True) ∧ (x.f2.length ≤ 9223372036854775807 ∧ ∀ y ∈ x.f2, W69 y)

/-- The pure statement of laws_FnExactChainFollows. -/
def laws_FnExactChainFollows.Pure : Prop := ∀ (l0 : List (S25)), l0.length ≤ 9223372036854775807 → (∀ x ∈ l0, W25 x) → ∃ k, laws_FnExactChainFollows.f k l0 = some true

end Go.Proofs.Ytmenijbpglknbaa.PFnExactChainFollows
