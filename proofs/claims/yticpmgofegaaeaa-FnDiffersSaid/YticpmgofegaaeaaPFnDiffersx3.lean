-- WRITTEN by pp.py, this session's own wrapper around the print; not trusted: Lean checks it
import Derived.Test.YticpmgofegaaeaaPFnDiffersx0
import Derived.Test.YticpmgofegaaeaaPFnDiffersx2
namespace Go.Proofs.Yticpmgofegaaeaa.PFnDiffers
open Go.RowKit Go.Proofs.Yticpmgofegaaeaa.Hw Go.Proofs.YticpmgofegaaeaaW.PrintWords Go.Proofs.YticpmgofegaaeaaW.PrintLast Go.Proofs.YticpmgofegaaeaaW.PrintMore
attribute [local go_sem] max2_int min2_int max_two min_two max_three min_three max_four min_four   -- for this text's walks alone
set_option linter.unusedVariables false
set_option linter.unusedSimpArgs false
set_option linter.unusedSectionVars false

/-! ### impl_IsThere: function 42 -/
def impl_IsThere.f (l0 : List (S47)) (l1 : List (S58)) (a2 : Int) : Option (Bool) := (impl_InRange.f a2 0 (wrap64 ((l0.length : Int) - 1))).bind fun t124 => (if t124 = true then (if 0 ≤ a2 then (if a2 < (l0.length : Int) then (if ((rd_T47 l0 a2).f2) = (-1) then (some true) else ((impl_InRange.f ((rd_T47 l0 a2).f2) 0 (wrap64 ((l1.length : Int) - 1))).bind fun t127 => (if t127 = true then (if 0 ≤ ((rd_T47 l0 a2).f2) then (if ((rd_T47 l0 a2).f2) < (l1.length : Int) then (some (((rd_T58 l1 ((rd_T47 l0 a2).f2)).f0) == ((rd_T47 l0 a2).f3))) else (none)) else (none)) else (some false)))) else (none)) else (none)) else (some false))
set_option maxHeartbeats 8000000 in
set_option maxRecDepth 100000 in
theorem impl_IsThere.calls (A0 : Option Addr) (c0 : Nat) (l0 : List (S47)) (A1 : Option Addr) (c1 : Nat) (l1 : List (S58)) (a2 : Int) (r : Bool) (w : World) (hr0 : Kd.C k47 w A0 l0.length l0) (hc0 : l0.length ≤ c0) (hr1 : Kd.C k58 w A1 l1.length l1) (hc1 : l1.length ≤ c1) (h : impl_IsThere.f l0 l1 a2 = some r) :
  Calls Try.prog 42 #[.slice A0 l0.length c0, .slice A1 l1.length c1, .int .i64 a2] w fun e w' => e = .returned (.bool r) ∧ Below w.heap.size w w' := by
 have hu47 := Try.underlying47
 have HR0 := Aside0.mk hr0
 have HC0 := Aside0.mk hc0
 clear hr0 hc0
 have HR1 := Aside0.mk hr1
 have HC1 := Aside0.mk hc1
 clear hr1 hc1
 have HB := Aside0.mk (Below.refl w.heap.size w)
 have H : ((impl_InRange.f a2 0 (wrap64 ((l0.length : Int) - 1))).bind fun t124 => (if t124 = true then (if 0 ≤ a2 then (if a2 < (l0.length : Int) then (if ((rd_T47 l0 a2).f2) = (-1) then (some true) else ((impl_InRange.f ((rd_T47 l0 a2).f2) 0 (wrap64 ((l1.length : Int) - 1))).bind fun t127 => (if t127 = true then (if 0 ≤ ((rd_T47 l0 a2).f2) then (if ((rd_T47 l0 a2).f2) < (l1.length : Int) then (some (((rd_T58 l1 ((rd_T47 l0 a2).f2)).f0) == ((rd_T47 l0 a2).f3))) else (none)) else (none)) else (some false)))) else (none)) else (none)) else (some false))) = some r := h
 clear h
 obtain ⟨t124, A4, H⟩ := bindS H
 by_cases c5 : t124 = true
 ·subst c5
  have H1 : (if 0 ≤ a2 then (if a2 < (l0.length : Int) then (if ((rd_T47 l0 a2).f2) = (-1) then (some true) else ((impl_InRange.f ((rd_T47 l0 a2).f2) 0 (wrap64 ((l1.length : Int) - 1))).bind fun t127 => (if t127 = true then (if 0 ≤ ((rd_T47 l0 a2).f2) then (if ((rd_T47 l0 a2).f2) < (l1.length : Int) then (some (((rd_T58 l1 ((rd_T47 l0 a2).f2)).f0) == ((rd_T47 l0 a2).f3))) else (none)) else (none)) else (some false)))) else (none)) else (none)) = some r := by rw [if_pos rfl] at H; exact H
  clear H
  have H := H1
  clear H1
  obtain ⟨c6, H⟩ := ifS H
  have c6b0 : decide (0 ≤ a2) = true := decide_eq_true c6
  clear c6
  obtain ⟨c7, H⟩ := ifS H
  have c7b0 : decide (a2 < (l0.length : Int)) = true := decide_eq_true c7
  clear c7
  by_cases c8 : ((rd_T47 l0 a2).f2) = (-1)
  ·rw [if_pos c8] at H
   have c8b0 : (((rd_T47 l0 a2).f2) == (-1)) = true := beq_iff_eq.mpr c8
   have c8b1 : (((rd_T47 l0 a2).f2) != (-1)) = false := bne_eq_false_iff_eq.mpr c8
   clear c8
   obtain rfl := Option.some.inj H
   go_enter Try.func42, Try.ntmps42
   go_wp2_with (first | (go_at_call 33; (with_reducible refine (impl_InRange.calls a2 0 (wrap64 ((l0.length : Int) - 1)) true _ A4.out).mono ?_); rintro e w' ⟨rfl, ⟨nd, rfl⟩⟩; (try first | exact ⟨rfl, _, World.drewN_drewN _ _ _⟩ | exact ⟨rfl, _, Eq.trans (World.drewN_drewN _ _ _) (congrArg (World.drewN _) (Nat.add_assoc _ _ _))⟩); have p125 : 0 ≤ (a2 : Int) := zD; have q125 : a2 < (l0.length : Int) := zD; obtain ⟨ad125, e125, hx125_0, hx125_1, hx125_2, hx125_3⟩ := at_T47 HR0.out a2 p125 q125; cases e125; replace p125 := eq_true p125; replace q125 := eq_true q125) | ((with_reducible refine gate_dst (N := 7) rfl ?_); (try (refine gate_guard (by rfl) ?_; dsimp only)); refine box_event ?hg (N := 7) ?hd (cs := #[.int .i64 0, .int .i64 0, .int .i64 0, .int .i64 0]) (t := 47) ?hr ?_; (case hd => rfl); (case hg => rfl); (case hr => first | (go_simp; done) | (go_simp; rfl)); intro gb126 hg w9 hbox hb; have BK126 := Aside0.mk (hbox); have GW126 := gS HB hg; have GE126 := gS HB hg; replace HB := bS HB hb; clear hb hbox hg; have hcz10_0 := bc0 BK126; have hcz10_1 := bc1 BK126; have hcz10_2 := bc2 BK126; have hcz10_3 := bc3 BK126; have hfz10_0 := bf BK126 0; have hfz10_1 := bf BK126 1; have hfz10_2 := bf BK126 2; have hfz10_3 := bf BK126 3))
   repeat (go_quiet (first | (go_at_call 33; (with_reducible refine (impl_InRange.calls a2 0 (wrap64 ((l0.length : Int) - 1)) true _ A4.out).mono ?_); rintro e w' ⟨rfl, ⟨nd, rfl⟩⟩; (try first | exact ⟨rfl, _, World.drewN_drewN _ _ _⟩ | exact ⟨rfl, _, Eq.trans (World.drewN_drewN _ _ _) (congrArg (World.drewN _) (Nat.add_assoc _ _ _))⟩); have p125 : 0 ≤ (a2 : Int) := zD; have q125 : a2 < (l0.length : Int) := zD; obtain ⟨ad125, e125, hx125_0, hx125_1, hx125_2, hx125_3⟩ := at_T47 HR0.out a2 p125 q125; cases e125; replace p125 := eq_true p125; replace q125 := eq_true q125) | ((with_reducible refine gate_dst (N := 7) rfl ?_); (try (refine gate_guard (by rfl) ?_; dsimp only)); refine box_event ?hg (N := 7) ?hd (cs := #[.int .i64 0, .int .i64 0, .int .i64 0, .int .i64 0]) (t := 47) ?hr ?_; (case hd => rfl); (case hg => rfl); (case hr => first | (go_simp; done) | (go_simp; rfl)); intro gb126 hg w9 hbox hb; have BK126 := Aside0.mk (hbox); have GW126 := gS HB hg; have GE126 := gS HB hg; replace HB := bS HB hb; clear hb hbox hg; have hcz10_0 := bc0 BK126; have hcz10_1 := bc1 BK126; have hcz10_2 := bc2 BK126; have hcz10_3 := bc3 BK126; have hfz10_0 := bf BK126 0; have hfz10_1 := bf BK126 1; have hfz10_2 := bf BK126 2; have hfz10_3 := bf BK126 3)); try go_wp2_with (first | (go_at_call 33; (with_reducible refine (impl_InRange.calls a2 0 (wrap64 ((l0.length : Int) - 1)) true _ A4.out).mono ?_); rintro e w' ⟨rfl, ⟨nd, rfl⟩⟩; (try first | exact ⟨rfl, _, World.drewN_drewN _ _ _⟩ | exact ⟨rfl, _, Eq.trans (World.drewN_drewN _ _ _) (congrArg (World.drewN _) (Nat.add_assoc _ _ _))⟩); have p125 : 0 ≤ (a2 : Int) := zD; have q125 : a2 < (l0.length : Int) := zD; obtain ⟨ad125, e125, hx125_0, hx125_1, hx125_2, hx125_3⟩ := at_T47 HR0.out a2 p125 q125; cases e125; replace p125 := eq_true p125; replace q125 := eq_true q125) | ((with_reducible refine gate_dst (N := 7) rfl ?_); (try (refine gate_guard (by rfl) ?_; dsimp only)); refine box_event ?hg (N := 7) ?hd (cs := #[.int .i64 0, .int .i64 0, .int .i64 0, .int .i64 0]) (t := 47) ?hr ?_; (case hd => rfl); (case hg => rfl); (case hr => first | (go_simp; done) | (go_simp; rfl)); intro gb126 hg w9 hbox hb; have n0_ := bS HB hb; have n1_ := Aside0.mk (hbox); have n2_ := gS HB hg; have n3_ := gS HB hg; clear HB; have HB := n0_; have BK126 := n1_; have GW126 := n2_; have GE126 := n3_; clear n0_ n1_ n2_ n3_; clear hb hbox hg; have hcz10_0 := bc0 BK126; have hcz10_1 := bc1 BK126; have hcz10_2 := bc2 BK126; have hcz10_3 := bc3 BK126; have hfz10_0 := bf BK126 0; have hfz10_1 := bf BK126 1; have hfz10_2 := bf BK126 2; have hfz10_3 := bf BK126 3)))
   go_ret
   exact ⟨zE, zB HB⟩
  ·rw [if_neg c8] at H
   have c8b0 : (((rd_T47 l0 a2).f2) == (-1)) = false := beq_eq_false_iff_ne.mpr c8
   have c8b1 : (((rd_T47 l0 a2).f2) != (-1)) = true := bne_iff_ne.mpr c8
   obtain ⟨t127, A11, H⟩ := bindS H
   by_cases c12 : t127 = true
   ·subst c12
    have H1 : (if 0 ≤ ((rd_T47 l0 a2).f2) then (if ((rd_T47 l0 a2).f2) < (l1.length : Int) then (some (((rd_T58 l1 ((rd_T47 l0 a2).f2)).f0) == ((rd_T47 l0 a2).f3))) else (none)) else (none)) = some r := by rw [if_pos rfl] at H; exact H
    clear H
    have H := H1
    clear H1
    obtain ⟨c13, H⟩ := ifS H
    have c13b0 : decide (0 ≤ ((rd_T47 l0 a2).f2)) = true := decide_eq_true c13
    clear c13
    obtain ⟨c14, H⟩ := ifS H
    have c14b0 : decide (((rd_T47 l0 a2).f2) < (l1.length : Int)) = true := decide_eq_true c14
    clear c14
    obtain rfl := Option.some.inj H
    go_enter Try.func42, Try.ntmps42
    go_wp2_with (first | (go_at_call 33; (with_reducible refine (impl_InRange.calls a2 0 (wrap64 ((l0.length : Int) - 1)) true _ A4.out).mono ?_); rintro e w' ⟨rfl, ⟨nd, rfl⟩⟩; (try first | exact ⟨rfl, _, World.drewN_drewN _ _ _⟩ | exact ⟨rfl, _, Eq.trans (World.drewN_drewN _ _ _) (congrArg (World.drewN _) (Nat.add_assoc _ _ _))⟩); have p125 : 0 ≤ (a2 : Int) := zD; have q125 : a2 < (l0.length : Int) := zD; obtain ⟨ad125, e125, hx125_0, hx125_1, hx125_2, hx125_3⟩ := at_T47 HR0.out a2 p125 q125; cases e125; replace p125 := eq_true p125; replace q125 := eq_true q125) | ((with_reducible refine gate_dst (N := 7) rfl ?_); (try (refine gate_guard (by rfl) ?_; dsimp only)); refine box_event ?hg (N := 7) ?hd (cs := #[.int .i64 0, .int .i64 0, .int .i64 0, .int .i64 0]) (t := 47) ?hr ?_; (case hd => rfl); (case hg => rfl); (case hr => first | (go_simp; done) | (go_simp; rfl)); intro gb126 hg w15 hbox hb; have BK126 := Aside0.mk (hbox); have GW126 := gS HB hg; have GE126 := gS HB hg; replace HB := bS HB hb; clear hb hbox hg; have hcz16_0 := bc0 BK126; have hcz16_1 := bc1 BK126; have hcz16_2 := bc2 BK126; have hcz16_3 := bc3 BK126; have hfz16_0 := bf BK126 0; have hfz16_1 := bf BK126 1; have hfz16_2 := bf BK126 2; have hfz16_3 := bf BK126 3; have p128 : 0 ≤ (((rd_T47 l0 a2).f2) : Int) := zD; have q128 : ((rd_T47 l0 a2).f2) < (l1.length : Int) := zD; obtain ⟨ad128, A128_1, c128_1, e128, hx128_0, hx128_1, hl128_1, hi128_1⟩ := at_T58 HR1.out ((rd_T47 l0 a2).f2) p128 q128; cases e128; have hn128_0 : ad128.block ≠ gb126 := Nat.ne_of_lt (Nat.lt_of_lt_of_le (by have := World.block_lt_of_cell? _ _ hx128_0; first | rwa [add_block] at this | exact this) GW126.out); have hn128_1 : ad128.block ≠ gb126 := Nat.ne_of_lt (Nat.lt_of_lt_of_le (by have := World.block_lt_of_cell? _ _ hx128_0; first | rwa [add_block] at this | exact this) GW126.out); have hn128_2 : ad128.block ≠ gb126 := Nat.ne_of_lt (Nat.lt_of_lt_of_le (by have := World.block_lt_of_cell? _ _ hx128_0; first | rwa [add_block] at this | exact this) GW126.out); have hn128_3 : ad128.block ≠ gb126 := Nat.ne_of_lt (Nat.lt_of_lt_of_le (by have := World.block_lt_of_cell? _ _ hx128_0; first | rwa [add_block] at this | exact this) GW126.out); replace hx128_0 := hL HB hx128_0; replace hx128_1 := hL HB hx128_1; have HR128_1 := Aside0.mk hi128_1; have HC128_1 := Aside0.mk hl128_1; clear hi128_1 hl128_1; replace hx128_0 := (cell_far (p := ⟨gb126, 0, none⟩) (by first | (rw [add_block]; exact hn128_0) | (show (Addr.add _ _).block ≠ _; rw [add_block]; exact hn128_0) | exact hn128_0) (.int .i64 ((rd_T47 l0 a2).f0))).trans hx128_0; replace hx128_1 := (cell_far (p := ⟨gb126, 0, none⟩) (by first | (rw [add_block]; exact hn128_0) | (show (Addr.add _ _).block ≠ _; rw [add_block]; exact hn128_0) | exact hn128_0) (.int .i64 ((rd_T47 l0 a2).f0))).trans hx128_1; replace hx128_0 := (cell_far (p := ⟨gb126, 1, none⟩) (by first | (rw [add_block]; exact hn128_1) | (show (Addr.add _ _).block ≠ _; rw [add_block]; exact hn128_1) | exact hn128_1) (.int .i64 ((rd_T47 l0 a2).f1))).trans hx128_0; replace hx128_1 := (cell_far (p := ⟨gb126, 1, none⟩) (by first | (rw [add_block]; exact hn128_1) | (show (Addr.add _ _).block ≠ _; rw [add_block]; exact hn128_1) | exact hn128_1) (.int .i64 ((rd_T47 l0 a2).f1))).trans hx128_1; replace hx128_0 := (cell_far (p := ⟨gb126, 2, none⟩) (by first | (rw [add_block]; exact hn128_2) | (show (Addr.add _ _).block ≠ _; rw [add_block]; exact hn128_2) | exact hn128_2) (.int .i64 ((rd_T47 l0 a2).f2))).trans hx128_0; replace hx128_1 := (cell_far (p := ⟨gb126, 2, none⟩) (by first | (rw [add_block]; exact hn128_2) | (show (Addr.add _ _).block ≠ _; rw [add_block]; exact hn128_2) | exact hn128_2) (.int .i64 ((rd_T47 l0 a2).f2))).trans hx128_1; replace hx128_0 := (cell_far (p := ⟨gb126, 3, none⟩) (by first | (rw [add_block]; exact hn128_3) | (show (Addr.add _ _).block ≠ _; rw [add_block]; exact hn128_3) | exact hn128_3) (.int .i64 ((rd_T47 l0 a2).f3))).trans hx128_0; replace hx128_1 := (cell_far (p := ⟨gb126, 3, none⟩) (by first | (rw [add_block]; exact hn128_3) | (show (Addr.add _ _).block ≠ _; rw [add_block]; exact hn128_3) | exact hn128_3) (.int .i64 ((rd_T47 l0 a2).f3))).trans hx128_1; (try have hy128_0 := fun (n_ : Nat) => (show ((((((w15.drewN n_).setCell ⟨gb126, 0, none⟩ (.int .i64 ((rd_T47 l0 a2).f0))).setCell ⟨gb126, 1, none⟩ (.int .i64 ((rd_T47 l0 a2).f1))).setCell ⟨gb126, 2, none⟩ (.int .i64 ((rd_T47 l0 a2).f2))).setCell ⟨gb126, 3, none⟩ (.int .i64 ((rd_T47 l0 a2).f3)))).cell? _ = some _ from hx128_0)); (try have hy128_1 := fun (n_ : Nat) => (show ((((((w15.drewN n_).setCell ⟨gb126, 0, none⟩ (.int .i64 ((rd_T47 l0 a2).f0))).setCell ⟨gb126, 1, none⟩ (.int .i64 ((rd_T47 l0 a2).f1))).setCell ⟨gb126, 2, none⟩ (.int .i64 ((rd_T47 l0 a2).f2))).setCell ⟨gb126, 3, none⟩ (.int .i64 ((rd_T47 l0 a2).f3)))).cell? _ = some _ from hx128_1)); clear hn128_0; clear hn128_1; clear hn128_2; clear hn128_3; replace p128 := eq_true p128; replace q128 := eq_true q128) | (go_at_call 33; (with_reducible refine (impl_InRange.calls ((rd_T47 l0 a2).f2) 0 (wrap64 ((l1.length : Int) - 1)) true _ A11.out).mono ?_); rintro e w' ⟨rfl, ⟨nd, rfl⟩⟩; (try first | exact ⟨rfl, _, World.drewN_drewN _ _ _⟩ | exact ⟨rfl, _, Eq.trans (World.drewN_drewN _ _ _) (congrArg (World.drewN _) (Nat.add_assoc _ _ _))⟩)))
    repeat (go_quiet (first | (go_at_call 33; (with_reducible refine (impl_InRange.calls a2 0 (wrap64 ((l0.length : Int) - 1)) true _ A4.out).mono ?_); rintro e w' ⟨rfl, ⟨nd, rfl⟩⟩; (try first | exact ⟨rfl, _, World.drewN_drewN _ _ _⟩ | exact ⟨rfl, _, Eq.trans (World.drewN_drewN _ _ _) (congrArg (World.drewN _) (Nat.add_assoc _ _ _))⟩); have p125 : 0 ≤ (a2 : Int) := zD; have q125 : a2 < (l0.length : Int) := zD; obtain ⟨ad125, e125, hx125_0, hx125_1, hx125_2, hx125_3⟩ := at_T47 HR0.out a2 p125 q125; cases e125; replace p125 := eq_true p125; replace q125 := eq_true q125) | ((with_reducible refine gate_dst (N := 7) rfl ?_); (try (refine gate_guard (by rfl) ?_; dsimp only)); refine box_event ?hg (N := 7) ?hd (cs := #[.int .i64 0, .int .i64 0, .int .i64 0, .int .i64 0]) (t := 47) ?hr ?_; (case hd => rfl); (case hg => rfl); (case hr => first | (go_simp; done) | (go_simp; rfl)); intro gb126 hg w15 hbox hb; have BK126 := Aside0.mk (hbox); have GW126 := gS HB hg; have GE126 := gS HB hg; replace HB := bS HB hb; clear hb hbox hg; have hcz16_0 := bc0 BK126; have hcz16_1 := bc1 BK126; have hcz16_2 := bc2 BK126; have hcz16_3 := bc3 BK126; have hfz16_0 := bf BK126 0; have hfz16_1 := bf BK126 1; have hfz16_2 := bf BK126 2; have hfz16_3 := bf BK126 3; have p128 : 0 ≤ (((rd_T47 l0 a2).f2) : Int) := zD; have q128 : ((rd_T47 l0 a2).f2) < (l1.length : Int) := zD; obtain ⟨ad128, A128_1, c128_1, e128, hx128_0, hx128_1, hl128_1, hi128_1⟩ := at_T58 HR1.out ((rd_T47 l0 a2).f2) p128 q128; cases e128; have hn128_0 : ad128.block ≠ gb126 := Nat.ne_of_lt (Nat.lt_of_lt_of_le (by have := World.block_lt_of_cell? _ _ hx128_0; first | rwa [add_block] at this | exact this) GW126.out); have hn128_1 : ad128.block ≠ gb126 := Nat.ne_of_lt (Nat.lt_of_lt_of_le (by have := World.block_lt_of_cell? _ _ hx128_0; first | rwa [add_block] at this | exact this) GW126.out); have hn128_2 : ad128.block ≠ gb126 := Nat.ne_of_lt (Nat.lt_of_lt_of_le (by have := World.block_lt_of_cell? _ _ hx128_0; first | rwa [add_block] at this | exact this) GW126.out); have hn128_3 : ad128.block ≠ gb126 := Nat.ne_of_lt (Nat.lt_of_lt_of_le (by have := World.block_lt_of_cell? _ _ hx128_0; first | rwa [add_block] at this | exact this) GW126.out); replace hx128_0 := hL HB hx128_0; replace hx128_1 := hL HB hx128_1; have HR128_1 := Aside0.mk hi128_1; have HC128_1 := Aside0.mk hl128_1; clear hi128_1 hl128_1; replace hx128_0 := (cell_far (p := ⟨gb126, 0, none⟩) (by first | (rw [add_block]; exact hn128_0) | (show (Addr.add _ _).block ≠ _; rw [add_block]; exact hn128_0) | exact hn128_0) (.int .i64 ((rd_T47 l0 a2).f0))).trans hx128_0; replace hx128_1 := (cell_far (p := ⟨gb126, 0, none⟩) (by first | (rw [add_block]; exact hn128_0) | (show (Addr.add _ _).block ≠ _; rw [add_block]; exact hn128_0) | exact hn128_0) (.int .i64 ((rd_T47 l0 a2).f0))).trans hx128_1; replace hx128_0 := (cell_far (p := ⟨gb126, 1, none⟩) (by first | (rw [add_block]; exact hn128_1) | (show (Addr.add _ _).block ≠ _; rw [add_block]; exact hn128_1) | exact hn128_1) (.int .i64 ((rd_T47 l0 a2).f1))).trans hx128_0; replace hx128_1 := (cell_far (p := ⟨gb126, 1, none⟩) (by first | (rw [add_block]; exact hn128_1) | (show (Addr.add _ _).block ≠ _; rw [add_block]; exact hn128_1) | exact hn128_1) (.int .i64 ((rd_T47 l0 a2).f1))).trans hx128_1; replace hx128_0 := (cell_far (p := ⟨gb126, 2, none⟩) (by first | (rw [add_block]; exact hn128_2) | (show (Addr.add _ _).block ≠ _; rw [add_block]; exact hn128_2) | exact hn128_2) (.int .i64 ((rd_T47 l0 a2).f2))).trans hx128_0; replace hx128_1 := (cell_far (p := ⟨gb126, 2, none⟩) (by first | (rw [add_block]; exact hn128_2) | (show (Addr.add _ _).block ≠ _; rw [add_block]; exact hn128_2) | exact hn128_2) (.int .i64 ((rd_T47 l0 a2).f2))).trans hx128_1; replace hx128_0 := (cell_far (p := ⟨gb126, 3, none⟩) (by first | (rw [add_block]; exact hn128_3) | (show (Addr.add _ _).block ≠ _; rw [add_block]; exact hn128_3) | exact hn128_3) (.int .i64 ((rd_T47 l0 a2).f3))).trans hx128_0; replace hx128_1 := (cell_far (p := ⟨gb126, 3, none⟩) (by first | (rw [add_block]; exact hn128_3) | (show (Addr.add _ _).block ≠ _; rw [add_block]; exact hn128_3) | exact hn128_3) (.int .i64 ((rd_T47 l0 a2).f3))).trans hx128_1; (try have hy128_0 := fun (n_ : Nat) => (show ((((((w15.drewN n_).setCell ⟨gb126, 0, none⟩ (.int .i64 ((rd_T47 l0 a2).f0))).setCell ⟨gb126, 1, none⟩ (.int .i64 ((rd_T47 l0 a2).f1))).setCell ⟨gb126, 2, none⟩ (.int .i64 ((rd_T47 l0 a2).f2))).setCell ⟨gb126, 3, none⟩ (.int .i64 ((rd_T47 l0 a2).f3)))).cell? _ = some _ from hx128_0)); (try have hy128_1 := fun (n_ : Nat) => (show ((((((w15.drewN n_).setCell ⟨gb126, 0, none⟩ (.int .i64 ((rd_T47 l0 a2).f0))).setCell ⟨gb126, 1, none⟩ (.int .i64 ((rd_T47 l0 a2).f1))).setCell ⟨gb126, 2, none⟩ (.int .i64 ((rd_T47 l0 a2).f2))).setCell ⟨gb126, 3, none⟩ (.int .i64 ((rd_T47 l0 a2).f3)))).cell? _ = some _ from hx128_1)); clear hn128_0; clear hn128_1; clear hn128_2; clear hn128_3; replace p128 := eq_true p128; replace q128 := eq_true q128) | (go_at_call 33; (with_reducible refine (impl_InRange.calls ((rd_T47 l0 a2).f2) 0 (wrap64 ((l1.length : Int) - 1)) true _ A11.out).mono ?_); rintro e w' ⟨rfl, ⟨nd, rfl⟩⟩; (try first | exact ⟨rfl, _, World.drewN_drewN _ _ _⟩ | exact ⟨rfl, _, Eq.trans (World.drewN_drewN _ _ _) (congrArg (World.drewN _) (Nat.add_assoc _ _ _))⟩))); try go_wp2_with (first | (go_at_call 33; (with_reducible refine (impl_InRange.calls a2 0 (wrap64 ((l0.length : Int) - 1)) true _ A4.out).mono ?_); rintro e w' ⟨rfl, ⟨nd, rfl⟩⟩; (try first | exact ⟨rfl, _, World.drewN_drewN _ _ _⟩ | exact ⟨rfl, _, Eq.trans (World.drewN_drewN _ _ _) (congrArg (World.drewN _) (Nat.add_assoc _ _ _))⟩); have p125 : 0 ≤ (a2 : Int) := zD; have q125 : a2 < (l0.length : Int) := zD; obtain ⟨ad125, e125, hx125_0, hx125_1, hx125_2, hx125_3⟩ := at_T47 HR0.out a2 p125 q125; cases e125; replace p125 := eq_true p125; replace q125 := eq_true q125) | ((with_reducible refine gate_dst (N := 7) rfl ?_); (try (refine gate_guard (by rfl) ?_; dsimp only)); refine box_event ?hg (N := 7) ?hd (cs := #[.int .i64 0, .int .i64 0, .int .i64 0, .int .i64 0]) (t := 47) ?hr ?_; (case hd => rfl); (case hg => rfl); (case hr => first | (go_simp; done) | (go_simp; rfl)); intro gb126 hg w15 hbox hb; have n0_ := bS HB hb; have n1_ := Aside0.mk (hbox); have n2_ := gS HB hg; have n3_ := gS HB hg; clear HB; have HB := n0_; have BK126 := n1_; have GW126 := n2_; have GE126 := n3_; clear n0_ n1_ n2_ n3_; clear hb hbox hg; have hcz16_0 := bc0 BK126; have hcz16_1 := bc1 BK126; have hcz16_2 := bc2 BK126; have hcz16_3 := bc3 BK126; have hfz16_0 := bf BK126 0; have hfz16_1 := bf BK126 1; have hfz16_2 := bf BK126 2; have hfz16_3 := bf BK126 3; have p128 : 0 ≤ (((rd_T47 l0 a2).f2) : Int) := zD; have q128 : ((rd_T47 l0 a2).f2) < (l1.length : Int) := zD; obtain ⟨ad128, A128_1, c128_1, e128, hx128_0, hx128_1, hl128_1, hi128_1⟩ := at_T58 HR1.out ((rd_T47 l0 a2).f2) p128 q128; cases e128; have hn128_0 : ad128.block ≠ gb126 := Nat.ne_of_lt (Nat.lt_of_lt_of_le (by have := World.block_lt_of_cell? _ _ hx128_0; first | rwa [add_block] at this | exact this) GW126.out); have hn128_1 : ad128.block ≠ gb126 := Nat.ne_of_lt (Nat.lt_of_lt_of_le (by have := World.block_lt_of_cell? _ _ hx128_0; first | rwa [add_block] at this | exact this) GW126.out); have hn128_2 : ad128.block ≠ gb126 := Nat.ne_of_lt (Nat.lt_of_lt_of_le (by have := World.block_lt_of_cell? _ _ hx128_0; first | rwa [add_block] at this | exact this) GW126.out); have hn128_3 : ad128.block ≠ gb126 := Nat.ne_of_lt (Nat.lt_of_lt_of_le (by have := World.block_lt_of_cell? _ _ hx128_0; first | rwa [add_block] at this | exact this) GW126.out); replace hx128_0 := hL HB hx128_0; replace hx128_1 := hL HB hx128_1; have HR128_1 := Aside0.mk hi128_1; have HC128_1 := Aside0.mk hl128_1; clear hi128_1 hl128_1; replace hx128_0 := (cell_far (p := ⟨gb126, 0, none⟩) (by first | (rw [add_block]; exact hn128_0) | (show (Addr.add _ _).block ≠ _; rw [add_block]; exact hn128_0) | exact hn128_0) (.int .i64 ((rd_T47 l0 a2).f0))).trans hx128_0; replace hx128_1 := (cell_far (p := ⟨gb126, 0, none⟩) (by first | (rw [add_block]; exact hn128_0) | (show (Addr.add _ _).block ≠ _; rw [add_block]; exact hn128_0) | exact hn128_0) (.int .i64 ((rd_T47 l0 a2).f0))).trans hx128_1; replace hx128_0 := (cell_far (p := ⟨gb126, 1, none⟩) (by first | (rw [add_block]; exact hn128_1) | (show (Addr.add _ _).block ≠ _; rw [add_block]; exact hn128_1) | exact hn128_1) (.int .i64 ((rd_T47 l0 a2).f1))).trans hx128_0; replace hx128_1 := (cell_far (p := ⟨gb126, 1, none⟩) (by first | (rw [add_block]; exact hn128_1) | (show (Addr.add _ _).block ≠ _; rw [add_block]; exact hn128_1) | exact hn128_1) (.int .i64 ((rd_T47 l0 a2).f1))).trans hx128_1; replace hx128_0 := (cell_far (p := ⟨gb126, 2, none⟩) (by first | (rw [add_block]; exact hn128_2) | (show (Addr.add _ _).block ≠ _; rw [add_block]; exact hn128_2) | exact hn128_2) (.int .i64 ((rd_T47 l0 a2).f2))).trans hx128_0; replace hx128_1 := (cell_far (p := ⟨gb126, 2, none⟩) (by first | (rw [add_block]; exact hn128_2) | (show (Addr.add _ _).block ≠ _; rw [add_block]; exact hn128_2) | exact hn128_2) (.int .i64 ((rd_T47 l0 a2).f2))).trans hx128_1; replace hx128_0 := (cell_far (p := ⟨gb126, 3, none⟩) (by first | (rw [add_block]; exact hn128_3) | (show (Addr.add _ _).block ≠ _; rw [add_block]; exact hn128_3) | exact hn128_3) (.int .i64 ((rd_T47 l0 a2).f3))).trans hx128_0; replace hx128_1 := (cell_far (p := ⟨gb126, 3, none⟩) (by first | (rw [add_block]; exact hn128_3) | (show (Addr.add _ _).block ≠ _; rw [add_block]; exact hn128_3) | exact hn128_3) (.int .i64 ((rd_T47 l0 a2).f3))).trans hx128_1; (try have hy128_0 := fun (n_ : Nat) => (show ((((((w15.drewN n_).setCell ⟨gb126, 0, none⟩ (.int .i64 ((rd_T47 l0 a2).f0))).setCell ⟨gb126, 1, none⟩ (.int .i64 ((rd_T47 l0 a2).f1))).setCell ⟨gb126, 2, none⟩ (.int .i64 ((rd_T47 l0 a2).f2))).setCell ⟨gb126, 3, none⟩ (.int .i64 ((rd_T47 l0 a2).f3)))).cell? _ = some _ from hx128_0)); (try have hy128_1 := fun (n_ : Nat) => (show ((((((w15.drewN n_).setCell ⟨gb126, 0, none⟩ (.int .i64 ((rd_T47 l0 a2).f0))).setCell ⟨gb126, 1, none⟩ (.int .i64 ((rd_T47 l0 a2).f1))).setCell ⟨gb126, 2, none⟩ (.int .i64 ((rd_T47 l0 a2).f2))).setCell ⟨gb126, 3, none⟩ (.int .i64 ((rd_T47 l0 a2).f3)))).cell? _ = some _ from hx128_1)); clear hn128_0; clear hn128_1; clear hn128_2; clear hn128_3; replace p128 := eq_true p128; replace q128 := eq_true q128) | (go_at_call 33; (with_reducible refine (impl_InRange.calls ((rd_T47 l0 a2).f2) 0 (wrap64 ((l1.length : Int) - 1)) true _ A11.out).mono ?_); rintro e w' ⟨rfl, ⟨nd, rfl⟩⟩; (try first | exact ⟨rfl, _, World.drewN_drewN _ _ _⟩ | exact ⟨rfl, _, Eq.trans (World.drewN_drewN _ _ _) (congrArg (World.drewN _) (Nat.add_assoc _ _ _))⟩))))
    go_ret
    exact ⟨zE, zB HB⟩
   ·replace c12 := Bool.eq_false_iff.mpr c12
    subst c12
    have H1 : (some false) = some r := by rw [if_neg (show ¬ (false = true) by decide)] at H; exact H
    clear H
    have H := H1
    clear H1
    obtain rfl := Option.some.inj H
    go_enter Try.func42, Try.ntmps42
    go_wp2_with (first | (go_at_call 33; (with_reducible refine (impl_InRange.calls a2 0 (wrap64 ((l0.length : Int) - 1)) true _ A4.out).mono ?_); rintro e w' ⟨rfl, ⟨nd, rfl⟩⟩; (try first | exact ⟨rfl, _, World.drewN_drewN _ _ _⟩ | exact ⟨rfl, _, Eq.trans (World.drewN_drewN _ _ _) (congrArg (World.drewN _) (Nat.add_assoc _ _ _))⟩); have p125 : 0 ≤ (a2 : Int) := zD; have q125 : a2 < (l0.length : Int) := zD; obtain ⟨ad125, e125, hx125_0, hx125_1, hx125_2, hx125_3⟩ := at_T47 HR0.out a2 p125 q125; cases e125; replace p125 := eq_true p125; replace q125 := eq_true q125) | ((with_reducible refine gate_dst (N := 7) rfl ?_); (try (refine gate_guard (by rfl) ?_; dsimp only)); refine box_event ?hg (N := 7) ?hd (cs := #[.int .i64 0, .int .i64 0, .int .i64 0, .int .i64 0]) (t := 47) ?hr ?_; (case hd => rfl); (case hg => rfl); (case hr => first | (go_simp; done) | (go_simp; rfl)); intro gb126 hg w17 hbox hb; have BK126 := Aside0.mk (hbox); have GW126 := gS HB hg; have GE126 := gS HB hg; replace HB := bS HB hb; clear hb hbox hg; have hcz18_0 := bc0 BK126; have hcz18_1 := bc1 BK126; have hcz18_2 := bc2 BK126; have hcz18_3 := bc3 BK126; have hfz18_0 := bf BK126 0; have hfz18_1 := bf BK126 1; have hfz18_2 := bf BK126 2; have hfz18_3 := bf BK126 3) | (go_at_call 33; (with_reducible refine (impl_InRange.calls ((rd_T47 l0 a2).f2) 0 (wrap64 ((l1.length : Int) - 1)) false _ A11.out).mono ?_); rintro e w' ⟨rfl, ⟨nd, rfl⟩⟩; (try first | exact ⟨rfl, _, World.drewN_drewN _ _ _⟩ | exact ⟨rfl, _, Eq.trans (World.drewN_drewN _ _ _) (congrArg (World.drewN _) (Nat.add_assoc _ _ _))⟩)))
    repeat (go_quiet (first | (go_at_call 33; (with_reducible refine (impl_InRange.calls a2 0 (wrap64 ((l0.length : Int) - 1)) true _ A4.out).mono ?_); rintro e w' ⟨rfl, ⟨nd, rfl⟩⟩; (try first | exact ⟨rfl, _, World.drewN_drewN _ _ _⟩ | exact ⟨rfl, _, Eq.trans (World.drewN_drewN _ _ _) (congrArg (World.drewN _) (Nat.add_assoc _ _ _))⟩); have p125 : 0 ≤ (a2 : Int) := zD; have q125 : a2 < (l0.length : Int) := zD; obtain ⟨ad125, e125, hx125_0, hx125_1, hx125_2, hx125_3⟩ := at_T47 HR0.out a2 p125 q125; cases e125; replace p125 := eq_true p125; replace q125 := eq_true q125) | ((with_reducible refine gate_dst (N := 7) rfl ?_); (try (refine gate_guard (by rfl) ?_; dsimp only)); refine box_event ?hg (N := 7) ?hd (cs := #[.int .i64 0, .int .i64 0, .int .i64 0, .int .i64 0]) (t := 47) ?hr ?_; (case hd => rfl); (case hg => rfl); (case hr => first | (go_simp; done) | (go_simp; rfl)); intro gb126 hg w17 hbox hb; have BK126 := Aside0.mk (hbox); have GW126 := gS HB hg; have GE126 := gS HB hg; replace HB := bS HB hb; clear hb hbox hg; have hcz18_0 := bc0 BK126; have hcz18_1 := bc1 BK126; have hcz18_2 := bc2 BK126; have hcz18_3 := bc3 BK126; have hfz18_0 := bf BK126 0; have hfz18_1 := bf BK126 1; have hfz18_2 := bf BK126 2; have hfz18_3 := bf BK126 3) | (go_at_call 33; (with_reducible refine (impl_InRange.calls ((rd_T47 l0 a2).f2) 0 (wrap64 ((l1.length : Int) - 1)) false _ A11.out).mono ?_); rintro e w' ⟨rfl, ⟨nd, rfl⟩⟩; (try first | exact ⟨rfl, _, World.drewN_drewN _ _ _⟩ | exact ⟨rfl, _, Eq.trans (World.drewN_drewN _ _ _) (congrArg (World.drewN _) (Nat.add_assoc _ _ _))⟩))); try go_wp2_with (first | (go_at_call 33; (with_reducible refine (impl_InRange.calls a2 0 (wrap64 ((l0.length : Int) - 1)) true _ A4.out).mono ?_); rintro e w' ⟨rfl, ⟨nd, rfl⟩⟩; (try first | exact ⟨rfl, _, World.drewN_drewN _ _ _⟩ | exact ⟨rfl, _, Eq.trans (World.drewN_drewN _ _ _) (congrArg (World.drewN _) (Nat.add_assoc _ _ _))⟩); have p125 : 0 ≤ (a2 : Int) := zD; have q125 : a2 < (l0.length : Int) := zD; obtain ⟨ad125, e125, hx125_0, hx125_1, hx125_2, hx125_3⟩ := at_T47 HR0.out a2 p125 q125; cases e125; replace p125 := eq_true p125; replace q125 := eq_true q125) | ((with_reducible refine gate_dst (N := 7) rfl ?_); (try (refine gate_guard (by rfl) ?_; dsimp only)); refine box_event ?hg (N := 7) ?hd (cs := #[.int .i64 0, .int .i64 0, .int .i64 0, .int .i64 0]) (t := 47) ?hr ?_; (case hd => rfl); (case hg => rfl); (case hr => first | (go_simp; done) | (go_simp; rfl)); intro gb126 hg w17 hbox hb; have n0_ := bS HB hb; have n1_ := Aside0.mk (hbox); have n2_ := gS HB hg; have n3_ := gS HB hg; clear HB; have HB := n0_; have BK126 := n1_; have GW126 := n2_; have GE126 := n3_; clear n0_ n1_ n2_ n3_; clear hb hbox hg; have hcz18_0 := bc0 BK126; have hcz18_1 := bc1 BK126; have hcz18_2 := bc2 BK126; have hcz18_3 := bc3 BK126; have hfz18_0 := bf BK126 0; have hfz18_1 := bf BK126 1; have hfz18_2 := bf BK126 2; have hfz18_3 := bf BK126 3) | (go_at_call 33; (with_reducible refine (impl_InRange.calls ((rd_T47 l0 a2).f2) 0 (wrap64 ((l1.length : Int) - 1)) false _ A11.out).mono ?_); rintro e w' ⟨rfl, ⟨nd, rfl⟩⟩; (try first | exact ⟨rfl, _, World.drewN_drewN _ _ _⟩ | exact ⟨rfl, _, Eq.trans (World.drewN_drewN _ _ _) (congrArg (World.drewN _) (Nat.add_assoc _ _ _))⟩))))
    go_ret
    exact ⟨zE, zB HB⟩
 ·replace c5 := Bool.eq_false_iff.mpr c5
  subst c5
  have H1 : (some false) = some r := by rw [if_neg (show ¬ (false = true) by decide)] at H; exact H
  clear H
  have H := H1
  clear H1
  obtain rfl := Option.some.inj H
  go_enter Try.func42, Try.ntmps42
  go_wp2_with (first | (go_at_call 33; (with_reducible refine (impl_InRange.calls a2 0 (wrap64 ((l0.length : Int) - 1)) false _ A4.out).mono ?_); rintro e w' ⟨rfl, ⟨nd, rfl⟩⟩; (try first | exact ⟨rfl, _, World.drewN_drewN _ _ _⟩ | exact ⟨rfl, _, Eq.trans (World.drewN_drewN _ _ _) (congrArg (World.drewN _) (Nat.add_assoc _ _ _))⟩)))
  repeat (go_quiet (first | (go_at_call 33; (with_reducible refine (impl_InRange.calls a2 0 (wrap64 ((l0.length : Int) - 1)) false _ A4.out).mono ?_); rintro e w' ⟨rfl, ⟨nd, rfl⟩⟩; (try first | exact ⟨rfl, _, World.drewN_drewN _ _ _⟩ | exact ⟨rfl, _, Eq.trans (World.drewN_drewN _ _ _) (congrArg (World.drewN _) (Nat.add_assoc _ _ _))⟩))); try go_wp2_with (first | (go_at_call 33; (with_reducible refine (impl_InRange.calls a2 0 (wrap64 ((l0.length : Int) - 1)) false _ A4.out).mono ?_); rintro e w' ⟨rfl, ⟨nd, rfl⟩⟩; (try first | exact ⟨rfl, _, World.drewN_drewN _ _ _⟩ | exact ⟨rfl, _, Eq.trans (World.drewN_drewN _ _ _) (congrArg (World.drewN _) (Nat.add_assoc _ _ _))⟩))))
  go_ret
  exact ⟨zE, zB HB⟩

/-! ### impl_MakeMessage: function 23 -/
mutual
def impl_MakeMessage.l0 : Nat → List (S47) → Int → List (S58) → List (S47) → Int → Int → Option ((List (S58)))
 | 0, _, _, _, _, _, _ => none
 | k + 1, x0, x1, x5, x16, x17, x18 => if x18 < x17 then (if 0 ≤ x18 then (if x18 < (x16.length : Int) then ((impl_PickOf.f k x1 (wrap64 (16 * x18)) (wrap64 (((rd_T47 x16 x18).f1) + 1))).bind fun t135 => ((impl_IsThere.f x0 x5 x18).bind fun t137 => (if t137 = true then (if ((rd_T47 x16 x18).f0) = 1 then (if x5.length < 4398046511104 then (impl_MakeMessage.l0 k x0 x1 (x5 ++ [(⟨t135, ([] : List Int)⟩ : S58)]) x16 x17 (wrap64 (x18 + 1))) else (none)) else (impl_MakeMessage.l1 k x0 x1 x5 x18 x16 x17 x18 t135 0 0 ([] : List Int))) else (if x5.length < 4398046511104 then (impl_MakeMessage.l0 k x0 x1 (x5 ++ [(⟨0, ([] : List Int)⟩ : S58)]) x16 x17 (wrap64 (x18 + 1))) else (none))))) else (none)) else (none)) else (some x5)
def impl_MakeMessage.l1 : Nat → List (S47) → Int → List (S58) → Int → List (S47) → Int → Int → Int → Int → Int → List Int → Option ((List (S58)))
 | 0, _, _, _, _, _, _, _, _, _, _, _ => none
 | k + 1, x0, x1, x5, x6, x16, x17, x18, x31, x32, x137000, x137001 => if x32 < x31 then ((impl_PickOf.f k x1 (wrap64 ((wrap64 ((wrap64 (16 * x6)) + x32)) + 1)) 100).bind fun t141 => (if x137001.length < 17592186044416 then (impl_MakeMessage.l1 k x0 x1 x5 x6 x16 x17 x18 x31 (wrap64 (x32 + 1)) x137000 (x137001 ++ [t141])) else (none))) else (if x5.length < 4398046511104 then (impl_MakeMessage.l0 k x0 x1 (x5 ++ [(⟨x137000, x137001⟩ : S58)]) x16 x17 (wrap64 (x18 + 1))) else (none))
end
def impl_MakeMessage.f (k : Nat) (l0 : List (S47)) (a1 : Int) : Option ((List (S58))) := (some (([] : List (S58)) : List (S58))).bind fun y129 => ((impl_IsFormat.f k l0).bind fun t132 => (if t132 = true then (impl_MakeMessage.l0 k l0 a1 y129 l0 (l0.length : Int) 0) else (some y129)))
theorem impl_MakeMessage.mono_l : ∀ k, (∀ y0 y1 y2 y3 y4 y5, LeO (impl_MakeMessage.l0 k y0 y1 y2 y3 y4 y5) (impl_MakeMessage.l0 (k + 1) y0 y1 y2 y3 y4 y5)) ∧ (∀ y0 y1 y2 y3 y4 y5 y6 y7 y8 y9 y10, LeO (impl_MakeMessage.l1 k y0 y1 y2 y3 y4 y5 y6 y7 y8 y9 y10) (impl_MakeMessage.l1 (k + 1) y0 y1 y2 y3 y4 y5 y6 y7 y8 y9 y10))
 | 0 => ⟨fun _ _ _ _ _ _ r h => by simp [impl_MakeMessage.l0] at h, fun _ _ _ _ _ _ _ _ _ _ _ r h => by simp [impl_MakeMessage.l1] at h⟩
 | k + 1 => by
  obtain ⟨ih0, ih1⟩ := impl_MakeMessage.mono_l k
  refine ⟨?_, ?_⟩
  ·intro y0 y1 y2 y3 y4 y5
   unfold impl_MakeMessage.l0
   repeat' first
   | (with_reducible exact ih0 _ _ _ _ _ _)
   | (with_reducible exact ih1 _ _ _ _ _ _ _ _ _ _ _)
   | (with_reducible exact impl_IsFormat.mono _ _)
   | (with_reducible exact impl_PickOf.mono _ _ _ _)
   | (with_reducible exact LeO.refl _)
   | (with_reducible exact LeO.none _)
   | (with_reducible refine LeO.ite ?_ ?_)
   | (with_reducible refine LeO.bind ?_ (fun _ => ?_))
   | exact ih0 _ _ _ _ _ _
   | exact ih1 _ _ _ _ _ _ _ _ _ _ _
   | exact impl_IsFormat.mono _ _
   | exact impl_PickOf.mono _ _ _ _
   | exact LeO.none _
   | refine LeO.ite ?_ ?_
   | refine LeO.bind ?_ (fun _ => ?_)
  ·intro y0 y1 y2 y3 y4 y5 y6 y7 y8 y9 y10
   unfold impl_MakeMessage.l1
   repeat' first
   | (with_reducible exact ih0 _ _ _ _ _ _)
   | (with_reducible exact ih1 _ _ _ _ _ _ _ _ _ _ _)
   | (with_reducible exact impl_IsFormat.mono _ _)
   | (with_reducible exact impl_PickOf.mono _ _ _ _)
   | (with_reducible exact LeO.refl _)
   | (with_reducible exact LeO.none _)
   | (with_reducible refine LeO.ite ?_ ?_)
   | (with_reducible refine LeO.bind ?_ (fun _ => ?_))
   | exact ih0 _ _ _ _ _ _
   | exact ih1 _ _ _ _ _ _ _ _ _ _ _
   | exact impl_IsFormat.mono _ _
   | exact impl_PickOf.mono _ _ _ _
   | exact LeO.none _
   | refine LeO.ite ?_ ?_
   | refine LeO.bind ?_ (fun _ => ?_)
theorem impl_MakeMessage.mono : ∀ a0 a1 k, LeO (impl_MakeMessage.f k a0 a1) (impl_MakeMessage.f (k + 1) a0 a1) := by
 intro a0 a1 k
 obtain ⟨ih0, ih1⟩ := impl_MakeMessage.mono_l k
 unfold impl_MakeMessage.f
 repeat' first
   | (with_reducible exact ih0 _ _ _ _ _ _)
   | (with_reducible exact ih1 _ _ _ _ _ _ _ _ _ _ _)
   | (with_reducible exact impl_IsFormat.mono _ _)
   | (with_reducible exact impl_PickOf.mono _ _ _ _)
   | (with_reducible exact LeO.refl _)
   | (with_reducible exact LeO.none _)
   | (with_reducible refine LeO.ite ?_ ?_)
   | (with_reducible refine LeO.bind ?_ (fun _ => ?_))
   | exact ih0 _ _ _ _ _ _
   | exact ih1 _ _ _ _ _ _ _ _ _ _ _
   | exact impl_IsFormat.mono _ _
   | exact impl_PickOf.mono _ _ _ _
   | exact LeO.none _
   | refine LeO.ite ?_ ?_
   | refine LeO.bind ?_ (fun _ => ?_)
def impl_MakeMessage.T11 : Bool × List (List Nat × List Nat) := (true, [([], []), ([0], [0]), ([], []), ([], []), ([3], [3]), ([], []), ([4, 5], [4, 5]), ([6], [6]), ([2, 7], [2, 7]), ([8], [8]), ([1, 9, 8], [1, 9]), ([0, 1, 2, 3, 4, 5, 6, 7, 8, 9, 10], []), ([11, 10, 10, 0, 1, 2, 3, 4, 5, 6, 7, 8, 9, 10], [10, 11])])
def impl_MakeMessage.B11 : List Nat := [0, 1, 0, 0, 8, 0, 56, 120, 252, 508, 1023, 2047, 4095]
theorem impl_MakeMessage.tab11 : rtab .any (opsOf Try.f23 11) = impl_MakeMessage.T11 := by kernel_rfl
theorem impl_MakeMessage.bits11 : waitsOk impl_MakeMessage.T11.2 impl_MakeMessage.B11 = true := by kernel_rfl
set_option maxHeartbeats 8000000 in
set_option maxRecDepth 100000 in
theorem impl_MakeMessage.calls (k : Nat) (A0 : Option Addr) (c0 : Nat) (l0 : List (S47)) (a1 : Int) (r : List (S58)) (w : World) (hr0 : Kd.C k47 w A0 l0.length l0) (hc0 : l0.length ≤ c0) (h : impl_MakeMessage.f k l0 a1 = some r) :
  Calls Try.prog 23 #[.slice A0 l0.length c0, .int .i64 a1] w fun e w' => ∃ v0_ : Value, e = .returned (v0_) ∧ Kd.S k58 58 w' w.heap.size (fun _ => True) v0_ r ∧ Below w.heap.size w w' := by
 have hu47 := Try.underlying47
 have hu58 := Try.underlying58
 have HR0 := Aside0.mk hr0
 have HC0 := Aside0.mk hc0
 clear hr0 hc0
 have HB := Aside0.mk (Below.refl w.heap.size w)
 have H : ((some (([] : List (S58)) : List (S58))).bind fun y129 => ((impl_IsFormat.f k l0).bind fun t132 => (if t132 = true then (impl_MakeMessage.l0 k l0 a1 y129 l0 (l0.length : Int) 0) else (some y129)))) = some r := h
 clear h
 obtain ⟨y129, hy129⟩ : ∃ y_ : List (S58), y_ = (([] : List (S58))) := ⟨_, rfl⟩
 replace H : ((impl_IsFormat.f k l0).bind fun t132 => (if t132 = true then (impl_MakeMessage.l0 k l0 a1 y129 l0 (l0.length : Int) 0) else (some y129))) = some r := by first | (rw [hy129]; with_reducible exact H) | (have H2_ := (Option.bind_some _ _).symm.trans H; rw [hy129]; with_reducible exact H2_) | (have H2_ := (Option.bind_some _ _).symm.trans H; with_reducible exact H2_) | with_reducible exact H | (rw [hy129]; exact H) | exact H
 have Ny129 := Aside0.mk hy129
 clear hy129
 obtain ⟨t132, A3, H⟩ := bindS H
 by_cases c4 : t132 = true
 ·subst c4
  have H1 : (impl_MakeMessage.l0 k l0 a1 y129 l0 (l0.length : Int) 0) = some r := by rw [if_pos rfl] at H; exact H
  clear H
  have H := H1
  clear H1
  have H' := Aside0.mk H
  clear H
  go_enter Try.func23, Try.ntmps23
  go_wp2_with (first | ((with_reducible refine gate_dst (N := 11) rfl ?_); refine Kd.S_lit k58 _ 58 ?hg (N := 11) ?hd (xs := ([] : List (S58))) (inner := []) (ok := fun _ => True) (okp := fun _ => True) ?hr ?hp (fun _ hk => hk) trivial (Below.refl _ _) (Nat.le_refl _) (by simp) ?_; (case hd => rfl); (case hg => rfl); (case hr => first | (go_simp; done) | (go_simp; rfl)); (case hp => exact (Reps.none _ _)); intro v130 w5 ho6 hb hg_ hnew_; clear hg_ hnew_; (first | rw [← Ny129.out] at ho6 | (simp only [Int.reduceToNat] at ho6; rw [← Ny129.out] at ho6)); have HO131 := Aside0.mk (Kd.S_lower ho6 (below_size (zB HB))); replace HB := bS HB hb; clear hb ho6) | ((with_reducible refine gate_callee (f := 17) rfl ?_); refine goesL_ (some 13) rfl rfl Try.func17 (by kernel_rfl) rfl #[.slice A0 l0.length c0] rfl zG ?_; (with_reducible refine (impl_IsFormat.calls k _ _ l0 true _ ?side1 ?side2 A3.out).mono ?_); (case side1 => exact cS HR0 HB); (case side2 => exact HC0.out); rintro e w7 ⟨rfl, hb⟩; refine ⟨_, rfl, ?_⟩; replace HO131 := Aside0.mk (Kd.S_below (zS HO131) hb); replace HB := bS HB hb; (try clear hb)))
  go_loopg [5, 18] k (fun kq v5 v18 w' => ∃ (x5_1 : List (S58)) (x18_1 : Int), v18 = .int .i64 x18_1 ∧ Aside0 (impl_MakeMessage.l0 kq l0 a1 x5_1 l0 (l0.length : Int) x18_1 = some r) ∧ Aside0 (kq ≤ k) ∧ Aside0 (Kd.S k58 58 w' w.heap.size (fun _ => True) v5 x5_1) ∧ Aside0 (Below w.heap.size w w'))
  case atStart => exact ⟨(y129), (0), zF, H', ⟨Nat.le_refl _⟩, ⟨zS HO131⟩, ⟨zB HB⟩⟩
  case round =>
   clear H'
   try clear c1
   try clear c2
   try clear p2
   try clear c4
   obtain ⟨x5_1, x18_1, rfl, HA, HK1, HO_5, HB⟩ := hrel
   cases gk with
   | zero => exact absurd HA.out (by simp [impl_MakeMessage.l0])
   | succ k1 =>
    have H := HA.out
    clear HA
    simp only [impl_MakeMessage.l0] at H
    by_cases c8 : x18_1 < (l0.length : Int)
    ·rw [if_pos c8] at H
     have c8b0 : decide (x18_1 < (l0.length : Int)) = true := decide_eq_true c8
     clear c8
     obtain ⟨c9, H⟩ := ifS H
     have c9b0 : decide (0 ≤ x18_1) = true := decide_eq_true c9
     clear c9
     obtain ⟨c10, H⟩ := ifS H
     have c10b0 : decide (x18_1 < (l0.length : Int)) = true := decide_eq_true c10
     clear c10
     obtain ⟨t135, A11, H⟩ := bindS H
     obtain ⟨t137, A12, H⟩ := bindS H
     by_cases c13 : t137 = true
     ·subst c13
      have H1 : (if ((rd_T47 l0 x18_1).f0) = 1 then (if x5_1.length < 4398046511104 then (impl_MakeMessage.l0 k1 l0 a1 (x5_1 ++ [(⟨t135, ([] : List Int)⟩ : S58)]) l0 (l0.length : Int) (wrap64 (x18_1 + 1))) else (none)) else (impl_MakeMessage.l1 k1 l0 a1 x5_1 x18_1 l0 (l0.length : Int) x18_1 t135 0 0 ([] : List Int))) = some r := by rw [if_pos rfl] at H; exact H
      clear H
      have H := H1
      clear H1
      by_cases c14 : ((rd_T47 l0 x18_1).f0) = 1
      ·rw [if_pos c14] at H
       have c14b0 : (((rd_T47 l0 x18_1).f0) == 1) = true := beq_iff_eq.mpr c14
       have c14b1 : (((rd_T47 l0 x18_1).f0) != 1) = false := bne_eq_false_iff_eq.mpr c14
       clear c14
       obtain ⟨c15, H⟩ := ifS H
       have LMc15 := Aside0.mk c15
       clear c15
       obtain ⟨y138, hy138⟩ : ∃ y_ : List (S58), y_ = (x5_1 ++ [(⟨t135, ([] : List Int)⟩ : S58)]) := ⟨_, rfl⟩
       replace H : (impl_MakeMessage.l0 k1 l0 a1 y138 l0 (l0.length : Int) (wrap64 (x18_1 + 1))) = some r := by first | (rw [hy138]; with_reducible exact H) | (have H2_ := (Option.bind_some _ _).symm.trans H; rw [hy138]; with_reducible exact H2_) | (have H2_ := (Option.bind_some _ _).symm.trans H; with_reducible exact H2_) | with_reducible exact H | (rw [hy138]; exact H) | exact H
       have Ny138 := Aside0.mk hy138
       clear hy138
       have H' := Aside0.mk H
       clear H
       have p133 : 0 ≤ (x18_1 : Int) := zD
       have q133 : x18_1 < (l0.length : Int) := zD
       obtain ⟨ad133, e133, hx133_0, hx133_1, hx133_2, hx133_3⟩ := at_T47 HR0.out x18_1 p133 q133
       cases e133
       replace hx133_0 := hL HB hx133_0
       replace hx133_1 := hL HB hx133_1
       replace hx133_2 := hL HB hx133_2
       replace hx133_3 := hL HB hx133_3
       replace p133 := eq_true p133
       replace q133 := eq_true q133
       go_wp2_with (first | ((with_reducible refine gate_dst (N := 7) rfl ?_); refine box_event ?hg (N := 7) ?hd (cs := #[.int .i64 0, .int .i64 0, .int .i64 0, .int .i64 0]) (t := 47) ?hr ?_; (case hd => rfl); (case hg => rfl); (case hr => first | (go_simp; done) | (go_simp; rfl)); intro gb134 hg w16 hbox hb; replace HO_5 := Aside0.mk (Kd.S_below (zS HO_5) hb); have BK134 := Aside0.mk (hbox); have GW134 := gS HB hg; have GE134 := gS HB hg; replace HB := bS HB hb; clear hb hbox hg; have hcz17_0 := bc0 BK134; have hcz17_1 := bc1 BK134; have hcz17_2 := bc2 BK134; have hcz17_3 := bc3 BK134; have hfz17_0 := bf BK134 0; have hfz17_1 := bf BK134 1; have hfz17_2 := bf BK134 2; have hfz17_3 := bf BK134 3) | ((with_reducible refine gate_callee (f := 41) rfl ?_); refine goesL_ (some 30) rfl rfl Try.func41 (by kernel_rfl) rfl #[.int .i64 a1, .int .i64 (wrap64 (16 * x18_1)), .int .i64 (wrap64 (((rd_T47 l0 x18_1).f1) + 1))] rfl zG ?_; (with_reducible refine (impl_PickOf.calls k1 a1 (wrap64 (16 * x18_1)) (wrap64 (((rd_T47 l0 x18_1).f1) + 1)) t135 _ A11.out).mono ?_); rintro e w18 ⟨rfl, hb⟩; refine ⟨_, rfl, ?_⟩; replace HO_5 := Aside0.mk (Kd.S_below (by (with_reducible repeat (first | apply Kd.S_alloc | apply Kd.S_drewN | apply Kd.S_drew)); exact (Kd.S_mono (Kd.S_far (p := ⟨gb134, 3, none⟩) (Kd.S_far (p := ⟨gb134, 2, none⟩) (Kd.S_far (p := ⟨gb134, 1, none⟩) (Kd.S_far (p := ⟨gb134, 0, none⟩) (Kd.S_types HO_5.out BK134.out (by decide)) (fun _ hk => hk.2) (.int .i64 ((rd_T47 l0 x18_1).f0))) (fun _ hk => hk.2) (.int .i64 ((rd_T47 l0 x18_1).f1))) (fun _ hk => hk.2) (.int .i64 ((rd_T47 l0 x18_1).f2))) (fun _ hk => hk.2) (.int .i64 ((rd_T47 l0 x18_1).f3))) (fun _ h_ => h_.1))) hb); replace BK134 := Aside0.mk (blk_below (g := gb134) (o := .cells #[.int .i64 ((rd_T47 l0 x18_1).f0), .int .i64 ((rd_T47 l0 x18_1).f1), .int .i64 ((rd_T47 l0 x18_1).f2), .int .i64 ((rd_T47 l0 x18_1).f3)] 47 (0, 0)) (by (with_reducible repeat (first | refine blk_drewN ?_ _ | refine blk_drew ?_ | refine blk_alloc ?_ _)); refine blk_put (cs := #[.int .i64 ((rd_T47 l0 x18_1).f0), .int .i64 ((rd_T47 l0 x18_1).f1), .int .i64 ((rd_T47 l0 x18_1).f2), .int .i64 0]) ?_ 3 _ rfl; (with_reducible repeat (first | refine blk_drewN ?_ _ | refine blk_drew ?_ | refine blk_alloc ?_ _)); refine blk_put (cs := #[.int .i64 ((rd_T47 l0 x18_1).f0), .int .i64 ((rd_T47 l0 x18_1).f1), .int .i64 0, .int .i64 0]) ?_ 2 _ rfl; (with_reducible repeat (first | refine blk_drewN ?_ _ | refine blk_drew ?_ | refine blk_alloc ?_ _)); refine blk_put (cs := #[.int .i64 ((rd_T47 l0 x18_1).f0), .int .i64 0, .int .i64 0, .int .i64 0]) ?_ 1 _ rfl; (with_reducible repeat (first | refine blk_drewN ?_ _ | refine blk_drew ?_ | refine blk_alloc ?_ _)); refine blk_put (cs := #[.int .i64 0, .int .i64 0, .int .i64 0, .int .i64 0]) ?_ 0 _ rfl; (with_reducible repeat (first | refine blk_drewN ?_ _ | refine blk_drew ?_ | refine blk_alloc ?_ _)); exact BK134.out) hb); replace HB := bS HB hb; (try clear hb)) | ((with_reducible refine gate_dst (N := 8) rfl ?_); refine box_event ?hg (N := 8) ?hd (cs := #[.int .i64 0, .slice none 0 0]) (t := 58) ?hr ?_; (case hd => rfl); (case hg => rfl); (case hr => first | (go_simp; done) | (go_simp; rfl)); intro gb136 hg w19 hbox hb; replace HO_5 := Aside0.mk (Kd.S_below (Kd.S_elderB (zS HO_5) gb136 (Nat.le_of_eq hg.symm)) hb); have BK136 := Aside0.mk (hbox); have GW136 := gS HB hg; have GE136 := gS HB hg; replace HB := bS HB hb; have NB134_136 := nL BK134 hg; have NB136_134 := nR BK134 hg; replace BK134 := kB BK134 hb; clear hb hbox hg; have hnb20 := NB136_134.out; have hnc20 := NB134_136.out; have hcz21_0 := bc0 BK136; have hcz21_1 := bc1 BK136; have hfz21_0 := bf BK136 0; have hfz21_1 := bf BK136 1; obtain ⟨Ao22, co22, eo22⟩ := Kd.S_slice HO_5.out; subst eo22) | ((with_reducible refine gate_callee (f := 42) rfl ?_); refine goesL_ (some 52) rfl rfl Try.func42 (by kernel_rfl) rfl #[.slice (some ad133) l0.length c0, .slice Ao22 x5_1.length co22, .int .i64 x18_1] rfl zG ?_; (with_reducible refine (impl_IsThere.calls _ _ l0 _ _ x5_1 x18_1 true _ ?side1 ?side2 ?side3 ?side4 A12.out).mono ?_); (case side1 => exact Kd.C_below HR0.out (zB HB)); (case side2 => exact HC0.out); (case side3 => refine (Kd.S_reads' (e := 58) (base := w.heap.size) (ok := fun k_ => (True ∧ k_ ≠ gb136)) (n := x5_1.length) (c := co22) ?_).2.2; exact (by (with_reducible repeat (first | apply Kd.S_alloc | apply Kd.S_drewN | apply Kd.S_drew)); exact (Kd.S_mono (Kd.S_far (p := ⟨gb136, 1, none⟩) (Kd.S_far (p := ⟨gb136, 0, none⟩) (Kd.S_mono HO_5.out (fun k_ hk => (⟨hk, hk.2⟩ : _ ∧ k_ ≠ gb136))) (fun _ hk => hk.2) (.int .i64 0)) (fun _ hk => hk.2) (.slice none 0 0)) (fun _ h_ => h_.1)))); (case side4 => exact (Kd.S_reads' HO_5.out).2.1); rintro e w23 ⟨rfl, hb⟩; refine ⟨_, rfl, ?_⟩; replace HO_5 := Aside0.mk (Kd.S_below (by (with_reducible repeat (first | apply Kd.S_alloc | apply Kd.S_drewN | apply Kd.S_drew)); exact (Kd.S_mono (Kd.S_far (p := ⟨gb136, 1, none⟩) (Kd.S_far (p := ⟨gb136, 0, none⟩) (Kd.S_mono HO_5.out (fun k_ hk => (⟨hk, hk.2⟩ : _ ∧ k_ ≠ gb136))) (fun _ hk => hk.2) (.int .i64 0)) (fun _ hk => hk.2) (.slice none 0 0)) (fun _ h_ => h_.1))) hb); replace BK134 := Aside0.mk (blk_below (g := gb134) (o := .cells #[.int .i64 ((rd_T47 l0 x18_1).f0), .int .i64 ((rd_T47 l0 x18_1).f1), .int .i64 ((rd_T47 l0 x18_1).f2), .int .i64 ((rd_T47 l0 x18_1).f3)] 47 (0, 0)) (by (with_reducible repeat (first | refine blk_drewN ?_ _ | refine blk_drew ?_ | refine blk_alloc ?_ _)); refine blk_far ?_ NB134_136.out _; (with_reducible repeat (first | refine blk_drewN ?_ _ | refine blk_drew ?_ | refine blk_alloc ?_ _)); refine blk_far ?_ NB134_136.out _; (with_reducible repeat (first | refine blk_drewN ?_ _ | refine blk_drew ?_ | refine blk_alloc ?_ _)); exact BK134.out) hb); replace BK136 := Aside0.mk (blk_below (g := gb136) (o := .cells #[.int .i64 0, .slice none 0 0] 58 (0, 0)) (by (with_reducible repeat (first | refine blk_drewN ?_ _ | refine blk_drew ?_ | refine blk_alloc ?_ _)); refine blk_put (cs := #[.int .i64 0, .slice none 0 0]) ?_ 1 _ rfl; (with_reducible repeat (first | refine blk_drewN ?_ _ | refine blk_drew ?_ | refine blk_alloc ?_ _)); refine blk_put (cs := #[.int .i64 0, .slice none 0 0]) ?_ 0 _ rfl; (with_reducible repeat (first | refine blk_drewN ?_ _ | refine blk_drew ?_ | refine blk_alloc ?_ _)); exact BK136.out) hb); replace HB := bS HB hb; (try clear hb); have hcz24_0 := bc0 BK134; have hcz24_1 := bc1 BK134; have hcz24_2 := bc2 BK134; have hcz24_3 := bc3 BK134; have hfz24_0 := bf BK134 0; have hfz24_1 := bf BK134 1; have hfz24_2 := bf BK134 2; have hfz24_3 := bf BK134 3; have hcz25_0 := bc0 BK136; have hcz25_1 := bc1 BK136; have hfz25_0 := bf BK136 0; have hfz25_1 := bf BK136 1) | ((with_reducible refine gate_builtin (b := .append) (xs := #[.tmp 60, .tmp 62]) rfl ?_); at_builtin; refine Kd.S_append k58 (w0 := w) w.heap.size rfl (.tmp 60) (.tmp 62) 39 58 (.agg #[(.int .i64 0), (.slice none 0 0)]) 32 rfl Try.underlying39 info58 rfl (by decide) (by omega) (.slice Ao22 x5_1.length co22) x5_1 (⟨t135, ([] : List Int)⟩ : S58) [.int .i64 t135, .slice none 0 0] (fun k_ => k_ ≠ gb136) (fun _ => False) rfl (by first | (go_simp; done) | (go_simp; rfl)) ?aP (fun k_ hk_ => hk_.elim) ?aF ?aO ?aB ?aS ?aL ?_; (case aP => exact k58_mkM _ _ _ (⟨t135, ([] : List Int)⟩ : S58) (Kd.R_nil _ _ _ _ _)); (case aB => exact (zB HB)); (case aF => exact (fun k_ hk => Kd.freshB (g := gb136) (o := .cells #[.int .i64 t135, .slice none 0 0] 58 (0, 0)) (by (with_reducible repeat (first | refine blk_drewN ?_ _ | refine blk_drew ?_ | refine blk_alloc ?_ _)); refine blk_put (cs := #[.int .i64 0, .slice none 0 0]) ?_ 0 _ rfl; (with_reducible repeat (first | refine blk_drewN ?_ _ | refine blk_drew ?_ | refine blk_alloc ?_ _)); exact BK136.out) k_ hk)); (case aO => exact (by (with_reducible repeat (first | apply Kd.S_alloc | apply Kd.S_drewN | apply Kd.S_drew)); exact Kd.S_mono (Kd.S_far (p := ⟨gb136, 0, none⟩) (Kd.S_mono HO_5.out (fun k_ hk => (⟨hk, hk.2⟩ : _ ∧ k_ ≠ gb136))) (fun _ hk => hk.2) (.int .i64 t135)) (fun k_ hk => ⟨hk.1.2, fun e_ => e_⟩))); (case aS => exact (below_size (zB HB))); (case aL => have := LMc15.out; omega); intro v139 w26 ho hb hg hat; rw [← Ny138.out] at ho; replace BK134 := Aside0.mk (blk_grown (g := gb134) (o := .cells #[.int .i64 ((rd_T47 l0 x18_1).f0), .int .i64 ((rd_T47 l0 x18_1).f1), .int .i64 ((rd_T47 l0 x18_1).f2), .int .i64 ((rd_T47 l0 x18_1).f3)] 47 (0, 0)) (by (with_reducible repeat (first | refine blk_drewN ?_ _ | refine blk_drew ?_ | refine blk_alloc ?_ _)); refine blk_far ?_ NB134_136.out _; (with_reducible repeat (first | refine blk_drewN ?_ _ | refine blk_drew ?_ | refine blk_alloc ?_ _)); exact BK134.out) hg (Kd.S_ne HO_5.out BK134.out (by decide))); replace BK136 := Aside0.mk (blk_grown (g := gb136) (o := .cells #[.int .i64 t135, .slice none 0 0] 58 (0, 0)) (by (with_reducible repeat (first | refine blk_drewN ?_ _ | refine blk_drew ?_ | refine blk_alloc ?_ _)); refine blk_put (cs := #[.int .i64 0, .slice none 0 0]) ?_ 0 _ rfl; (with_reducible repeat (first | refine blk_drewN ?_ _ | refine blk_drew ?_ | refine blk_alloc ?_ _)); exact BK136.out) hg (Kd.S_away HO_5.out (fun _ hk => hk.2))); replace HB := Aside0.mk (hb); have HO140 := Aside0.mk (ho); clear HO_5; clear ho hb hg hat))
       go_roundg k1
       case measure => have := HK1.out; omega
       case rel => exact ⟨(y138), (wrap64 (x18_1 + 1)), zF, H', ⟨by have := HK1.out; omega⟩, ⟨by (with_reducible repeat (first | apply Kd.S_alloc | apply Kd.S_drewN | apply Kd.S_drew)); exact Kd.S_mono HO140.out (fun _ hk => trivial)⟩, ⟨zB HB⟩⟩
      ·rw [if_neg c14] at H
       have c14b0 : (((rd_T47 l0 x18_1).f0) == 1) = false := beq_eq_false_iff_ne.mpr c14
       have c14b1 : (((rd_T47 l0 x18_1).f0) != 1) = true := bne_iff_ne.mpr c14
       have H' := Aside0.mk H
       clear H
       have p133 : 0 ≤ (x18_1 : Int) := zD
       have q133 : x18_1 < (l0.length : Int) := zD
       obtain ⟨ad133, e133, hx133_0, hx133_1, hx133_2, hx133_3⟩ := at_T47 HR0.out x18_1 p133 q133
       cases e133
       replace hx133_0 := hL HB hx133_0
       replace hx133_1 := hL HB hx133_1
       replace hx133_2 := hL HB hx133_2
       replace hx133_3 := hL HB hx133_3
       replace p133 := eq_true p133
       replace q133 := eq_true q133
       go_wp2_with (first | ((with_reducible refine gate_dst (N := 7) rfl ?_); refine box_event ?hg (N := 7) ?hd (cs := #[.int .i64 0, .int .i64 0, .int .i64 0, .int .i64 0]) (t := 47) ?hr ?_; (case hd => rfl); (case hg => rfl); (case hr => first | (go_simp; done) | (go_simp; rfl)); intro gb134 hg w27 hbox hb; replace HO_5 := Aside0.mk (Kd.S_below (zS HO_5) hb); have BK134 := Aside0.mk (hbox); have GW134 := gS HB hg; have GE134 := gS HB hg; replace HB := bS HB hb; clear hb hbox hg; have hcz28_0 := bc0 BK134; have hcz28_1 := bc1 BK134; have hcz28_2 := bc2 BK134; have hcz28_3 := bc3 BK134; have hfz28_0 := bf BK134 0; have hfz28_1 := bf BK134 1; have hfz28_2 := bf BK134 2; have hfz28_3 := bf BK134 3) | ((with_reducible refine gate_callee (f := 41) rfl ?_); refine goesL_ (some 30) rfl rfl Try.func41 (by kernel_rfl) rfl #[.int .i64 a1, .int .i64 (wrap64 (16 * x18_1)), .int .i64 (wrap64 (((rd_T47 l0 x18_1).f1) + 1))] rfl zG ?_; (with_reducible refine (impl_PickOf.calls k1 a1 (wrap64 (16 * x18_1)) (wrap64 (((rd_T47 l0 x18_1).f1) + 1)) t135 _ A11.out).mono ?_); rintro e w29 ⟨rfl, hb⟩; refine ⟨_, rfl, ?_⟩; replace HO_5 := Aside0.mk (Kd.S_below (by (with_reducible repeat (first | apply Kd.S_alloc | apply Kd.S_drewN | apply Kd.S_drew)); exact (Kd.S_mono (Kd.S_far (p := ⟨gb134, 3, none⟩) (Kd.S_far (p := ⟨gb134, 2, none⟩) (Kd.S_far (p := ⟨gb134, 1, none⟩) (Kd.S_far (p := ⟨gb134, 0, none⟩) (Kd.S_types HO_5.out BK134.out (by decide)) (fun _ hk => hk.2) (.int .i64 ((rd_T47 l0 x18_1).f0))) (fun _ hk => hk.2) (.int .i64 ((rd_T47 l0 x18_1).f1))) (fun _ hk => hk.2) (.int .i64 ((rd_T47 l0 x18_1).f2))) (fun _ hk => hk.2) (.int .i64 ((rd_T47 l0 x18_1).f3))) (fun _ h_ => h_.1))) hb); replace BK134 := Aside0.mk (blk_below (g := gb134) (o := .cells #[.int .i64 ((rd_T47 l0 x18_1).f0), .int .i64 ((rd_T47 l0 x18_1).f1), .int .i64 ((rd_T47 l0 x18_1).f2), .int .i64 ((rd_T47 l0 x18_1).f3)] 47 (0, 0)) (by (with_reducible repeat (first | refine blk_drewN ?_ _ | refine blk_drew ?_ | refine blk_alloc ?_ _)); refine blk_put (cs := #[.int .i64 ((rd_T47 l0 x18_1).f0), .int .i64 ((rd_T47 l0 x18_1).f1), .int .i64 ((rd_T47 l0 x18_1).f2), .int .i64 0]) ?_ 3 _ rfl; (with_reducible repeat (first | refine blk_drewN ?_ _ | refine blk_drew ?_ | refine blk_alloc ?_ _)); refine blk_put (cs := #[.int .i64 ((rd_T47 l0 x18_1).f0), .int .i64 ((rd_T47 l0 x18_1).f1), .int .i64 0, .int .i64 0]) ?_ 2 _ rfl; (with_reducible repeat (first | refine blk_drewN ?_ _ | refine blk_drew ?_ | refine blk_alloc ?_ _)); refine blk_put (cs := #[.int .i64 ((rd_T47 l0 x18_1).f0), .int .i64 0, .int .i64 0, .int .i64 0]) ?_ 1 _ rfl; (with_reducible repeat (first | refine blk_drewN ?_ _ | refine blk_drew ?_ | refine blk_alloc ?_ _)); refine blk_put (cs := #[.int .i64 0, .int .i64 0, .int .i64 0, .int .i64 0]) ?_ 0 _ rfl; (with_reducible repeat (first | refine blk_drewN ?_ _ | refine blk_drew ?_ | refine blk_alloc ?_ _)); exact BK134.out) hb); replace HB := bS HB hb; (try clear hb)) | ((with_reducible refine gate_dst (N := 8) rfl ?_); refine box_event ?hg (N := 8) ?hd (cs := #[.int .i64 0, .slice none 0 0]) (t := 58) ?hr ?_; (case hd => rfl); (case hg => rfl); (case hr => first | (go_simp; done) | (go_simp; rfl)); intro gb136 hg w30 hbox hb; replace HO_5 := Aside0.mk (Kd.S_below (Kd.S_elderB (zS HO_5) gb136 (Nat.le_of_eq hg.symm)) hb); have BK136 := Aside0.mk (hbox); have GW136 := gS HB hg; have GE136 := gS HB hg; replace HB := bS HB hb; have NB134_136 := nL BK134 hg; have NB136_134 := nR BK134 hg; replace BK134 := kB BK134 hb; clear hb hbox hg; have hnb31 := NB136_134.out; have hnc31 := NB134_136.out; have hcz32_0 := bc0 BK136; have hcz32_1 := bc1 BK136; have hfz32_0 := bf BK136 0; have hfz32_1 := bf BK136 1; obtain ⟨Ao33, co33, eo33⟩ := Kd.S_slice HO_5.out; subst eo33) | ((with_reducible refine gate_callee (f := 42) rfl ?_); refine goesL_ (some 52) rfl rfl Try.func42 (by kernel_rfl) rfl #[.slice (some ad133) l0.length c0, .slice Ao33 x5_1.length co33, .int .i64 x18_1] rfl zG ?_; (with_reducible refine (impl_IsThere.calls _ _ l0 _ _ x5_1 x18_1 true _ ?side1 ?side2 ?side3 ?side4 A12.out).mono ?_); (case side1 => exact Kd.C_below HR0.out (zB HB)); (case side2 => exact HC0.out); (case side3 => refine (Kd.S_reads' (e := 58) (base := w.heap.size) (ok := fun k_ => (True ∧ k_ ≠ gb136)) (n := x5_1.length) (c := co33) ?_).2.2; exact (by (with_reducible repeat (first | apply Kd.S_alloc | apply Kd.S_drewN | apply Kd.S_drew)); exact (Kd.S_mono (Kd.S_far (p := ⟨gb136, 1, none⟩) (Kd.S_far (p := ⟨gb136, 0, none⟩) (Kd.S_mono HO_5.out (fun k_ hk => (⟨hk, hk.2⟩ : _ ∧ k_ ≠ gb136))) (fun _ hk => hk.2) (.int .i64 0)) (fun _ hk => hk.2) (.slice none 0 0)) (fun _ h_ => h_.1)))); (case side4 => exact (Kd.S_reads' HO_5.out).2.1); rintro e w34 ⟨rfl, hb⟩; refine ⟨_, rfl, ?_⟩; replace HO_5 := Aside0.mk (Kd.S_below (by (with_reducible repeat (first | apply Kd.S_alloc | apply Kd.S_drewN | apply Kd.S_drew)); exact (Kd.S_mono (Kd.S_far (p := ⟨gb136, 1, none⟩) (Kd.S_far (p := ⟨gb136, 0, none⟩) (Kd.S_mono HO_5.out (fun k_ hk => (⟨hk, hk.2⟩ : _ ∧ k_ ≠ gb136))) (fun _ hk => hk.2) (.int .i64 0)) (fun _ hk => hk.2) (.slice none 0 0)) (fun _ h_ => h_.1))) hb); replace BK134 := Aside0.mk (blk_below (g := gb134) (o := .cells #[.int .i64 ((rd_T47 l0 x18_1).f0), .int .i64 ((rd_T47 l0 x18_1).f1), .int .i64 ((rd_T47 l0 x18_1).f2), .int .i64 ((rd_T47 l0 x18_1).f3)] 47 (0, 0)) (by (with_reducible repeat (first | refine blk_drewN ?_ _ | refine blk_drew ?_ | refine blk_alloc ?_ _)); refine blk_far ?_ NB134_136.out _; (with_reducible repeat (first | refine blk_drewN ?_ _ | refine blk_drew ?_ | refine blk_alloc ?_ _)); refine blk_far ?_ NB134_136.out _; (with_reducible repeat (first | refine blk_drewN ?_ _ | refine blk_drew ?_ | refine blk_alloc ?_ _)); exact BK134.out) hb); replace BK136 := Aside0.mk (blk_below (g := gb136) (o := .cells #[.int .i64 0, .slice none 0 0] 58 (0, 0)) (by (with_reducible repeat (first | refine blk_drewN ?_ _ | refine blk_drew ?_ | refine blk_alloc ?_ _)); refine blk_put (cs := #[.int .i64 0, .slice none 0 0]) ?_ 1 _ rfl; (with_reducible repeat (first | refine blk_drewN ?_ _ | refine blk_drew ?_ | refine blk_alloc ?_ _)); refine blk_put (cs := #[.int .i64 0, .slice none 0 0]) ?_ 0 _ rfl; (with_reducible repeat (first | refine blk_drewN ?_ _ | refine blk_drew ?_ | refine blk_alloc ?_ _)); exact BK136.out) hb); replace HB := bS HB hb; (try clear hb); have hcz35_0 := bc0 BK134; have hcz35_1 := bc1 BK134; have hcz35_2 := bc2 BK134; have hcz35_3 := bc3 BK134; have hfz35_0 := bf BK134 0; have hfz35_1 := bf BK134 1; have hfz35_2 := bf BK134 2; have hfz35_3 := bf BK134 3))
       go_loopg [32] k1 (fun kq v32 w' => ∃ (x32_2 : Int) (x137001_2 : List Int) (u137001 : Value), v32 = .int .i64 x32_2 ∧ Aside0 (impl_MakeMessage.l1 kq l0 a1 x5_1 x18_1 l0 (l0.length : Int) x18_1 t135 x32_2 0 x137001_2 = some r) ∧ Aside0 (kq ≤ k1) ∧ Aside0 (Kd.S k58 58 w' w.heap.size (fun k_ => some k_ ≠ (u137001 : Value).ownBlock ∧ k_ ≠ gb136) (.slice Ao33 x5_1.length co33) x5_1) ∧ Aside0 (Kd.R (Kd.int .i64) 3 w' w.heap.size (fun _ => True) u137001 x137001_2) ∧ Aside0 (w'.heap[gb134]? = some (.cells #[.int .i64 ((rd_T47 l0 x18_1).f0), .int .i64 ((rd_T47 l0 x18_1).f1), .int .i64 ((rd_T47 l0 x18_1).f2), .int .i64 ((rd_T47 l0 x18_1).f3)] 47 (0, 0))) ∧ Aside0 (w'.heap[gb136]? = some (.cells #[.int .i64 0, u137001] 58 (0, 0))) ∧ Aside0 (Below w.heap.size w w'))
       case atStart => exact ⟨(0), (([] : List Int)), (.slice none 0 0), zF, H', ⟨Nat.le_refl _⟩, ⟨by (with_reducible repeat (first | apply Kd.S_alloc | apply Kd.S_drewN | apply Kd.S_drew)); exact Kd.S_mono HO_5.out (fun _ hk => ⟨(by simp [Value.ownBlock]), hk.2⟩)⟩, ⟨by first | exact Kd.R_nil _ _ _ _ _ | exact Kd.N_nil _ _ _ _ _ | exact Kd.V_nil _ _ _ _ _ | exact Kd.Q_nil _ _ _ _ _ | exact Kd.S_nil _ _ _ _ _⟩, ⟨zK BK134⟩, ⟨zK BK136⟩, ⟨zB HB⟩⟩
       case round =>
        clear H'
        try clear c1
        try clear p1
        try clear q1
        try clear hx1
        try clear c2
        try clear p2
        try clear c3
        try clear c4
        try clear p6
        try clear c8
        try clear c8b0
        try clear c9
        try clear c9b0
        try clear c10
        try clear c10b0
        try clear c13
        try clear p13
        try clear q13
        try clear hx13
        try clear c14
        try clear c14b0
        try clear c14b1
        try clear c15
        try clear c17
        try clear c20
        try clear c23
        try clear c31
        try clear hcz17_0
        try clear hcz17_1
        try clear hcz17_2
        try clear hcz17_3
        try clear hcz21_0
        try clear hcz21_1
        try clear hcz24_0
        try clear hcz24_1
        try clear hcz24_2
        try clear hcz24_3
        try clear hcz25_0
        try clear hcz25_1
        try clear hcz28_0
        try clear hcz28_1
        try clear hcz28_2
        try clear hcz28_3
        try clear hcz32_0
        try clear hcz32_1
        try clear hcz35_0
        try clear hcz35_1
        try clear hcz35_2
        try clear hcz35_3
        try clear hfz17_0
        try clear hfz17_1
        try clear hfz17_2
        try clear hfz17_3
        try clear hfz21_0
        try clear hfz21_1
        try clear hfz24_0
        try clear hfz24_1
        try clear hfz24_2
        try clear hfz24_3
        try clear hfz25_0
        try clear hfz25_1
        try clear hfz28_0
        try clear hfz28_1
        try clear hfz28_2
        try clear hfz28_3
        try clear hfz32_0
        try clear hfz32_1
        try clear hfz35_0
        try clear hfz35_1
        try clear hfz35_2
        try clear hfz35_3
        try clear hx133_0
        try clear hx133_1
        try clear hx133_2
        try clear hx133_3
        try clear p133
        try clear p2
        try clear q133
        obtain ⟨x32_2, x137001_2, u137001, rfl, HA, HK2, HO_5, HO_137001, BK134, BK136, HB⟩ := hrel
        cases gk with
        | zero => exact absurd HA.out (by simp [impl_MakeMessage.l1])
        | succ k2 =>
         have H := HA.out
         clear HA
         simp only [impl_MakeMessage.l1] at H
         by_cases c36 : x32_2 < t135
         ·rw [if_pos c36] at H
          have c36b0 : decide (x32_2 < t135) = true := decide_eq_true c36
          clear c36
          obtain ⟨t141, A37, H⟩ := bindS H
          obtain ⟨c38, H⟩ := ifS H
          have LMc38 := Aside0.mk c38
          clear c38
          obtain ⟨y142, hy142⟩ : ∃ y_ : List Int, y_ = (x137001_2 ++ [t141]) := ⟨_, rfl⟩
          replace H : (impl_MakeMessage.l1 k2 l0 a1 x5_1 x18_1 l0 (l0.length : Int) x18_1 t135 (wrap64 (x32_2 + 1)) 0 y142) = some r := by first | (rw [hy142]; with_reducible exact H) | (have H2_ := (Option.bind_some _ _).symm.trans H; rw [hy142]; with_reducible exact H2_) | (have H2_ := (Option.bind_some _ _).symm.trans H; with_reducible exact H2_) | with_reducible exact H | (rw [hy142]; exact H) | exact H
          have Ny142 := Aside0.mk hy142
          clear hy142
          have H' := Aside0.mk H
          clear H
          try go_wp2
          replace HO_5 := Aside0.mk (Kd.S_drew HO_5.out)
          replace HO_137001 := Aside0.mk (Kd.R_drew HO_137001.out)
          replace BK134 := Aside0.mk (blk_drew BK134.out)
          replace BK136 := Aside0.mk (blk_drew BK136.out)
          replace HB := Aside0.mk (below_drew1 HB.out)
          refine start_ (n := 13) (S := fun w' => w'.cell? ⟨gb136, 0, none⟩ = some (.int .i64 0) ∧ w'.cell? ⟨gb136, 1, none⟩ = some (u137001)) (ds := [12]) (bm 13 0) (by kernel_rfl) rfl (bm0 _) ⟨bc0 BK136, bc1 BK136⟩ (fun hHeld => ?_); refine with_tabW impl_MakeMessage.tab11 impl_MakeMessage.bits11 (fun HT_ HW_ => ?_)
          generalize wr.drew = w39 at HO_5 HO_137001 BK134 BK136 HB hHeld ⊢
          refine pU 0 (some 35) (bm 13 1) HT_ rfl rfl ?_
          refine pU 2 (some 37) (bm 13 5) HT_ rfl rfl ?_
          refine pU 3 (some 38) (bm 13 13) HT_ rfl rfl ?_
          refine pU 4 (some 39) (bm 13 29) HT_ rfl rfl ?_
          refine pU 5 (some 40) (bm 13 61) HT_ rfl rfl ?_
          refine pU 6 (some 41) (bm 13 125) HT_ rfl rfl ?_
          refine pU 7 (some 42) (bm 13 253) HT_ rfl rfl ?_
          refine tU 1 (some 36) (bm 13 255) HT_ HW_ rfl rfl hHeld ?_
          refine one_ (i := 8) (N := some 43) (bm 13 511) rfl rfl (one_of HT_.out (by kernel_rfl)) (by decide) (fun K hK => ?_)
          refine goes_ Try.func41 (by kernel_rfl) rfl #[.int .i64 a1, .int .i64 (wrap64 ((wrap64 ((wrap64 (16 * x18_1)) + x32_2)) + 1)), .int .i64 100] (by rfl) rfl rfl zG ?_
          with_reducible refine (impl_PickOf.calls k2 a1 (wrap64 ((wrap64 ((wrap64 (16 * x18_1)) + x32_2)) + 1)) 100 t141 _ A37.out).mono ?_
          rintro e w40 ⟨rfl, hb⟩
          refine ⟨_, rfl, ?_⟩
          replace HO_5 := Aside0.mk (Kd.S_below (zS HO_5) hb)
          replace HO_137001 := Aside0.mk (Kd.R_below (zR HO_137001) hb)
          replace BK134 := kB BK134 hb
          replace BK136 := kB BK136 hb
          replace HB := bS HB hb
          (try clear hb)
          (try clear hb2)
          (try clear hk)
          (try clear hi)
          refine hK.out _ _ ⟨bc0 BK136, bc1 BK136⟩ (fun hHeld => ?_)
          clear hK K
          refine norm_ (a' := ?_) ?_ ?_
          rotate_left
          ·show Act.put _ (some 43) _ = _
           simp only [Act.put, List.setIfInBounds_toArray, List.set_cons_zero, List.set_cons_succ, i64_w, i32_w]
           rfl
          refine one_ (i := 9) (N := some 44) (bm 13 1023) rfl rfl (one_of HT_.out (by kernel_rfl)) (by decide) (fun K hK => ?_)
          refine value_ (w1 := ?_) (v := ?_) (by rfl) rfl ?_ ?_
          rotate_left 2
          ·go_simp
           constructor
           ·rfl
           ·rfl
          refine hK.out _ _ ⟨(blk_cell (blk_alloc BK136.out _) 0).trans rfl, (blk_cell (blk_alloc BK136.out _) 1).trans rfl⟩ (fun hHeld => ?_)
          clear hK K
          refine norm_ (a' := ?_) ?_ ?_
          rotate_left
          ·show Act.put _ (some 44) _ = _
           simp only [Act.put, List.setIfInBounds_toArray, List.set_cons_zero, List.set_cons_succ, i64_w, i32_w]
           rfl
          refine one_ (i := 10) (N := some 45) (bm 13 2047) rfl rfl (one_of HT_.out (by kernel_rfl)) (by decide) (fun K hK => ?_)
          refine Kd.R_append_step (Kd.int .i64) (w0 := w) w.heap.size (by rfl) (.tmp 36) (.tmp 44) 37 3 (.int .i64 0) 8 rfl Try.underlying37 info3 rfl (by decide) (by omega) u137001 x137001_2 t141 [.int .i64 t141] (fun _ => True) (fun _ => False) rfl rfl ?aP (fun _ hk => hk.elim) ?aF ?aO ?aB ?aS ?aL ?_
          (case aP => exact rfl)
          (case aB => exact (zB HB))
          (case aF => exact (fun _ _ => trivial))
          (case aO => exact (zR HO_137001))
          (case aS => exact (below_size (zB HB)))
          (case aL => have := LMc38.out; omega)
          intro v143 w41 ho hb hg hat
          rw [← Ny142.out] at ho
          replace HO_5 := Aside0.mk (Kd.S_after (ok := (fun k_ => k_ ≠ gb136)) (by (with_reducible repeat (first | apply Kd.S_alloc | apply Kd.S_drewN | apply Kd.S_drew)); exact Kd.S_mono HO_5.out (fun _ hk => ⟨hk.2, hk.1⟩)) hg hat)
          replace BK134 := Aside0.mk (blk_grown (g := gb134) (o := .cells #[.int .i64 ((rd_T47 l0 x18_1).f0), .int .i64 ((rd_T47 l0 x18_1).f1), .int .i64 ((rd_T47 l0 x18_1).f2), .int .i64 ((rd_T47 l0 x18_1).f3)] 47 (0, 0)) (zK BK134) hg (Kd.R_ne HO_137001.out BK134.out (by decide)))
          replace BK136 := Aside0.mk (blk_grown (g := gb136) (o := .cells #[.int .i64 0, u137001] 58 (0, 0)) (zK BK136) hg (Kd.R_ne HO_137001.out BK136.out (by decide)))
          replace HB := Aside0.mk (hb)
          have HO144 := Aside0.mk (ho)
          clear HO_137001
          clear ho hb hg hat
          obtain ⟨Ao42, co42, eo42⟩ := Kd.R_slice HO144.out
          (first | subst eo42 | (injection eo42 with f1_ f2_ f3_; have f4_ := f1_.symm; have f5_ := f3_.symm; clear f1_ f2_ f3_; subst f4_; subst f5_))
          refine hK.out _ _ ⟨bc0 BK136, bc1 BK136⟩ (fun hHeld => ?_)
          clear hK K
          refine norm_ (a' := ?_) ?_ ?_
          rotate_left
          ·show Act.put _ (some 45) _ = _
           simp only [Act.put, List.setIfInBounds_toArray, List.set_cons_zero, List.set_cons_succ, i64_w, i32_w]
           rfl
          refine pU 11 (some 46) (bm 13 4095) HT_ rfl rfl ?_
          refine last_ (i := 12) (N := none) (bm 13 8191) rfl rfl (one_of HT_.out (by kernel_rfl)) (by decide) (fun K hK => ?_)
          have hs43 : w41.cell? ⟨gb136, 1, none⟩ = some (u137001) := bc1 BK136
          have hfs43 := bf BK136 1
          have hns43_0 := NB134_136.out
          have hms43_0 := NB136_134.out
          refine skip_ (w1 := ?_) (by rfl) rfl ?_ ?_
          rotate_left
          ·go_simp
           rfl
          refine hK.out _ _ ?_
          clear hK K
          refine done_ (done_of HT_.out (by kernel_rfl)) ?_
          try clear hHeld
          try go_wp2
          go_roundg k2
          case measure => have := HK1.out; have := HK2.out; omega
          case rel => exact ⟨(wrap64 (x32_2 + 1)), (y142), (.slice Ao42 y142.length co42), zF, H', ⟨by have := HK1.out; have := HK2.out; omega⟩, ⟨by (with_reducible repeat (first | apply Kd.S_alloc | apply Kd.S_drewN | apply Kd.S_drew)); exact Kd.S_mono (Kd.S_far (p := ⟨gb136, 1, none⟩) (Kd.S_mono HO_5.out (fun k_ hk => (⟨hk, hk.1⟩ : _ ∧ k_ ≠ gb136))) (fun _ hk => hk.2) (.slice Ao42 y142.length co42)) (fun _ hk => ⟨hk.1.2, hk.1.1⟩)⟩, ⟨by (with_reducible repeat (first | apply Kd.R_alloc | apply Kd.R_drewN | apply Kd.R_drew)); exact Kd.R_mono (Kd.R_far (p := ⟨gb136, 1, none⟩) (Kd.R_types HO144.out BK136.out (by decide)) (fun _ hk => hk.2) (.slice Ao42 y142.length co42)) (fun _ hk => trivial)⟩, ⟨by (with_reducible repeat (first | refine blk_drewN ?_ _ | refine blk_drew ?_ | refine blk_alloc ?_ _)); refine blk_far ?_ NB134_136.out _; (with_reducible repeat (first | refine blk_drewN ?_ _ | refine blk_drew ?_ | refine blk_alloc ?_ _)); exact BK134.out⟩, ⟨by (with_reducible repeat (first | refine blk_drewN ?_ _ | refine blk_drew ?_ | refine blk_alloc ?_ _)); refine blk_put (cs := #[.int .i64 0, u137001]) ?_ 1 _ rfl; (with_reducible repeat (first | refine blk_drewN ?_ _ | refine blk_drew ?_ | refine blk_alloc ?_ _)); exact BK136.out⟩, ⟨zB HB⟩⟩
         ·rw [if_neg c36] at H
          have c36b0 : decide (x32_2 < t135) = false := decide_eq_false c36
          clear c36
          obtain ⟨c44, H⟩ := ifS H
          have LMc44 := Aside0.mk c44
          clear c44
          obtain ⟨y145, hy145⟩ : ∃ y_ : List (S58), y_ = (x5_1 ++ [(⟨0, x137001_2⟩ : S58)]) := ⟨_, rfl⟩
          replace H : (impl_MakeMessage.l0 k2 l0 a1 y145 l0 (l0.length : Int) (wrap64 (x18_1 + 1))) = some r := by first | (rw [hy145]; with_reducible exact H) | (have H2_ := (Option.bind_some _ _).symm.trans H; rw [hy145]; with_reducible exact H2_) | (have H2_ := (Option.bind_some _ _).symm.trans H; with_reducible exact H2_) | with_reducible exact H | (rw [hy145]; exact H) | exact H
          have Ny145 := Aside0.mk hy145
          clear hy145
          have H' := Aside0.mk H
          clear H
          have hnb45 := NB136_134.out
          have hnc45 := NB134_136.out
          have hcz46_0 := bc0 BK136
          have hcz46_1 := bc1 BK136
          have hfz46_0 := bf BK136 0
          have hfz46_1 := bf BK136 1
          obtain ⟨Ao48, co48, eo48⟩ := Kd.R_slice HO_137001.out
          subst eo48
          go_wp2_with (first | ((with_reducible refine gate_builtin (b := .append) (xs := #[.tmp 60, .tmp 62]) rfl ?_); at_builtin; refine Kd.S_append k58 (w0 := w) w.heap.size rfl (.tmp 60) (.tmp 62) 39 58 (.agg #[(.int .i64 0), (.slice none 0 0)]) 32 rfl Try.underlying39 info58 rfl (by decide) (by omega) (.slice Ao33 x5_1.length co33) x5_1 (⟨0, x137001_2⟩ : S58) [.int .i64 0, .slice Ao48 x137001_2.length co48] (fun k_ => k_ ≠ gb136) (fun k_ => some k_ = (.slice Ao48 x137001_2.length co48 : Value).ownBlock) rfl rfl ?aP (fun k_ hk_ => ((Kd.R_mono (ok' := fun k_ => ((fun k_ => k_ ≠ gb136)) k_ ∧ some k_ ≠ (.slice Ao33 x5_1.length co33 : Value).ownBlock) (Kd.R_types (Kd.R_apart' (HO_137001.out) (Kd.S_typed HO_5.out) (by decide)) BK136.out (by decide)) (fun k_ hk => ⟨hk.2, hk.1.2⟩))).1 k_ hk_.symm) ?aF ?aO ?aB ?aS ?aL ?_; (case aP => exact k58_mkM _ _ _ (⟨0, x137001_2⟩ : S58) (Kd.R_mono (Kd.R_tight rfl (Kd.R_mono (ok' := fun k_ => ((fun k_ => k_ ≠ gb136)) k_ ∧ some k_ ≠ (.slice Ao33 x5_1.length co33 : Value).ownBlock) (Kd.R_types (Kd.R_apart' (HO_137001.out) (Kd.S_typed HO_5.out) (by decide)) BK136.out (by decide)) (fun k_ hk => ⟨hk.2, hk.1.2⟩))) (fun _ h_ => h_))); (case aB => exact (zB HB)); (case aF => exact (fun k_ hk => Kd.freshB (g := gb136) (o := .cells #[.int .i64 0, .slice Ao48 x137001_2.length co48] 58 (0, 0)) (zK BK136) k_ hk)); (case aO => exact (by (with_reducible repeat (first | apply Kd.S_alloc | apply Kd.S_drewN | apply Kd.S_drew)); exact Kd.S_mono HO_5.out (fun k_ hk => ⟨hk.2, fun e_ => hk.1 e_⟩))); (case aS => exact (below_size (zB HB))); (case aL => have := LMc44.out; omega); intro v146 w47 ho hb hg hat; rw [← Ny145.out] at ho; replace BK134 := Aside0.mk (blk_grown (g := gb134) (o := .cells #[.int .i64 ((rd_T47 l0 x18_1).f0), .int .i64 ((rd_T47 l0 x18_1).f1), .int .i64 ((rd_T47 l0 x18_1).f2), .int .i64 ((rd_T47 l0 x18_1).f3)] 47 (0, 0)) (zK BK134) hg (Kd.S_ne HO_5.out BK134.out (by decide))); replace BK136 := Aside0.mk (blk_grown (g := gb136) (o := .cells #[.int .i64 0, .slice Ao48 x137001_2.length co48] 58 (0, 0)) (zK BK136) hg (Kd.S_away HO_5.out (fun _ hk => hk.2))); replace HB := Aside0.mk (hb); have HO147 := Aside0.mk (ho); clear HO_5 HO_137001; clear ho hb hg hat))
          go_roundg k2
          case measure => have := HK1.out; have := HK2.out; omega
          case rel => exact ⟨(y145), (wrap64 (x18_1 + 1)), zF, H', ⟨by have := HK1.out; have := HK2.out; omega⟩, ⟨by (with_reducible repeat (first | apply Kd.S_alloc | apply Kd.S_drewN | apply Kd.S_drew)); exact Kd.S_mono HO147.out (fun _ hk => trivial)⟩, ⟨zB HB⟩⟩
     ·replace c13 := Bool.eq_false_iff.mpr c13
      subst c13
      have H1 : (if x5_1.length < 4398046511104 then (impl_MakeMessage.l0 k1 l0 a1 (x5_1 ++ [(⟨0, ([] : List Int)⟩ : S58)]) l0 (l0.length : Int) (wrap64 (x18_1 + 1))) else (none)) = some r := by rw [if_neg (show ¬ (false = true) by decide)] at H; exact H
      clear H
      have H := H1
      clear H1
      obtain ⟨c49, H⟩ := ifS H
      have LMc49 := Aside0.mk c49
      clear c49
      obtain ⟨y148, hy148⟩ : ∃ y_ : List (S58), y_ = (x5_1 ++ [(⟨0, ([] : List Int)⟩ : S58)]) := ⟨_, rfl⟩
      replace H : (impl_MakeMessage.l0 k1 l0 a1 y148 l0 (l0.length : Int) (wrap64 (x18_1 + 1))) = some r := by first | (rw [hy148]; with_reducible exact H) | (have H2_ := (Option.bind_some _ _).symm.trans H; rw [hy148]; with_reducible exact H2_) | (have H2_ := (Option.bind_some _ _).symm.trans H; with_reducible exact H2_) | with_reducible exact H | (rw [hy148]; exact H) | exact H
      have Ny148 := Aside0.mk hy148
      clear hy148
      have H' := Aside0.mk H
      clear H
      have p133 : 0 ≤ (x18_1 : Int) := zD
      have q133 : x18_1 < (l0.length : Int) := zD
      obtain ⟨ad133, e133, hx133_0, hx133_1, hx133_2, hx133_3⟩ := at_T47 HR0.out x18_1 p133 q133
      cases e133
      replace hx133_0 := hL HB hx133_0
      replace hx133_1 := hL HB hx133_1
      replace hx133_2 := hL HB hx133_2
      replace hx133_3 := hL HB hx133_3
      replace p133 := eq_true p133
      replace q133 := eq_true q133
      go_wp2_with (first | ((with_reducible refine gate_dst (N := 7) rfl ?_); refine box_event ?hg (N := 7) ?hd (cs := #[.int .i64 0, .int .i64 0, .int .i64 0, .int .i64 0]) (t := 47) ?hr ?_; (case hd => rfl); (case hg => rfl); (case hr => first | (go_simp; done) | (go_simp; rfl)); intro gb134 hg w50 hbox hb; replace HO_5 := Aside0.mk (Kd.S_below (zS HO_5) hb); have BK134 := Aside0.mk (hbox); have GW134 := gS HB hg; have GE134 := gS HB hg; replace HB := bS HB hb; clear hb hbox hg; have hcz51_0 := bc0 BK134; have hcz51_1 := bc1 BK134; have hcz51_2 := bc2 BK134; have hcz51_3 := bc3 BK134; have hfz51_0 := bf BK134 0; have hfz51_1 := bf BK134 1; have hfz51_2 := bf BK134 2; have hfz51_3 := bf BK134 3) | ((with_reducible refine gate_callee (f := 41) rfl ?_); refine goesL_ (some 30) rfl rfl Try.func41 (by kernel_rfl) rfl #[.int .i64 a1, .int .i64 (wrap64 (16 * x18_1)), .int .i64 (wrap64 (((rd_T47 l0 x18_1).f1) + 1))] rfl zG ?_; (with_reducible refine (impl_PickOf.calls k1 a1 (wrap64 (16 * x18_1)) (wrap64 (((rd_T47 l0 x18_1).f1) + 1)) t135 _ A11.out).mono ?_); rintro e w52 ⟨rfl, hb⟩; refine ⟨_, rfl, ?_⟩; replace HO_5 := Aside0.mk (Kd.S_below (by (with_reducible repeat (first | apply Kd.S_alloc | apply Kd.S_drewN | apply Kd.S_drew)); exact (Kd.S_mono (Kd.S_far (p := ⟨gb134, 3, none⟩) (Kd.S_far (p := ⟨gb134, 2, none⟩) (Kd.S_far (p := ⟨gb134, 1, none⟩) (Kd.S_far (p := ⟨gb134, 0, none⟩) (Kd.S_types HO_5.out BK134.out (by decide)) (fun _ hk => hk.2) (.int .i64 ((rd_T47 l0 x18_1).f0))) (fun _ hk => hk.2) (.int .i64 ((rd_T47 l0 x18_1).f1))) (fun _ hk => hk.2) (.int .i64 ((rd_T47 l0 x18_1).f2))) (fun _ hk => hk.2) (.int .i64 ((rd_T47 l0 x18_1).f3))) (fun _ h_ => h_.1))) hb); replace BK134 := Aside0.mk (blk_below (g := gb134) (o := .cells #[.int .i64 ((rd_T47 l0 x18_1).f0), .int .i64 ((rd_T47 l0 x18_1).f1), .int .i64 ((rd_T47 l0 x18_1).f2), .int .i64 ((rd_T47 l0 x18_1).f3)] 47 (0, 0)) (by (with_reducible repeat (first | refine blk_drewN ?_ _ | refine blk_drew ?_ | refine blk_alloc ?_ _)); refine blk_put (cs := #[.int .i64 ((rd_T47 l0 x18_1).f0), .int .i64 ((rd_T47 l0 x18_1).f1), .int .i64 ((rd_T47 l0 x18_1).f2), .int .i64 0]) ?_ 3 _ rfl; (with_reducible repeat (first | refine blk_drewN ?_ _ | refine blk_drew ?_ | refine blk_alloc ?_ _)); refine blk_put (cs := #[.int .i64 ((rd_T47 l0 x18_1).f0), .int .i64 ((rd_T47 l0 x18_1).f1), .int .i64 0, .int .i64 0]) ?_ 2 _ rfl; (with_reducible repeat (first | refine blk_drewN ?_ _ | refine blk_drew ?_ | refine blk_alloc ?_ _)); refine blk_put (cs := #[.int .i64 ((rd_T47 l0 x18_1).f0), .int .i64 0, .int .i64 0, .int .i64 0]) ?_ 1 _ rfl; (with_reducible repeat (first | refine blk_drewN ?_ _ | refine blk_drew ?_ | refine blk_alloc ?_ _)); refine blk_put (cs := #[.int .i64 0, .int .i64 0, .int .i64 0, .int .i64 0]) ?_ 0 _ rfl; (with_reducible repeat (first | refine blk_drewN ?_ _ | refine blk_drew ?_ | refine blk_alloc ?_ _)); exact BK134.out) hb); replace HB := bS HB hb; (try clear hb)) | ((with_reducible refine gate_dst (N := 8) rfl ?_); refine box_event ?hg (N := 8) ?hd (cs := #[.int .i64 0, .slice none 0 0]) (t := 58) ?hr ?_; (case hd => rfl); (case hg => rfl); (case hr => first | (go_simp; done) | (go_simp; rfl)); intro gb136 hg w53 hbox hb; replace HO_5 := Aside0.mk (Kd.S_below (Kd.S_elderB (zS HO_5) gb136 (Nat.le_of_eq hg.symm)) hb); have BK136 := Aside0.mk (hbox); have GW136 := gS HB hg; have GE136 := gS HB hg; replace HB := bS HB hb; have NB134_136 := nL BK134 hg; have NB136_134 := nR BK134 hg; replace BK134 := kB BK134 hb; clear hb hbox hg; have hnb54 := NB136_134.out; have hnc54 := NB134_136.out; have hcz55_0 := bc0 BK136; have hcz55_1 := bc1 BK136; have hfz55_0 := bf BK136 0; have hfz55_1 := bf BK136 1; obtain ⟨Ao56, co56, eo56⟩ := Kd.S_slice HO_5.out; subst eo56) | ((with_reducible refine gate_callee (f := 42) rfl ?_); refine goesL_ (some 52) rfl rfl Try.func42 (by kernel_rfl) rfl #[.slice (some ad133) l0.length c0, .slice Ao56 x5_1.length co56, .int .i64 x18_1] rfl zG ?_; (with_reducible refine (impl_IsThere.calls _ _ l0 _ _ x5_1 x18_1 false _ ?side1 ?side2 ?side3 ?side4 A12.out).mono ?_); (case side1 => exact Kd.C_below HR0.out (zB HB)); (case side2 => exact HC0.out); (case side3 => refine (Kd.S_reads' (e := 58) (base := w.heap.size) (ok := fun k_ => (True ∧ k_ ≠ gb136)) (n := x5_1.length) (c := co56) ?_).2.2; exact (by (with_reducible repeat (first | apply Kd.S_alloc | apply Kd.S_drewN | apply Kd.S_drew)); exact (Kd.S_mono (Kd.S_far (p := ⟨gb136, 1, none⟩) (Kd.S_far (p := ⟨gb136, 0, none⟩) (Kd.S_mono HO_5.out (fun k_ hk => (⟨hk, hk.2⟩ : _ ∧ k_ ≠ gb136))) (fun _ hk => hk.2) (.int .i64 0)) (fun _ hk => hk.2) (.slice none 0 0)) (fun _ h_ => h_.1)))); (case side4 => exact (Kd.S_reads' HO_5.out).2.1); rintro e w57 ⟨rfl, hb⟩; refine ⟨_, rfl, ?_⟩; replace HO_5 := Aside0.mk (Kd.S_below (by (with_reducible repeat (first | apply Kd.S_alloc | apply Kd.S_drewN | apply Kd.S_drew)); exact (Kd.S_mono (Kd.S_far (p := ⟨gb136, 1, none⟩) (Kd.S_far (p := ⟨gb136, 0, none⟩) (Kd.S_mono HO_5.out (fun k_ hk => (⟨hk, hk.2⟩ : _ ∧ k_ ≠ gb136))) (fun _ hk => hk.2) (.int .i64 0)) (fun _ hk => hk.2) (.slice none 0 0)) (fun _ h_ => h_.1))) hb); replace BK134 := Aside0.mk (blk_below (g := gb134) (o := .cells #[.int .i64 ((rd_T47 l0 x18_1).f0), .int .i64 ((rd_T47 l0 x18_1).f1), .int .i64 ((rd_T47 l0 x18_1).f2), .int .i64 ((rd_T47 l0 x18_1).f3)] 47 (0, 0)) (by (with_reducible repeat (first | refine blk_drewN ?_ _ | refine blk_drew ?_ | refine blk_alloc ?_ _)); refine blk_far ?_ NB134_136.out _; (with_reducible repeat (first | refine blk_drewN ?_ _ | refine blk_drew ?_ | refine blk_alloc ?_ _)); refine blk_far ?_ NB134_136.out _; (with_reducible repeat (first | refine blk_drewN ?_ _ | refine blk_drew ?_ | refine blk_alloc ?_ _)); exact BK134.out) hb); replace BK136 := Aside0.mk (blk_below (g := gb136) (o := .cells #[.int .i64 0, .slice none 0 0] 58 (0, 0)) (by (with_reducible repeat (first | refine blk_drewN ?_ _ | refine blk_drew ?_ | refine blk_alloc ?_ _)); refine blk_put (cs := #[.int .i64 0, .slice none 0 0]) ?_ 1 _ rfl; (with_reducible repeat (first | refine blk_drewN ?_ _ | refine blk_drew ?_ | refine blk_alloc ?_ _)); refine blk_put (cs := #[.int .i64 0, .slice none 0 0]) ?_ 0 _ rfl; (with_reducible repeat (first | refine blk_drewN ?_ _ | refine blk_drew ?_ | refine blk_alloc ?_ _)); exact BK136.out) hb); replace HB := bS HB hb; (try clear hb); have hcz58_0 := bc0 BK136; have hcz58_1 := bc1 BK136; have hfz58_0 := bf BK136 0; have hfz58_1 := bf BK136 1) | ((with_reducible refine gate_builtin (b := .append) (xs := #[.tmp 60, .tmp 62]) rfl ?_); at_builtin; refine Kd.S_append k58 (w0 := w) w.heap.size rfl (.tmp 60) (.tmp 62) 39 58 (.agg #[(.int .i64 0), (.slice none 0 0)]) 32 rfl Try.underlying39 info58 rfl (by decide) (by omega) (.slice Ao56 x5_1.length co56) x5_1 (⟨0, ([] : List Int)⟩ : S58) [.int .i64 0, .slice none 0 0] (fun k_ => k_ ≠ gb136) (fun _ => False) rfl rfl ?aP (fun k_ hk_ => hk_.elim) ?aF ?aO ?aB ?aS ?aL ?_; (case aP => exact k58_mkM _ _ _ (⟨0, ([] : List Int)⟩ : S58) (Kd.R_nil _ _ _ _ _)); (case aB => exact (zB HB)); (case aF => exact (fun k_ hk => Kd.freshB (g := gb136) (o := .cells #[.int .i64 0, .slice none 0 0] 58 (0, 0)) (zK BK136) k_ hk)); (case aO => exact (by (with_reducible repeat (first | apply Kd.S_alloc | apply Kd.S_drewN | apply Kd.S_drew)); exact Kd.S_mono HO_5.out (fun k_ hk => ⟨hk.2, fun e_ => e_⟩))); (case aS => exact (below_size (zB HB))); (case aL => have := LMc49.out; omega); intro v149 w59 ho hb hg hat; rw [← Ny148.out] at ho; replace BK134 := Aside0.mk (blk_grown (g := gb134) (o := .cells #[.int .i64 ((rd_T47 l0 x18_1).f0), .int .i64 ((rd_T47 l0 x18_1).f1), .int .i64 ((rd_T47 l0 x18_1).f2), .int .i64 ((rd_T47 l0 x18_1).f3)] 47 (0, 0)) (zK BK134) hg (Kd.S_ne HO_5.out BK134.out (by decide))); replace BK136 := Aside0.mk (blk_grown (g := gb136) (o := .cells #[.int .i64 0, .slice none 0 0] 58 (0, 0)) (zK BK136) hg (Kd.S_away HO_5.out (fun _ hk => hk.2))); replace HB := Aside0.mk (hb); have HO150 := Aside0.mk (ho); clear HO_5; clear ho hb hg hat))
      go_roundg k1
      case measure => have := HK1.out; omega
      case rel => exact ⟨(y148), (wrap64 (x18_1 + 1)), zF, H', ⟨by have := HK1.out; omega⟩, ⟨by (with_reducible repeat (first | apply Kd.S_alloc | apply Kd.S_drewN | apply Kd.S_drew)); exact Kd.S_mono HO150.out (fun _ hk => trivial)⟩, ⟨zB HB⟩⟩
    ·rw [if_neg c8] at H
     have c8b0 : decide (x18_1 < (l0.length : Int)) = false := decide_eq_false c8
     clear c8
     obtain rfl := Option.some.inj H
     go_wp2
     go_ret
     exact ⟨_, zE, by (with_reducible repeat (first | apply Kd.S_alloc | apply Kd.S_drewN | apply Kd.S_drew)); exact HO_5.out, zB HB⟩
 ·replace c4 := Bool.eq_false_iff.mpr c4
  subst c4
  have H1 : (some y129) = some r := by rw [if_neg (show ¬ (false = true) by decide)] at H; exact H
  clear H
  have H := H1
  clear H1
  obtain rfl := Option.some.inj H
  go_enter Try.func23, Try.ntmps23
  go_wp2_with (first | ((with_reducible refine gate_dst (N := 11) rfl ?_); refine Kd.S_lit k58 _ 58 ?hg (N := 11) ?hd (xs := ([] : List (S58))) (inner := []) (ok := fun _ => True) (okp := fun _ => True) ?hr ?hp (fun _ hk => hk) trivial (Below.refl _ _) (Nat.le_refl _) (by simp) ?_; (case hd => rfl); (case hg => rfl); (case hr => first | (go_simp; done) | (go_simp; rfl)); (case hp => exact (Reps.none _ _)); intro v130 w60 ho61 hb hg_ hnew_; clear hg_ hnew_; (first | rw [← Ny129.out] at ho61 | (simp only [Int.reduceToNat] at ho61; rw [← Ny129.out] at ho61)); have HO131 := Aside0.mk (Kd.S_lower ho61 (below_size (zB HB))); replace HB := bS HB hb; clear hb ho61) | ((with_reducible refine gate_callee (f := 17) rfl ?_); refine goesL_ (some 13) rfl rfl Try.func17 (by kernel_rfl) rfl #[.slice A0 l0.length c0] rfl zG ?_; (with_reducible refine (impl_IsFormat.calls k _ _ l0 false _ ?side1 ?side2 A3.out).mono ?_); (case side1 => exact cS HR0 HB); (case side2 => exact HC0.out); rintro e w62 ⟨rfl, hb⟩; refine ⟨_, rfl, ?_⟩; replace HO131 := Aside0.mk (Kd.S_below (zS HO131) hb); replace HB := bS HB hb; (try clear hb)))
  go_ret
  exact ⟨_, zE, by (with_reducible repeat (first | apply Kd.S_alloc | apply Kd.S_drewN | apply Kd.S_drew)); exact HO131.out, zB HB⟩

-- NOT PRINTED: function 72 (slices_IndexFunc_int_int)

-- NOT PRINTED: function 70 (slices_ContainsFunc_int_int)

/-! ### impl_areNumbers_any: functions 70 and 71 (by hand) -/
theorem impl_areNumbers_any.lit (x : Int)  (a1 : Int) (a2 : Int) (W : World)   {B1_ B2_ : Nat} (hB1_ : W.heap[B1_]? = some (.cells #[.int .i64 a1] 3 (0, 0))) (hB2_ : W.heap[B2_]? = some (.cells #[.int .i64 a2] 3 (0, 0))) :
  Calls Try.prog 71 #[.int .i64 x, .pointer (some ⟨B1_, 0, none⟩), .pointer (some ⟨B2_, 0, none⟩)] W fun e w' => e = .returned (.bool (!decide (a1 ≤ x ∧ x ≤ a2))) ∧ Below W.heap.size W w' := by
 have hcl1_0 : W.cell? ⟨B1_, 0, none⟩ = some (.int .i64 a1) := (blk_cell hB1_ 0).trans rfl
 have hbk1_ := blk_lt hB1_
 have hcl2_0 : W.cell? ⟨B2_, 0, none⟩ = some (.int .i64 a2) := (blk_cell hB2_ 0).trans rfl
 have hbk2_ := blk_lt hB2_
 have HX := Aside0.mk (fun W_ => impl_InRange.calls x a1 a2 (decide (a1 ≤ x ∧ x ≤ a2)) W_ (by unfold impl_InRange.f; by_cases q : a1 ≤ x <;> simp [q]))
 obtain ⟨b, hb⟩ : ∃ b : Bool, b = decide (a1 ≤ x ∧ x ≤ a2) := ⟨_, rfl⟩
 rw [← hb] at HX ⊢
 clear hb
 go_enter Try.func71, Try.ntmps71
 go_wp2_with (go_at_call 33; refine (HX.out _).mono ?_; rintro e w' ⟨rfl, ⟨nd, rfl⟩⟩)
 go_ret
 exact ⟨rfl, by repeat (first | exact Below.refl _ _ | apply below_alloc | apply pw_below_drewN | apply below_drew1)⟩
set_option maxHeartbeats 4000000 in
set_option maxRecDepth 100000 in
theorem impl_areNumbers_any.idx (A0 : Option Addr) (c0 : Nat) (l0 : List Int) (a1 : Int) (a2 : Int) (w : World) (hr0 : Kd.C (Kd.int .i64) w A0 l0.length l0) (hc0 : l0.length ≤ c0)  {B1_ B2_ : Nat} (hB1_ : w.heap[B1_]? = some (.cells #[.int .i64 a1] 3 (0, 0))) (hB2_ : w.heap[B2_]? = some (.cells #[.int .i64 a2] 3 (0, 0))) :
  Calls Try.prog 72 #[.slice A0 l0.length c0, .func (.func 71) #[] #[.pointer (some ⟨B1_, 0, none⟩), .pointer (some ⟨B2_, 0, none⟩)]] w fun e w' => e = .returned (.int .i64 (idxOf (fun x => !decide (a1 ≤ x ∧ x ≤ a2)) l0)) ∧ Below w.heap.size w w' := by
 have HL_ := Aside0.mk hr0.2.1
 have HR0 := Aside0.mk hr0
 have HhB1_ := Aside0.mk hB1_
 have HhB2_ := Aside0.mk hB2_
 obtain ⟨m_, hm_⟩ : ∃ m_ : Int, m_ = idxOf (fun x => !decide (a1 ≤ x ∧ x ≤ a2)) l0 := ⟨_, rfl⟩
 rw [← hm_]
 have HM_ := Aside0.mk hm_
 clear hr0 hc0 hm_ hB1_ hB2_
 go_enter Try.func72, Try.ntmps72
 go_wp2
 go_loopg [5, 8] l0.length (fun gg _ s8 wr => ∃ kk : Int, 0 ≤ kk ∧ kk ≤ l0.length ∧ l0.length - kk.toNat ≤ gg ∧ s8 = .int .i64 kk ∧ Aside0 (Below w.heap.size w wr) ∧ Aside0 (m_ = idxAt (fun x => !decide (a1 ≤ x ∧ x ≤ a2)) l0 kk))
 case atStart => exact ⟨0, by omega, by omega, by omega, rfl, ⟨Below.refl _ w⟩, ⟨by rw [HM_.out, idxAt_zero]⟩⟩
 case round =>
  obtain ⟨kk, h0, hkk, hg, rfl, BW, A_⟩ := hrel
  by_cases hlt : kk < (l0.length : Int)
  ·obtain ⟨ad, e_, hx0⟩ := Kd.at_int HR0.out kk h0 hlt
   cases e_
   replace hx0 := cell_later BW.out hx0
   have hlit := impl_areNumbers_any.lit (rd l0 kk)  a1 a2 wr  (blk_below HhB1_.out BW.out) (blk_below HhB2_.out BW.out)
   have HLIT := Aside0.mk hlit
   clear hlit 
   obtain ⟨b, hb⟩ : ∃ b : Bool, b = (fun x : Int => !decide (a1 ≤ x ∧ x ≤ a2)) (rd l0 kk) := ⟨_, rfl⟩
   have HQ := Aside0.mk hb
   replace HLIT : Aside0 (Calls Try.prog 71 #[.int .i64 (rd l0 kk), .pointer (some ⟨B1_, 0, none⟩), .pointer (some ⟨B2_, 0, none⟩)] wr fun e w' => e = .returned (.bool b) ∧ Below wr.heap.size wr w') := by rw [hb]; exact HLIT
   clear hb
   cases b with
   | true =>
    go_wp2_with (go_at_call 71; refine HLIT.out.mono ?_; rintro e w' ⟨rfl, hb'⟩)
    go_ret
    exact ⟨ret_int (by rw [A_.out]; exact (idxAt_hit (fun x => !decide (a1 ≤ x ∧ x ≤ a2)) l0 (0 : Int) kk h0 hlt HQ.out.symm).symm), below_trans BW.out hb'⟩
   | false =>
    go_wp2_with (go_at_call 71; refine HLIT.out.mono ?_; rintro e w' ⟨rfl, hb'⟩)
    have hw1 := wrap_kk h0 hlt HL_.out
    go_roundg (l0.length - (kk.toNat + 1))
    case measure => omega
    case rel => exact ⟨kk + 1, by omega, by omega, by omega, by first | rfl | (rw [hw1]) | (simp only [hw1]), ⟨below_trans BW.out hb'⟩, ⟨by rw [A_.out]; exact idxAt_go (fun x => !decide (a1 ≤ x ∧ x ≤ a2)) l0 (0 : Int) kk h0 hlt HQ.out.symm⟩⟩
  ·go_wp2
   go_ret
   exact ⟨ret_int (by rw [A_.out]; exact (idxAt_end _ _ _ (by omega)).symm), BW.out⟩
def impl_areNumbers_any.f (l0 : List Int) (a1 : Int) (a2 : Int) : Option (Bool) := some (l0.any (fun x => !decide (a1 ≤ x ∧ x ≤ a2)))
theorem impl_areNumbers_any.calls (A0 : Option Addr) (c0 : Nat) (l0 : List Int) (a1 : Int) (a2 : Int) (r : Bool) (w : World) (hr0 : Kd.C (Kd.int .i64) w A0 l0.length l0) (hc0 : l0.length ≤ c0)  {B1_ B2_ : Nat} (hB1_ : w.heap[B1_]? = some (.cells #[.int .i64 a1] 3 (0, 0))) (hB2_ : w.heap[B2_]? = some (.cells #[.int .i64 a2] 3 (0, 0))) (h : impl_areNumbers_any.f l0 a1 a2 = some r) :
  Calls Try.prog 70 #[.slice A0 l0.length c0, .func (.func 71) #[] #[.pointer (some ⟨B1_, 0, none⟩), .pointer (some ⟨B2_, 0, none⟩)]] w fun e w' => e = .returned (.bool r) ∧ Below w.heap.size w w' := by
 obtain rfl := Option.some.inj h
 have HX := Aside0.mk (impl_areNumbers_any.idx A0 c0 l0 a1 a2 w hr0 hc0 hB1_ hB2_)
 obtain ⟨m_, hm_⟩ : ∃ m_ : Int, m_ = idxOf (fun x => !decide (a1 ≤ x ∧ x ≤ a2)) l0 := ⟨_, rfl⟩
 rw [← hm_] at HX
 have HM_ := Aside0.mk hm_
 clear h hr0 hc0 hm_ hB1_ hB2_
 go_enter Try.func70, Try.ntmps70
 go_wp2_with (go_at_call 72; refine HX.out.mono ?_; rintro e w' ⟨rfl, hb⟩)
 go_ret
 exact ⟨by rw [← idxOf_any, ← HM_.out]; rfl, hb⟩
/-! ### impl_areNumbers: function 69 -/
def impl_areNumbers.f (l0 : List Int) (a1 : Int) (a2 : Int) : Option (Bool) := (impl_areNumbers_any.f l0 a1 a2).bind fun t153 => (some (!t153))
set_option maxHeartbeats 8000000 in
set_option maxRecDepth 100000 in
theorem impl_areNumbers.calls (A0 : Option Addr) (c0 : Nat) (l0 : List Int) (a1 : Int) (a2 : Int) (r : Bool) (w : World) (hr0 : Kd.C (Kd.int .i64) w A0 l0.length l0) (hc0 : l0.length ≤ c0) (h : impl_areNumbers.f l0 a1 a2 = some r) :
  Calls Try.prog 69 #[.slice A0 l0.length c0, .int .i64 a1, .int .i64 a2] w fun e w' => e = .returned (.bool r) ∧ Below w.heap.size w w' := by
 have HR0 := Aside0.mk hr0
 have HC0 := Aside0.mk hc0
 clear hr0 hc0
 have HB := Aside0.mk (Below.refl w.heap.size w)
 have H : ((impl_areNumbers_any.f l0 a1 a2).bind fun t153 => (some (!t153))) = some r := h
 clear h
 obtain ⟨t153, A4, H⟩ := bindS H
 obtain rfl := Option.some.inj H
 go_enter Try.func69, Try.ntmps69
 go_wp2_with (first | ((with_reducible refine gate_dst (N := 4) rfl ?_); refine box_event ?hg (N := 4) ?hd (cs := #[.int .i64 a1]) (t := 3) ?hr ?_; (case hd => rfl); (case hg => rfl); (case hr => first | (go_simp; done) | (go_simp; rfl)); intro gb151 hg w5 hbox hb; have BK151 := Aside0.mk (hbox); have GW151 := gS HB hg; have GE151 := gS HB hg; replace HB := bS HB hb; clear hb hbox hg) | ((with_reducible refine gate_dst (N := 5) rfl ?_); refine box_event ?hg (N := 5) ?hd (cs := #[.int .i64 a2]) (t := 3) ?hr ?_; (case hd => rfl); (case hg => rfl); (case hr => first | (go_simp; done) | (go_simp; rfl)); intro gb152 hg w6 hbox hb; have BK152 := Aside0.mk (hbox); have GW152 := gS HB hg; have GE152 := gS HB hg; replace HB := bS HB hb; have NB151_152 := nL BK151 hg; have NB152_151 := nR BK151 hg; replace BK151 := kB BK151 hb; clear hb hbox hg) | ((with_reducible refine gate_callee (f := 70) rfl ?_); refine goesL_ (some 9) rfl rfl Try.func70 (by kernel_rfl) rfl #[.slice A0 l0.length c0, .func (.func 71) #[] #[.pointer (some ⟨gb151, 0, none⟩), .pointer (some ⟨gb152, 0, none⟩)]] rfl zG ?_; (with_reducible refine (impl_areNumbers_any.calls _ _ l0 a1 a2 t153 _ ?side1 ?side2 ?side3 ?side4 A4.out).mono ?_); (case side1 => exact cS HR0 HB); (case side2 => exact HC0.out); (case side3 => exact (fun h_ => h_) (zK BK151)); (case side4 => exact (fun h_ => h_) (zK BK152)); rintro e w7 ⟨rfl, hb⟩; refine ⟨_, rfl, ?_⟩; replace BK151 := kB BK151 hb; replace BK152 := kB BK152 hb; replace HB := bS HB hb; (try clear hb)))
 go_ret
 exact ⟨zE, zB HB⟩

/-! ### impl_FitsField: function 62 -/
def impl_FitsField.f (a0_0 : Int) (a0_1 : Int) (a0_2 : Int) (a0_3 : Int) (a1_0 : Int) (l1_1 : List Int) : Option (Bool) := if a0_0 = 1 then ((impl_InRange.f a1_0 0 a0_1).bind fun t156 => (if t156 = true then (some ((l1_1.length : Int) == 0)) else (some false))) else (if a0_0 = 2 then (if a1_0 = 0 then (if (l1_1.length : Int) ≤ a0_1 then ((impl_areNumbers.f l1_1 0 255).bind fun t157 => (some t157)) else (some false)) else (some false)) else (if a0_0 = 3 then (if a1_0 = 0 then (if (l1_1.length : Int) ≤ a0_1 then ((impl_areNumbers.f l1_1 0 99).bind fun t158 => (some t158)) else (some false)) else (some false)) else (some false)))
set_option maxHeartbeats 8000000 in
set_option maxRecDepth 100000 in
theorem impl_FitsField.calls (a0_0 : Int) (a0_1 : Int) (a0_2 : Int) (a0_3 : Int) (a1_0 : Int) (A1_1 : Option Addr) (c1_1 : Nat) (l1_1 : List Int) (r : Bool) (w : World) (hr1_1 : Kd.C (Kd.int .i64) w A1_1 l1_1.length l1_1) (hc1_1 : l1_1.length ≤ c1_1) (h : impl_FitsField.f a0_0 a0_1 a0_2 a0_3 a1_0 l1_1 = some r) :
  Calls Try.prog 62 #[.agg #[.int .i64 a0_0, .int .i64 a0_1, .int .i64 a0_2, .int .i64 a0_3], .agg #[.int .i64 a1_0, .slice A1_1 l1_1.length c1_1]] w fun e w' => e = .returned (.bool r) ∧ Below w.heap.size w w' := by
 have hu47 := Try.underlying47
 have hu58 := Try.underlying58
 have HR1_1 := Aside0.mk hr1_1
 have HC1_1 := Aside0.mk hc1_1
 clear hr1_1 hc1_1
 have HB := Aside0.mk (Below.refl w.heap.size w)
 have H : (if a0_0 = 1 then ((impl_InRange.f a1_0 0 a0_1).bind fun t156 => (if t156 = true then (some ((l1_1.length : Int) == 0)) else (some false))) else (if a0_0 = 2 then (if a1_0 = 0 then (if (l1_1.length : Int) ≤ a0_1 then ((impl_areNumbers.f l1_1 0 255).bind fun t157 => (some t157)) else (some false)) else (some false)) else (if a0_0 = 3 then (if a1_0 = 0 then (if (l1_1.length : Int) ≤ a0_1 then ((impl_areNumbers.f l1_1 0 99).bind fun t158 => (some t158)) else (some false)) else (some false)) else (some false)))) = some r := h
 clear h
 by_cases c3 : a0_0 = 1
 ·rw [if_pos c3] at H
  have c3b0 : (a0_0 == 1) = true := beq_iff_eq.mpr c3
  have c3b1 : (a0_0 != 1) = false := bne_eq_false_iff_eq.mpr c3
  clear c3
  obtain ⟨t156, A4, H⟩ := bindS H
  by_cases c5 : t156 = true
  ·subst c5
   have H1 : (some ((l1_1.length : Int) == 0)) = some r := by rw [if_pos rfl] at H; exact H
   clear H
   have H := H1
   clear H1
   obtain rfl := Option.some.inj H
   go_enter Try.func62, Try.ntmps62
   go_wp2_with (first | ((with_reducible refine gate_dst (N := 2) rfl ?_); (try (refine gate_guard (by rfl) ?_; dsimp only)); refine box_event ?hg (N := 2) ?hd (cs := #[.int .i64 a0_0, .int .i64 a0_1, .int .i64 a0_2, .int .i64 a0_3]) (t := 47) ?hr ?_; (case hd => rfl); (case hg => rfl); (case hr => first | (go_simp; done) | (go_simp; rfl)); intro gb154 hg w6 hbox hb; have BK154 := Aside0.mk (hbox); have GW154 := gS HB hg; have GE154 := gS HB hg; replace HB := bS HB hb; clear hb hbox hg) | ((with_reducible refine gate_dst (N := 3) rfl ?_); (try (refine gate_guard (by rfl) ?_; dsimp only)); refine box_event ?hg (N := 3) ?hd (cs := #[.int .i64 a1_0, .slice A1_1 l1_1.length c1_1]) (t := 58) ?hr ?_; (case hd => rfl); (case hg => rfl); (case hr => first | (go_simp; done) | (go_simp; rfl)); intro gb155 hg w7 hbox hb; have BK155 := Aside0.mk (hbox); have GW155 := gS HB hg; have GE155 := gS HB hg; replace HB := bS HB hb; have NB154_155 := nL BK154 hg; have NB155_154 := nR BK154 hg; replace BK154 := kB BK154 hb; clear hb hbox hg; have hnb8 := NB154_155.out; have hnc8 := NB155_154.out; have hcz9_0 := bc0 BK154; have hcz9_1 := bc1 BK154; have hcz9_2 := bc2 BK154; have hcz9_3 := bc3 BK154; have hfz9_0 := bf BK154 0; have hfz9_1 := bf BK154 1; have hfz9_2 := bf BK154 2; have hfz9_3 := bf BK154 3; have hcz10_0 := bc0 BK155; have hcz10_1 := bc1 BK155; have hfz10_0 := bf BK155 0; have hfz10_1 := bf BK155 1) | ((with_reducible refine gate_callee (f := 33) rfl ?_); refine goesL_ (some 13) rfl rfl Try.func33 (by kernel_rfl) rfl #[.int .i64 a1_0, .int .i64 0, .int .i64 a0_1] rfl zG ?_; (with_reducible refine (impl_InRange.calls a1_0 0 a0_1 true _ A4.out).mono ?_); rintro e w' ⟨rfl, ⟨nd, rfl⟩⟩; refine ⟨_, rfl, ?_⟩))
   go_ret
   exact ⟨zE, zB HB⟩
  ·replace c5 := Bool.eq_false_iff.mpr c5
   subst c5
   have H1 : (some false) = some r := by rw [if_neg (show ¬ (false = true) by decide)] at H; exact H
   clear H
   have H := H1
   clear H1
   obtain rfl := Option.some.inj H
   go_enter Try.func62, Try.ntmps62
   go_wp2_with (first | ((with_reducible refine gate_dst (N := 2) rfl ?_); (try (refine gate_guard (by rfl) ?_; dsimp only)); refine box_event ?hg (N := 2) ?hd (cs := #[.int .i64 a0_0, .int .i64 a0_1, .int .i64 a0_2, .int .i64 a0_3]) (t := 47) ?hr ?_; (case hd => rfl); (case hg => rfl); (case hr => first | (go_simp; done) | (go_simp; rfl)); intro gb154 hg w11 hbox hb; have BK154 := Aside0.mk (hbox); have GW154 := gS HB hg; have GE154 := gS HB hg; replace HB := bS HB hb; clear hb hbox hg) | ((with_reducible refine gate_dst (N := 3) rfl ?_); (try (refine gate_guard (by rfl) ?_; dsimp only)); refine box_event ?hg (N := 3) ?hd (cs := #[.int .i64 a1_0, .slice A1_1 l1_1.length c1_1]) (t := 58) ?hr ?_; (case hd => rfl); (case hg => rfl); (case hr => first | (go_simp; done) | (go_simp; rfl)); intro gb155 hg w12 hbox hb; have BK155 := Aside0.mk (hbox); have GW155 := gS HB hg; have GE155 := gS HB hg; replace HB := bS HB hb; have NB154_155 := nL BK154 hg; have NB155_154 := nR BK154 hg; replace BK154 := kB BK154 hb; clear hb hbox hg; have hnb13 := NB154_155.out; have hnc13 := NB155_154.out; have hcz14_0 := bc0 BK154; have hcz14_1 := bc1 BK154; have hcz14_2 := bc2 BK154; have hcz14_3 := bc3 BK154; have hfz14_0 := bf BK154 0; have hfz14_1 := bf BK154 1; have hfz14_2 := bf BK154 2; have hfz14_3 := bf BK154 3; have hcz15_0 := bc0 BK155; have hcz15_1 := bc1 BK155; have hfz15_0 := bf BK155 0; have hfz15_1 := bf BK155 1) | ((with_reducible refine gate_callee (f := 33) rfl ?_); refine goesL_ (some 13) rfl rfl Try.func33 (by kernel_rfl) rfl #[.int .i64 a1_0, .int .i64 0, .int .i64 a0_1] rfl zG ?_; (with_reducible refine (impl_InRange.calls a1_0 0 a0_1 false _ A4.out).mono ?_); rintro e w' ⟨rfl, ⟨nd, rfl⟩⟩; refine ⟨_, rfl, ?_⟩))
   go_ret
   exact ⟨zE, zB HB⟩
 ·rw [if_neg c3] at H
  have c3b0 : (a0_0 == 1) = false := beq_eq_false_iff_ne.mpr c3
  have c3b1 : (a0_0 != 1) = true := bne_iff_ne.mpr c3
  by_cases c16 : a0_0 = 2
  ·rw [if_pos c16] at H
   have c16b0 : (a0_0 == 2) = true := beq_iff_eq.mpr c16
   have c16b1 : (a0_0 != 2) = false := bne_eq_false_iff_eq.mpr c16
   clear c16
   by_cases c17 : a1_0 = 0
   ·rw [if_pos c17] at H
    have c17b0 : (a1_0 == 0) = true := beq_iff_eq.mpr c17
    have c17b1 : (a1_0 != 0) = false := bne_eq_false_iff_eq.mpr c17
    clear c17
    by_cases c18 : (l1_1.length : Int) ≤ a0_1
    ·rw [if_pos c18] at H
     have c18b0 : decide ((l1_1.length : Int) ≤ a0_1) = true := decide_eq_true c18
     clear c18
     obtain ⟨t157, A19, H⟩ := bindS H
     obtain rfl := Option.some.inj H
     go_enter Try.func62, Try.ntmps62
     go_wp2_with (first | ((with_reducible refine gate_dst (N := 2) rfl ?_); (try (refine gate_guard (by rfl) ?_; dsimp only)); refine box_event ?hg (N := 2) ?hd (cs := #[.int .i64 a0_0, .int .i64 a0_1, .int .i64 a0_2, .int .i64 a0_3]) (t := 47) ?hr ?_; (case hd => rfl); (case hg => rfl); (case hr => first | (go_simp; done) | (go_simp; rfl)); intro gb154 hg w20 hbox hb; have BK154 := Aside0.mk (hbox); have GW154 := gS HB hg; have GE154 := gS HB hg; replace HB := bS HB hb; clear hb hbox hg) | ((with_reducible refine gate_dst (N := 3) rfl ?_); (try (refine gate_guard (by rfl) ?_; dsimp only)); refine box_event ?hg (N := 3) ?hd (cs := #[.int .i64 a1_0, .slice A1_1 l1_1.length c1_1]) (t := 58) ?hr ?_; (case hd => rfl); (case hg => rfl); (case hr => first | (go_simp; done) | (go_simp; rfl)); intro gb155 hg w21 hbox hb; have BK155 := Aside0.mk (hbox); have GW155 := gS HB hg; have GE155 := gS HB hg; replace HB := bS HB hb; have NB154_155 := nL BK154 hg; have NB155_154 := nR BK154 hg; replace BK154 := kB BK154 hb; clear hb hbox hg; have hnb22 := NB154_155.out; have hnc22 := NB155_154.out; have hcz23_0 := bc0 BK154; have hcz23_1 := bc1 BK154; have hcz23_2 := bc2 BK154; have hcz23_3 := bc3 BK154; have hfz23_0 := bf BK154 0; have hfz23_1 := bf BK154 1; have hfz23_2 := bf BK154 2; have hfz23_3 := bf BK154 3; have hcz24_0 := bc0 BK155; have hcz24_1 := bc1 BK155; have hfz24_0 := bf BK155 0; have hfz24_1 := bf BK155 1) | (go_at_call 69; (with_reducible refine (impl_areNumbers.calls _ _ l1_1 0 255 t157 _ ?side1 ?side2 A19.out).mono ?_); (case side1 => exact cS HR1_1 HB); (case side2 => exact HC1_1.out); rintro e w25 ⟨rfl, hb⟩; replace BK154 := kB BK154 hb; replace BK155 := kB BK155 hb; replace HB := bS HB hb; (try clear hb)))
     go_ret
     exact ⟨zE, zB HB⟩
    ·rw [if_neg c18] at H
     have c18b0 : decide ((l1_1.length : Int) ≤ a0_1) = false := decide_eq_false c18
     clear c18
     obtain rfl := Option.some.inj H
     go_enter Try.func62, Try.ntmps62
     go_wp2_with (first | ((with_reducible refine gate_dst (N := 2) rfl ?_); (try (refine gate_guard (by rfl) ?_; dsimp only)); refine box_event ?hg (N := 2) ?hd (cs := #[.int .i64 a0_0, .int .i64 a0_1, .int .i64 a0_2, .int .i64 a0_3]) (t := 47) ?hr ?_; (case hd => rfl); (case hg => rfl); (case hr => first | (go_simp; done) | (go_simp; rfl)); intro gb154 hg w26 hbox hb; have BK154 := Aside0.mk (hbox); have GW154 := gS HB hg; have GE154 := gS HB hg; replace HB := bS HB hb; clear hb hbox hg) | ((with_reducible refine gate_dst (N := 3) rfl ?_); (try (refine gate_guard (by rfl) ?_; dsimp only)); refine box_event ?hg (N := 3) ?hd (cs := #[.int .i64 a1_0, .slice A1_1 l1_1.length c1_1]) (t := 58) ?hr ?_; (case hd => rfl); (case hg => rfl); (case hr => first | (go_simp; done) | (go_simp; rfl)); intro gb155 hg w27 hbox hb; have BK155 := Aside0.mk (hbox); have GW155 := gS HB hg; have GE155 := gS HB hg; replace HB := bS HB hb; have NB154_155 := nL BK154 hg; have NB155_154 := nR BK154 hg; replace BK154 := kB BK154 hb; clear hb hbox hg; have hnb28 := NB154_155.out; have hnc28 := NB155_154.out; have hcz29_0 := bc0 BK154; have hcz29_1 := bc1 BK154; have hcz29_2 := bc2 BK154; have hcz29_3 := bc3 BK154; have hfz29_0 := bf BK154 0; have hfz29_1 := bf BK154 1; have hfz29_2 := bf BK154 2; have hfz29_3 := bf BK154 3; have hcz30_0 := bc0 BK155; have hcz30_1 := bc1 BK155; have hfz30_0 := bf BK155 0; have hfz30_1 := bf BK155 1))
     go_ret
     exact ⟨zE, zB HB⟩
   ·rw [if_neg c17] at H
    have c17b0 : (a1_0 == 0) = false := beq_eq_false_iff_ne.mpr c17
    have c17b1 : (a1_0 != 0) = true := bne_iff_ne.mpr c17
    obtain rfl := Option.some.inj H
    go_enter Try.func62, Try.ntmps62
    go_wp2_with (first | ((with_reducible refine gate_dst (N := 2) rfl ?_); (try (refine gate_guard (by rfl) ?_; dsimp only)); refine box_event ?hg (N := 2) ?hd (cs := #[.int .i64 a0_0, .int .i64 a0_1, .int .i64 a0_2, .int .i64 a0_3]) (t := 47) ?hr ?_; (case hd => rfl); (case hg => rfl); (case hr => first | (go_simp; done) | (go_simp; rfl)); intro gb154 hg w31 hbox hb; have BK154 := Aside0.mk (hbox); have GW154 := gS HB hg; have GE154 := gS HB hg; replace HB := bS HB hb; clear hb hbox hg) | ((with_reducible refine gate_dst (N := 3) rfl ?_); (try (refine gate_guard (by rfl) ?_; dsimp only)); refine box_event ?hg (N := 3) ?hd (cs := #[.int .i64 a1_0, .slice A1_1 l1_1.length c1_1]) (t := 58) ?hr ?_; (case hd => rfl); (case hg => rfl); (case hr => first | (go_simp; done) | (go_simp; rfl)); intro gb155 hg w32 hbox hb; have BK155 := Aside0.mk (hbox); have GW155 := gS HB hg; have GE155 := gS HB hg; replace HB := bS HB hb; have NB154_155 := nL BK154 hg; have NB155_154 := nR BK154 hg; replace BK154 := kB BK154 hb; clear hb hbox hg; have hnb33 := NB154_155.out; have hnc33 := NB155_154.out; have hcz34_0 := bc0 BK154; have hcz34_1 := bc1 BK154; have hcz34_2 := bc2 BK154; have hcz34_3 := bc3 BK154; have hfz34_0 := bf BK154 0; have hfz34_1 := bf BK154 1; have hfz34_2 := bf BK154 2; have hfz34_3 := bf BK154 3; have hcz35_0 := bc0 BK155; have hcz35_1 := bc1 BK155; have hfz35_0 := bf BK155 0; have hfz35_1 := bf BK155 1))
    go_ret
    exact ⟨zE, zB HB⟩
  ·rw [if_neg c16] at H
   have c16b0 : (a0_0 == 2) = false := beq_eq_false_iff_ne.mpr c16
   have c16b1 : (a0_0 != 2) = true := bne_iff_ne.mpr c16
   by_cases c36 : a0_0 = 3
   ·rw [if_pos c36] at H
    have c36b0 : (a0_0 == 3) = true := beq_iff_eq.mpr c36
    have c36b1 : (a0_0 != 3) = false := bne_eq_false_iff_eq.mpr c36
    clear c36
    by_cases c37 : a1_0 = 0
    ·rw [if_pos c37] at H
     have c37b0 : (a1_0 == 0) = true := beq_iff_eq.mpr c37
     have c37b1 : (a1_0 != 0) = false := bne_eq_false_iff_eq.mpr c37
     clear c37
     by_cases c38 : (l1_1.length : Int) ≤ a0_1
     ·rw [if_pos c38] at H
      have c38b0 : decide ((l1_1.length : Int) ≤ a0_1) = true := decide_eq_true c38
      clear c38
      obtain ⟨t158, A39, H⟩ := bindS H
      obtain rfl := Option.some.inj H
      go_enter Try.func62, Try.ntmps62
      go_wp2_with (first | ((with_reducible refine gate_dst (N := 2) rfl ?_); (try (refine gate_guard (by rfl) ?_; dsimp only)); refine box_event ?hg (N := 2) ?hd (cs := #[.int .i64 a0_0, .int .i64 a0_1, .int .i64 a0_2, .int .i64 a0_3]) (t := 47) ?hr ?_; (case hd => rfl); (case hg => rfl); (case hr => first | (go_simp; done) | (go_simp; rfl)); intro gb154 hg w40 hbox hb; have BK154 := Aside0.mk (hbox); have GW154 := gS HB hg; have GE154 := gS HB hg; replace HB := bS HB hb; clear hb hbox hg) | ((with_reducible refine gate_dst (N := 3) rfl ?_); (try (refine gate_guard (by rfl) ?_; dsimp only)); refine box_event ?hg (N := 3) ?hd (cs := #[.int .i64 a1_0, .slice A1_1 l1_1.length c1_1]) (t := 58) ?hr ?_; (case hd => rfl); (case hg => rfl); (case hr => first | (go_simp; done) | (go_simp; rfl)); intro gb155 hg w41 hbox hb; have BK155 := Aside0.mk (hbox); have GW155 := gS HB hg; have GE155 := gS HB hg; replace HB := bS HB hb; have NB154_155 := nL BK154 hg; have NB155_154 := nR BK154 hg; replace BK154 := kB BK154 hb; clear hb hbox hg; have hnb42 := NB154_155.out; have hnc42 := NB155_154.out; have hcz43_0 := bc0 BK154; have hcz43_1 := bc1 BK154; have hcz43_2 := bc2 BK154; have hcz43_3 := bc3 BK154; have hfz43_0 := bf BK154 0; have hfz43_1 := bf BK154 1; have hfz43_2 := bf BK154 2; have hfz43_3 := bf BK154 3; have hcz44_0 := bc0 BK155; have hcz44_1 := bc1 BK155; have hfz44_0 := bf BK155 0; have hfz44_1 := bf BK155 1) | (go_at_call 69; (with_reducible refine (impl_areNumbers.calls _ _ l1_1 0 99 t158 _ ?side1 ?side2 A39.out).mono ?_); (case side1 => exact cS HR1_1 HB); (case side2 => exact HC1_1.out); rintro e w45 ⟨rfl, hb⟩; replace BK154 := kB BK154 hb; replace BK155 := kB BK155 hb; replace HB := bS HB hb; (try clear hb)))
      go_ret
      exact ⟨zE, zB HB⟩
     ·rw [if_neg c38] at H
      have c38b0 : decide ((l1_1.length : Int) ≤ a0_1) = false := decide_eq_false c38
      clear c38
      obtain rfl := Option.some.inj H
      go_enter Try.func62, Try.ntmps62
      go_wp2_with (first | ((with_reducible refine gate_dst (N := 2) rfl ?_); (try (refine gate_guard (by rfl) ?_; dsimp only)); refine box_event ?hg (N := 2) ?hd (cs := #[.int .i64 a0_0, .int .i64 a0_1, .int .i64 a0_2, .int .i64 a0_3]) (t := 47) ?hr ?_; (case hd => rfl); (case hg => rfl); (case hr => first | (go_simp; done) | (go_simp; rfl)); intro gb154 hg w46 hbox hb; have BK154 := Aside0.mk (hbox); have GW154 := gS HB hg; have GE154 := gS HB hg; replace HB := bS HB hb; clear hb hbox hg) | ((with_reducible refine gate_dst (N := 3) rfl ?_); (try (refine gate_guard (by rfl) ?_; dsimp only)); refine box_event ?hg (N := 3) ?hd (cs := #[.int .i64 a1_0, .slice A1_1 l1_1.length c1_1]) (t := 58) ?hr ?_; (case hd => rfl); (case hg => rfl); (case hr => first | (go_simp; done) | (go_simp; rfl)); intro gb155 hg w47 hbox hb; have BK155 := Aside0.mk (hbox); have GW155 := gS HB hg; have GE155 := gS HB hg; replace HB := bS HB hb; have NB154_155 := nL BK154 hg; have NB155_154 := nR BK154 hg; replace BK154 := kB BK154 hb; clear hb hbox hg; have hnb48 := NB154_155.out; have hnc48 := NB155_154.out; have hcz49_0 := bc0 BK154; have hcz49_1 := bc1 BK154; have hcz49_2 := bc2 BK154; have hcz49_3 := bc3 BK154; have hfz49_0 := bf BK154 0; have hfz49_1 := bf BK154 1; have hfz49_2 := bf BK154 2; have hfz49_3 := bf BK154 3; have hcz50_0 := bc0 BK155; have hcz50_1 := bc1 BK155; have hfz50_0 := bf BK155 0; have hfz50_1 := bf BK155 1))
      go_ret
      exact ⟨zE, zB HB⟩
    ·rw [if_neg c37] at H
     have c37b0 : (a1_0 == 0) = false := beq_eq_false_iff_ne.mpr c37
     have c37b1 : (a1_0 != 0) = true := bne_iff_ne.mpr c37
     obtain rfl := Option.some.inj H
     go_enter Try.func62, Try.ntmps62
     go_wp2_with (first | ((with_reducible refine gate_dst (N := 2) rfl ?_); (try (refine gate_guard (by rfl) ?_; dsimp only)); refine box_event ?hg (N := 2) ?hd (cs := #[.int .i64 a0_0, .int .i64 a0_1, .int .i64 a0_2, .int .i64 a0_3]) (t := 47) ?hr ?_; (case hd => rfl); (case hg => rfl); (case hr => first | (go_simp; done) | (go_simp; rfl)); intro gb154 hg w51 hbox hb; have BK154 := Aside0.mk (hbox); have GW154 := gS HB hg; have GE154 := gS HB hg; replace HB := bS HB hb; clear hb hbox hg) | ((with_reducible refine gate_dst (N := 3) rfl ?_); (try (refine gate_guard (by rfl) ?_; dsimp only)); refine box_event ?hg (N := 3) ?hd (cs := #[.int .i64 a1_0, .slice A1_1 l1_1.length c1_1]) (t := 58) ?hr ?_; (case hd => rfl); (case hg => rfl); (case hr => first | (go_simp; done) | (go_simp; rfl)); intro gb155 hg w52 hbox hb; have BK155 := Aside0.mk (hbox); have GW155 := gS HB hg; have GE155 := gS HB hg; replace HB := bS HB hb; have NB154_155 := nL BK154 hg; have NB155_154 := nR BK154 hg; replace BK154 := kB BK154 hb; clear hb hbox hg; have hnb53 := NB154_155.out; have hnc53 := NB155_154.out; have hcz54_0 := bc0 BK154; have hcz54_1 := bc1 BK154; have hcz54_2 := bc2 BK154; have hcz54_3 := bc3 BK154; have hfz54_0 := bf BK154 0; have hfz54_1 := bf BK154 1; have hfz54_2 := bf BK154 2; have hfz54_3 := bf BK154 3; have hcz55_0 := bc0 BK155; have hcz55_1 := bc1 BK155; have hfz55_0 := bf BK155 0; have hfz55_1 := bf BK155 1))
     go_ret
     exact ⟨zE, zB HB⟩
   ·rw [if_neg c36] at H
    have c36b0 : (a0_0 == 3) = false := beq_eq_false_iff_ne.mpr c36
    have c36b1 : (a0_0 != 3) = true := bne_iff_ne.mpr c36
    obtain rfl := Option.some.inj H
    go_enter Try.func62, Try.ntmps62
    go_wp2_with (first | ((with_reducible refine gate_dst (N := 2) rfl ?_); (try (refine gate_guard (by rfl) ?_; dsimp only)); refine box_event ?hg (N := 2) ?hd (cs := #[.int .i64 a0_0, .int .i64 a0_1, .int .i64 a0_2, .int .i64 a0_3]) (t := 47) ?hr ?_; (case hd => rfl); (case hg => rfl); (case hr => first | (go_simp; done) | (go_simp; rfl)); intro gb154 hg w56 hbox hb; have BK154 := Aside0.mk (hbox); have GW154 := gS HB hg; have GE154 := gS HB hg; replace HB := bS HB hb; clear hb hbox hg) | ((with_reducible refine gate_dst (N := 3) rfl ?_); (try (refine gate_guard (by rfl) ?_; dsimp only)); refine box_event ?hg (N := 3) ?hd (cs := #[.int .i64 a1_0, .slice A1_1 l1_1.length c1_1]) (t := 58) ?hr ?_; (case hd => rfl); (case hg => rfl); (case hr => first | (go_simp; done) | (go_simp; rfl)); intro gb155 hg w57 hbox hb; have BK155 := Aside0.mk (hbox); have GW155 := gS HB hg; have GE155 := gS HB hg; replace HB := bS HB hb; have NB154_155 := nL BK154 hg; have NB155_154 := nR BK154 hg; replace BK154 := kB BK154 hb; clear hb hbox hg; have hnb58 := NB154_155.out; have hnc58 := NB155_154.out; have hcz59_0 := bc0 BK154; have hcz59_1 := bc1 BK154; have hcz59_2 := bc2 BK154; have hcz59_3 := bc3 BK154; have hfz59_0 := bf BK154 0; have hfz59_1 := bf BK154 1; have hfz59_2 := bf BK154 2; have hfz59_3 := bf BK154 3))
    go_ret
    exact ⟨zE, zB HB⟩

end Go.Proofs.Yticpmgofegaaeaa.PFnDiffers
