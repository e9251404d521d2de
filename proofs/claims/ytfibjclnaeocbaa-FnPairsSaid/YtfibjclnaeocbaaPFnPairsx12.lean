-- WRITTEN by pp.py, this session's own wrapper around the print; not trusted: Lean checks it
import Derived.Test.YtfibjclnaeocbaaPFnPairsx0
import Derived.Test.YtfibjclnaeocbaaPFnPairsx1
import Derived.Test.YtfibjclnaeocbaaPFnPairsx10
import Derived.Test.YtfibjclnaeocbaaPFnPairsx11
namespace Go.Proofs.Ytfibjclnaeocbaa.PFnPairs
open Go.RowKit Go.Proofs.Ytfibjclnaeocbaa.Hw Go.Proofs.YtfibjclnaeocbaaW.PrintWords Go.Proofs.YtfibjclnaeocbaaW.PrintLast Go.Proofs.YtfibjclnaeocbaaW.PrintMore
attribute [local go_sem] max2_int min2_int max_two min_two max_three min_three max_four min_four   -- for this text's walks alone
set_option linter.unusedVariables false
set_option linter.unusedSimpArgs false
set_option linter.unusedSectionVars false

/-! ### spec_IsMachine: function 11 -/
mutual
def spec_IsMachine.j0 : Nat → Bool → Int → List Bool → List (S46) → Option (Bool)
 | 0, _, _, _, _ => none
 | k + 1, x22, x535000, x535001, x535002 => if x22 = true then (some false) else (spec_IsMachine.l0 k 0 x535000 x535001 x535002)
def spec_IsMachine.l0 : Nat → Int → Int → List Bool → List (S46) → Option (Bool)
 | 0, _, _, _, _ => none
 | k + 1, x3, x535000, x535001, x535002 => if x3 < (x535002.length : Int) then (if 0 ≤ x3 then ((spec_l1In.f ((rd_T46 x535002 x3).f0) 0 (wrap64 (x535000 - 1))).bind fun t538 => (if t538 = true then ((spec_l1In.f ((rd_T46 x535002 x3).f3) 0 (wrap64 (x535000 - 1))).bind fun t539 => (if t539 = true then ((spec_l1In.f ((rd_T46 x535002 x3).f2) 0 5).bind fun t540 => (if t540 = true then ((spec_MoveOf.f k x535000 x535001 x535002 ((rd_T46 x535002 x3).f0) ((rd_T46 x535002 x3).f1) ((rd_T46 x535002 x3).f2)).bind fun t541 => (if t541 < x3 then (some false) else ((spec_MovesFrom.f k x535000 x535001 x535002 ((rd_T46 x535002 x3).f0) (!((rd_T46 x535002 x3).f1))).bind fun t542 => (if (t542.length : Int) > 0 then (some false) else (spec_IsMachine.l0 k (wrap64 (x3 + 1)) x535000 x535001 x535002))))) else (some false))) else (some false))) else (some false))) else (none)) else (some true)
end
def spec_IsMachine.f (k : Nat) (a0_0 : Int) (l0_1 : List Bool) (l0_2 : List (S46)) : Option (Bool) := (spec_l1In.f a0_0 1 6).bind fun t535 => (if t535 = true then (if (l0_1.length : Int) = a0_0 then (spec_IsMachine.j0 k (decide ((l0_2.length : Int) > 12)) a0_0 l0_1 l0_2) else (spec_IsMachine.j0 k true a0_0 l0_1 l0_2)) else (spec_IsMachine.j0 k true a0_0 l0_1 l0_2))
theorem spec_IsMachine.mono_l : ∀ k, (∀ y0 y1 y2 y3, LeO (spec_IsMachine.j0 k y0 y1 y2 y3) (spec_IsMachine.j0 (k + 1) y0 y1 y2 y3)) ∧ (∀ y0 y1 y2 y3, LeO (spec_IsMachine.l0 k y0 y1 y2 y3) (spec_IsMachine.l0 (k + 1) y0 y1 y2 y3))
 | 0 => ⟨fun _ _ _ _ r h => by simp [spec_IsMachine.j0] at h, fun _ _ _ _ r h => by simp [spec_IsMachine.l0] at h⟩
 | k + 1 => by
  obtain ⟨ih0, ih1⟩ := spec_IsMachine.mono_l k
  refine ⟨?a0, ?a1⟩
  case' a0 => intros; unfold spec_IsMachine.j0
  case' a1 => intros; unfold spec_IsMachine.l0
  all_goals repeat' first
  | (with_reducible first | exact ih0 _ _ _ _ | exact ih1 _ _ _ _ | exact spec_MoveOf.mono _ _ _ _ _ _ _ | exact spec_MovesFrom.mono _ _ _ _ _ _ | exact LeO.refl _ | exact LeO.none _ | refine LeO.ite ?_ ?_ | refine LeO.bind ?_ (fun _ => ?_))
  | exact ih0 _ _ _ _
  | exact ih1 _ _ _ _
  | exact spec_MoveOf.mono _ _ _ _ _ _ _
  | exact spec_MovesFrom.mono _ _ _ _ _ _
  | exact LeO.none _
  | refine LeO.ite ?_ ?_
  | refine LeO.bind ?_ (fun _ => ?_)
theorem spec_IsMachine.mono : ∀ a0 a1 a2 k, LeO (spec_IsMachine.f k a0 a1 a2) (spec_IsMachine.f (k + 1) a0 a1 a2) := by
 intro a0 a1 a2 k
 obtain ⟨ih0, ih1⟩ := spec_IsMachine.mono_l k
 unfold spec_IsMachine.f
 repeat' first
   | (with_reducible first | exact ih0 _ _ _ _ | exact ih1 _ _ _ _ | exact spec_MoveOf.mono _ _ _ _ _ _ _ | exact spec_MovesFrom.mono _ _ _ _ _ _ | exact LeO.refl _ | exact LeO.none _ | refine LeO.ite ?_ ?_ | refine LeO.bind ?_ (fun _ => ?_))
   | exact ih0 _ _ _ _
   | exact ih1 _ _ _ _
   | exact spec_MoveOf.mono _ _ _ _ _ _ _
   | exact spec_MovesFrom.mono _ _ _ _ _ _
   | exact LeO.none _
   | refine LeO.ite ?_ ?_
   | refine LeO.bind ?_ (fun _ => ?_)
set_option maxHeartbeats 8000000 in
set_option maxRecDepth 100000 in
theorem spec_IsMachine.calls (k : Nat) (a0_0 : Int) (A0_1 : Option Addr) (c0_1 : Nat) (l0_1 : List Bool) (A0_2 : Option Addr) (c0_2 : Nat) (l0_2 : List (S46)) (r : Bool) (w : World) (hr0_1 : Kd.C Kd.bool w A0_1 l0_1.length l0_1) (hc0_1 : l0_1.length ≤ c0_1) (hr0_2 : Kd.C k46 w A0_2 l0_2.length l0_2) (hc0_2 : l0_2.length ≤ c0_2) (h : spec_IsMachine.f k a0_0 l0_1 l0_2 = some r) :
  Calls Try.prog 11 #[.agg #[.int .i64 a0_0, .slice A0_1 l0_1.length c0_1, .slice A0_2 l0_2.length c0_2]] w fun e w' => e = .returned (.bool r) ∧ Below w.heap.size w w' := by
 have hu27 := Try.underlying27
 have hu46 := Try.underlying46
 have HR0_1 := aM hr0_1
 have HC0_1 := aM hc0_1
 clear hr0_1 hc0_1
 have HR0_2 := aM hr0_2
 have HC0_2 := aM hc0_2
 clear hr0_2 hc0_2
 have HB := aM (Below.refl w.heap.size w)
 have H : ((spec_l1In.f a0_0 1 6).bind fun t535 => (if t535 = true then (if (l0_1.length : Int) = a0_0 then (spec_IsMachine.j0 k (decide ((l0_2.length : Int) > 12)) a0_0 l0_1 l0_2) else (spec_IsMachine.j0 k true a0_0 l0_1 l0_2)) else (spec_IsMachine.j0 k true a0_0 l0_1 l0_2))) = some r := h
 clear h
 have HC2 := aM H
 clear H
 go_enter Try.func11, Try.ntmps11
 go_upto_region 1 with (first | ((with_reducible refine gD (N := 1) rfl ?_); (try (refine gate_guard (by rfl) ?_; dsimp only)); refine box_event ?hg (N := 1) ?hd (cs := #[.int .i64 a0_0, .slice A0_1 l0_1.length c0_1, .slice A0_2 l0_2.length c0_2]) (t := 27) ?hr ?_; (case hd => rfl); (case hg => rfl); (case hr => first | (go_simp; done) | (go_simp; rfl)); intro gb534 hg w3 hbox hb; have BK534 := aM (hbox); have GW534 := gS HB hg; have GE534 := gS HB hg; replace HB := bS HB hb; clear hb hbox hg))
 (try simp only [Act.put, lA, lB, lC])
 go_cut [22] (fun v22 wc => ∃ (kq : Nat) (x22_1 : Bool), v22 = .bool x22_1 ∧ Aside0 (spec_IsMachine.j0 kq x22_1 a0_0 l0_1 l0_2 = some r) ∧ Aside0 (kq ≤ k) ∧ Aside0 (wc.heap[gb534]? = some (.cells #[.int .i64 a0_0, (.slice A0_1 l0_1.length c0_1), (.slice A0_2 l0_2.length c0_2)] 27 (0, 0))) ∧ Aside0 (Below w.heap.size w wc))
 case first =>
  have H := HC2.o
  clear HC2
  obtain ⟨t535, A4, H⟩ := bindS H
  by_cases c5 : t535 = true
  ·subst c5
   have H1 : (if (l0_1.length : Int) = a0_0 then (spec_IsMachine.j0 k (decide ((l0_2.length : Int) > 12)) a0_0 l0_1 l0_2) else (spec_IsMachine.j0 k true a0_0 l0_1 l0_2)) = some r := by rw [if_pos rfl] at H; exact H
   clear H
   have H := H1
   clear H1
   by_cases c6 : (l0_1.length : Int) = a0_0
   ·rw [if_pos c6] at H
    have c6b0 : ((l0_1.length : Int) == a0_0) = true := beq_iff_eq.mpr c6
    have c6b1 : ((l0_1.length : Int) != a0_0) = false := bne_eq_false_iff_eq.mpr c6
    clear c6
    (first | rw [c6b0] | (simp only [i64_w, i32_w]; rw [c6b0]) | skip)
    have H' := aM H
    clear H
    obtain ⟨z7_0, z7_1, z7_2, f7_0, f7_1, f7_2⟩ := bq3 BK534
    go_wp2_with (first | ((with_reducible refine gC (f := 23) rfl ?_); refine goesL_ (some 7) rfl rfl Try.func23 (by kernel_rfl) rfl #[.int .i64 a0_0, .int .i64 1, .int .i64 6] rfl zG ?_; (with_reducible refine (spec_l1In.calls a0_0 1 6 true _ A4.o).mono ?_); rintro e w' ⟨rfl, ⟨nd, rfl⟩⟩; refine ⟨_, rfl, ?_⟩))
    go_meet
    case rel => exact ⟨_, (decide ((l0_2.length : Int) > 12)), zF, H', ⟨by first | omega | exact Nat.le_refl _⟩, ⟨zK BK534⟩, ⟨zB HB⟩⟩
   ·rw [if_neg c6] at H
    have c6b0 : ((l0_1.length : Int) == a0_0) = false := beq_eq_false_iff_ne.mpr c6
    have c6b1 : ((l0_1.length : Int) != a0_0) = true := bne_iff_ne.mpr c6
    (first | rw [c6b0] | (simp only [i64_w, i32_w]; rw [c6b0]) | skip)
    have H' := aM H
    clear H
    obtain ⟨z8_0, z8_1, z8_2, f8_0, f8_1, f8_2⟩ := bq3 BK534
    go_wp2_with (first | ((with_reducible refine gC (f := 23) rfl ?_); refine goesL_ (some 7) rfl rfl Try.func23 (by kernel_rfl) rfl #[.int .i64 a0_0, .int .i64 1, .int .i64 6] rfl zG ?_; (with_reducible refine (spec_l1In.calls a0_0 1 6 true _ A4.o).mono ?_); rintro e w' ⟨rfl, ⟨nd, rfl⟩⟩; refine ⟨_, rfl, ?_⟩))
    go_meet
    case rel => exact ⟨_, (true), zF, H', ⟨by first | omega | exact Nat.le_refl _⟩, ⟨zK BK534⟩, ⟨zB HB⟩⟩
  ·replace c5 := Bool.eq_false_iff.mpr c5
   subst c5
   have H1 : (spec_IsMachine.j0 k true a0_0 l0_1 l0_2) = some r := by rw [if_neg (show ¬ (false = true) by decide)] at H; exact H
   clear H
   have H := H1
   clear H1
   have H' := aM H
   clear H
   obtain ⟨z9_0, z9_1, z9_2, f9_0, f9_1, f9_2⟩ := bq3 BK534
   go_wp2_with (first | ((with_reducible refine gC (f := 23) rfl ?_); refine goesL_ (some 7) rfl rfl Try.func23 (by kernel_rfl) rfl #[.int .i64 a0_0, .int .i64 1, .int .i64 6] rfl zG ?_; (with_reducible refine (spec_l1In.calls a0_0 1 6 false _ A4.o).mono ?_); rintro e w' ⟨rfl, ⟨nd, rfl⟩⟩; refine ⟨_, rfl, ?_⟩))
   go_meet
   case rel => exact ⟨_, (true), zF, H', ⟨by first | omega | exact Nat.le_refl _⟩, ⟨zK BK534⟩, ⟨zB HB⟩⟩
 case rest =>
  clear HC2
  try clear c1
  try clear c2
  try clear p2
  try clear c5
  try clear c6
  try clear c6b0
  try clear c6b1
  try clear z7_0
  try clear z7_1
  try clear z7_2
  try clear z8_0
  try clear z8_1
  try clear z8_2
  try clear z9_0
  try clear z9_1
  try clear z9_2
  try clear f7_0
  try clear f7_1
  try clear f7_2
  try clear f8_0
  try clear f8_1
  try clear f8_2
  try clear f9_0
  try clear f9_1
  try clear f9_2
  obtain ⟨kq, x22_1, rfl, HA, HJ1, BK534, HB⟩ := hcut
  cases kq with
  | zero => exact absurd HA.o (by simp [spec_IsMachine.j0])
  | succ kj1 =>
   have H := HA.o
   clear HA
   simp only [spec_IsMachine.j0] at H
   by_cases c10 : x22_1 = true
   ·subst c10
    have H1 : (some false) = some r := by rw [if_pos rfl] at H; exact H
    clear H
    have H := H1
    clear H1
    obtain rfl := oI H
    go_wp2
    go_ret
    exact ⟨zE, zB HB⟩
   ·replace c10 := Bool.eq_false_iff.mpr c10
    subst c10
    have H1 : (spec_IsMachine.l0 kj1 0 a0_0 l0_1 l0_2) = some r := by rw [if_neg (show ¬ (false = true) by decide)] at H; exact H
    clear H
    have H := H1
    clear H1
    have H' := aM H
    clear H
    go_wp2
    go_loopg [3] kj1 (fun kq v3 w' => ∃ (x3_2 : Int), v3 = .int .i64 x3_2 ∧ Aside0 (spec_IsMachine.l0 kq x3_2 a0_0 l0_1 l0_2 = some r) ∧ Aside0 (kq ≤ kj1) ∧ Aside0 (w'.heap[gb534]? = some (.cells #[.int .i64 a0_0, (.slice A0_1 l0_1.length c0_1), (.slice A0_2 l0_2.length c0_2)] 27 (0, 0))) ∧ Aside0 (Below w.heap.size w w'))
    case atStart => exact ⟨(0), zF, H', ⟨Nat.le_refl _⟩, ⟨zK BK534⟩, ⟨zB HB⟩⟩
    case round =>
     clear H'
     try clear c1
     try clear c2
     try clear p2
     try clear c5
     try clear c6
     try clear c6b0
     try clear c6b1
     try clear c10
     try clear z7_0
     try clear z7_1
     try clear z7_2
     try clear z8_0
     try clear z8_1
     try clear z8_2
     try clear z9_0
     try clear z9_1
     try clear z9_2
     try clear f7_0
     try clear f7_1
     try clear f7_2
     try clear f8_0
     try clear f8_1
     try clear f8_2
     try clear f9_0
     try clear f9_1
     try clear f9_2
     try clear p2
     obtain ⟨x3_2, rfl, HA, HK2, BK534, HB⟩ := hrel
     cases gk with
     | zero => exact absurd HA.o (by simp [spec_IsMachine.l0])
     | succ k2 =>
      have H := HA.o
      clear HA
      simp only [spec_IsMachine.l0] at H
      by_cases c11 : x3_2 < (l0_2.length : Int)
      ·rw [if_pos c11] at H
       have c11b0 : decide (x3_2 < (l0_2.length : Int)) = true := dT c11
       clear c11
       obtain ⟨c12, H⟩ := ifS H
       have c12b0 : decide (0 ≤ x3_2) = true := dT c12
       clear c12
       obtain ⟨t538, A13, H⟩ := bindS H
       by_cases c14 : t538 = true
       ·subst c14
        have H1 : ((spec_l1In.f ((rd_T46 l0_2 x3_2).f3) 0 (wrap64 (a0_0 - 1))).bind fun t539 => (if t539 = true then ((spec_l1In.f ((rd_T46 l0_2 x3_2).f2) 0 5).bind fun t540 => (if t540 = true then ((spec_MoveOf.f k2 a0_0 l0_1 l0_2 ((rd_T46 l0_2 x3_2).f0) ((rd_T46 l0_2 x3_2).f1) ((rd_T46 l0_2 x3_2).f2)).bind fun t541 => (if t541 < x3_2 then (some false) else ((spec_MovesFrom.f k2 a0_0 l0_1 l0_2 ((rd_T46 l0_2 x3_2).f0) (!((rd_T46 l0_2 x3_2).f1))).bind fun t542 => (if (t542.length : Int) > 0 then (some false) else (spec_IsMachine.l0 k2 (wrap64 (x3_2 + 1)) a0_0 l0_1 l0_2))))) else (some false))) else (some false))) = some r := by rw [if_pos rfl] at H; exact H
        clear H
        have H := H1
        clear H1
        obtain ⟨t539, A15, H⟩ := bindS H
        by_cases c16 : t539 = true
        ·subst c16
         have H1 : ((spec_l1In.f ((rd_T46 l0_2 x3_2).f2) 0 5).bind fun t540 => (if t540 = true then ((spec_MoveOf.f k2 a0_0 l0_1 l0_2 ((rd_T46 l0_2 x3_2).f0) ((rd_T46 l0_2 x3_2).f1) ((rd_T46 l0_2 x3_2).f2)).bind fun t541 => (if t541 < x3_2 then (some false) else ((spec_MovesFrom.f k2 a0_0 l0_1 l0_2 ((rd_T46 l0_2 x3_2).f0) (!((rd_T46 l0_2 x3_2).f1))).bind fun t542 => (if (t542.length : Int) > 0 then (some false) else (spec_IsMachine.l0 k2 (wrap64 (x3_2 + 1)) a0_0 l0_1 l0_2))))) else (some false))) = some r := by rw [if_pos rfl] at H; exact H
         clear H
         have H := H1
         clear H1
         obtain ⟨t540, A17, H⟩ := bindS H
         by_cases c18 : t540 = true
         ·subst c18
          have H1 : ((spec_MoveOf.f k2 a0_0 l0_1 l0_2 ((rd_T46 l0_2 x3_2).f0) ((rd_T46 l0_2 x3_2).f1) ((rd_T46 l0_2 x3_2).f2)).bind fun t541 => (if t541 < x3_2 then (some false) else ((spec_MovesFrom.f k2 a0_0 l0_1 l0_2 ((rd_T46 l0_2 x3_2).f0) (!((rd_T46 l0_2 x3_2).f1))).bind fun t542 => (if (t542.length : Int) > 0 then (some false) else (spec_IsMachine.l0 k2 (wrap64 (x3_2 + 1)) a0_0 l0_1 l0_2))))) = some r := by rw [if_pos rfl] at H; exact H
          clear H
          have H := H1
          clear H1
          obtain ⟨t541, A19, H⟩ := bindS H
          by_cases c20 : t541 < x3_2
          ·rw [if_pos c20] at H
           have c20b0 : decide (t541 < x3_2) = true := dT c20
           clear c20
           obtain rfl := oI H
           obtain ⟨z21_0, z21_1, z21_2, f21_0, f21_1, f21_2⟩ := bq3 BK534
           have p536 : 0 ≤ (x3_2 : Int) := zD
           have q536 : x3_2 < (l0_2.length : Int) := zD
           obtain ⟨ad536, e536, hx536_0, hx536_1, hx536_2, hx536_3⟩ := at_T46 HR0_2.o x3_2 p536 q536
           cases e536
           replace hx536_0 := hL HB hx536_0
           replace hx536_1 := hL HB hx536_1
           replace hx536_2 := hL HB hx536_2
           replace hx536_3 := hL HB hx536_3
           replace p536 := eq_true p536
           replace q536 := eq_true q536
           go_wp2_with (first | ((with_reducible refine gD (N := 4) rfl ?_); (try (refine gate_guard (by rfl) ?_; dsimp only)); refine box_event ?hg (N := 4) ?hd (cs := #[.int .i64 0, .bool false, .int .i64 0, .int .i64 0]) (t := 46) ?hr ?_; (case hd => rfl); (case hg => rfl); (case hr => first | (go_simp; done) | (go_simp; rfl)); intro gb537 hg w22 hbox hb; have BK537 := aM (hbox); have GW537 := gS HB hg; have GE537 := gS HB hg; replace HB := bS HB hb; have NB534_537 := nL BK534 hg; have NB537_534 := nR BK534 hg; replace BK534 := kB BK534 hb; clear hb hbox hg; have hnb23 := NB537_534.o; have hnc23 := NB534_537.o; obtain ⟨z24_0, z24_1, z24_2, z24_3, f24_0, f24_1, f24_2, f24_3⟩ := bq4 BK537; obtain ⟨z25_0, z25_1, z25_2, f25_0, f25_1, f25_2⟩ := bq3 BK534) | ((with_reducible refine gC (f := 23) rfl ?_); refine goesL_ (some 40) rfl rfl Try.func23 (by kernel_rfl) rfl #[.int .i64 ((rd_T46 l0_2 x3_2).f0), .int .i64 0, .int .i64 (wrap64 (a0_0 - 1))] rfl zG ?_; (with_reducible refine (spec_l1In.calls ((rd_T46 l0_2 x3_2).f0) 0 (wrap64 (a0_0 - 1)) true _ A13.o).mono ?_); rintro e w' ⟨rfl, ⟨nd, rfl⟩⟩; refine ⟨_, rfl, ?_⟩) | (go_at_call 23; (with_reducible refine (spec_l1In.calls ((rd_T46 l0_2 x3_2).f3) 0 (wrap64 (a0_0 - 1)) true _ A15.o).mono ?_); rintro e w' ⟨rfl, ⟨nd, rfl⟩⟩) | (go_at_call 23; (with_reducible refine (spec_l1In.calls ((rd_T46 l0_2 x3_2).f2) 0 5 true _ A17.o).mono ?_); rintro e w' ⟨rfl, ⟨nd, rfl⟩⟩) | (go_at_call 24; (with_reducible refine (spec_MoveOf.calls k2 a0_0 _ _ l0_1 _ _ l0_2 ((rd_T46 l0_2 x3_2).f0) ((rd_T46 l0_2 x3_2).f1) ((rd_T46 l0_2 x3_2).f2) t541 _ ?s1 ?s2 ?s3 ?s4 A19.o).mono ?_); (case s1 => exact Kd.C_below HR0_1.o (zB HB)); (case s2 => exact HC0_1.o); (case s3 => exact Kd.C_below HR0_2.o (zB HB)); (case s4 => exact HC0_2.o); rintro e w26 ⟨rfl, hb⟩; replace BK534 := aM (blk_below (kF BK534) hb); replace BK537 := aM (blk_below (g := gb537) (o := .cells #[.int .i64 ((rd_T46 l0_2 x3_2).f0), .bool ((rd_T46 l0_2 x3_2).f1), .int .i64 ((rd_T46 l0_2 x3_2).f2), .int .i64 ((rd_T46 l0_2 x3_2).f3)] 46 (0, 0)) (by (with_reducible repeat (first | apply bN | apply bD | apply bA)); refine bP (cs := #[.int .i64 ((rd_T46 l0_2 x3_2).f0), .bool ((rd_T46 l0_2 x3_2).f1), .int .i64 ((rd_T46 l0_2 x3_2).f2), .int .i64 0]) ?_ 3 _ rfl; (with_reducible repeat (first | apply bN | apply bD | apply bA)); refine bP (cs := #[.int .i64 ((rd_T46 l0_2 x3_2).f0), .bool ((rd_T46 l0_2 x3_2).f1), .int .i64 0, .int .i64 0]) ?_ 2 _ rfl; (with_reducible repeat (first | apply bN | apply bD | apply bA)); refine bP (cs := #[.int .i64 ((rd_T46 l0_2 x3_2).f0), .bool false, .int .i64 0, .int .i64 0]) ?_ 1 _ rfl; (with_reducible repeat (first | apply bN | apply bD | apply bA)); refine bP (cs := #[.int .i64 0, .bool false, .int .i64 0, .int .i64 0]) ?_ 0 _ rfl; (with_reducible repeat (first | apply bN | apply bD | apply bA)); exact BK537.o) hb); replace HB := bS HB hb; (try clear hb)))
           go_ret
           exact ⟨zE, zB HB⟩
          ·rw [if_neg c20] at H
           have c20b0 : decide (t541 < x3_2) = false := decide_eq_false c20
           clear c20
           obtain ⟨t542, A27, H⟩ := bindS H
           by_cases c28 : (t542.length : Int) > 0
           ·rw [if_pos c28] at H
            have c28b0 : decide (0 < (t542.length : Int)) = true := dT c28
            have c28b1 : decide (0 < t542.length) = true := dT (by omega)
            clear c28
            obtain rfl := oI H
            obtain ⟨z29_0, z29_1, z29_2, f29_0, f29_1, f29_2⟩ := bq3 BK534
            have p536 : 0 ≤ (x3_2 : Int) := zD
            have q536 : x3_2 < (l0_2.length : Int) := zD
            obtain ⟨ad536, e536, hx536_0, hx536_1, hx536_2, hx536_3⟩ := at_T46 HR0_2.o x3_2 p536 q536
            cases e536
            replace hx536_0 := hL HB hx536_0
            replace hx536_1 := hL HB hx536_1
            replace hx536_2 := hL HB hx536_2
            replace hx536_3 := hL HB hx536_3
            replace p536 := eq_true p536
            replace q536 := eq_true q536
            go_wp2_with (first | ((with_reducible refine gD (N := 4) rfl ?_); (try (refine gate_guard (by rfl) ?_; dsimp only)); refine box_event ?hg (N := 4) ?hd (cs := #[.int .i64 0, .bool false, .int .i64 0, .int .i64 0]) (t := 46) ?hr ?_; (case hd => rfl); (case hg => rfl); (case hr => first | (go_simp; done) | (go_simp; rfl)); intro gb537 hg w30 hbox hb; have BK537 := aM (hbox); have GW537 := gS HB hg; have GE537 := gS HB hg; replace HB := bS HB hb; have NB534_537 := nL BK534 hg; have NB537_534 := nR BK534 hg; replace BK534 := kB BK534 hb; clear hb hbox hg; have hnb31 := NB537_534.o; have hnc31 := NB534_537.o; obtain ⟨z32_0, z32_1, z32_2, z32_3, f32_0, f32_1, f32_2, f32_3⟩ := bq4 BK537; obtain ⟨z33_0, z33_1, z33_2, f33_0, f33_1, f33_2⟩ := bq3 BK534) | ((with_reducible refine gC (f := 23) rfl ?_); refine goesL_ (some 40) rfl rfl Try.func23 (by kernel_rfl) rfl #[.int .i64 ((rd_T46 l0_2 x3_2).f0), .int .i64 0, .int .i64 (wrap64 (a0_0 - 1))] rfl zG ?_; (with_reducible refine (spec_l1In.calls ((rd_T46 l0_2 x3_2).f0) 0 (wrap64 (a0_0 - 1)) true _ A13.o).mono ?_); rintro e w' ⟨rfl, ⟨nd, rfl⟩⟩; refine ⟨_, rfl, ?_⟩) | (go_at_call 23; (with_reducible refine (spec_l1In.calls ((rd_T46 l0_2 x3_2).f3) 0 (wrap64 (a0_0 - 1)) true _ A15.o).mono ?_); rintro e w' ⟨rfl, ⟨nd, rfl⟩⟩) | (go_at_call 23; (with_reducible refine (spec_l1In.calls ((rd_T46 l0_2 x3_2).f2) 0 5 true _ A17.o).mono ?_); rintro e w' ⟨rfl, ⟨nd, rfl⟩⟩) | (go_at_call 24; (with_reducible refine (spec_MoveOf.calls k2 a0_0 _ _ l0_1 _ _ l0_2 ((rd_T46 l0_2 x3_2).f0) ((rd_T46 l0_2 x3_2).f1) ((rd_T46 l0_2 x3_2).f2) t541 _ ?s1 ?s2 ?s3 ?s4 A19.o).mono ?_); (case s1 => exact Kd.C_below HR0_1.o (zB HB)); (case s2 => exact HC0_1.o); (case s3 => exact Kd.C_below HR0_2.o (zB HB)); (case s4 => exact HC0_2.o); rintro e w34 ⟨rfl, hb⟩; replace BK534 := aM (blk_below (kF BK534) hb); replace BK537 := aM (blk_below (g := gb537) (o := .cells #[.int .i64 ((rd_T46 l0_2 x3_2).f0), .bool ((rd_T46 l0_2 x3_2).f1), .int .i64 ((rd_T46 l0_2 x3_2).f2), .int .i64 ((rd_T46 l0_2 x3_2).f3)] 46 (0, 0)) (by (with_reducible repeat (first | apply bN | apply bD | apply bA)); refine bP (cs := #[.int .i64 ((rd_T46 l0_2 x3_2).f0), .bool ((rd_T46 l0_2 x3_2).f1), .int .i64 ((rd_T46 l0_2 x3_2).f2), .int .i64 0]) ?_ 3 _ rfl; (with_reducible repeat (first | apply bN | apply bD | apply bA)); refine bP (cs := #[.int .i64 ((rd_T46 l0_2 x3_2).f0), .bool ((rd_T46 l0_2 x3_2).f1), .int .i64 0, .int .i64 0]) ?_ 2 _ rfl; (with_reducible repeat (first | apply bN | apply bD | apply bA)); refine bP (cs := #[.int .i64 ((rd_T46 l0_2 x3_2).f0), .bool false, .int .i64 0, .int .i64 0]) ?_ 1 _ rfl; (with_reducible repeat (first | apply bN | apply bD | apply bA)); refine bP (cs := #[.int .i64 0, .bool false, .int .i64 0, .int .i64 0]) ?_ 0 _ rfl; (with_reducible repeat (first | apply bN | apply bD | apply bA)); exact BK537.o) hb); replace HB := bS HB hb; (try clear hb); obtain ⟨z35_0, z35_1, z35_2, f35_0, f35_1, f35_2⟩ := bq3 BK534; obtain ⟨z36_0, z36_1, z36_2, z36_3, f36_0, f36_1, f36_2, f36_3⟩ := bq4 BK537) | (go_at_call 25; (with_reducible refine (spec_MovesFrom.calls k2 a0_0 _ _ l0_1 _ _ l0_2 ((rd_T46 l0_2 x3_2).f0) (!((rd_T46 l0_2 x3_2).f1)) t542 _ ?s1 ?s2 ?s3 ?s4 A27.o).mono ?_); (case s1 => exact cS HR0_1 HB); (case s2 => exact HC0_1.o); (case s3 => exact cS HR0_2 HB); (case s4 => exact HC0_2.o); rintro e w37 ⟨v543, rfl, ho0, hb⟩; have HO544 := aM (rO ho0 (bZ (zB HB))); replace BK534 := kB BK534 hb; replace BK537 := kB BK537 hb; replace HB := bS HB hb; (try clear hb); (try clear ho0); obtain ⟨Ao38, co38, eo38⟩ := rL HO544.o; subst eo38))
            go_ret
            exact ⟨zE, zB HB⟩
           ·rw [if_neg c28] at H
            have c28b0 : decide (0 < (t542.length : Int)) = false := decide_eq_false c28
            have c28b1 : decide (0 < t542.length) = false := decide_eq_false (by omega)
            clear c28
            have H' := aM H
            clear H
            obtain ⟨z39_0, z39_1, z39_2, f39_0, f39_1, f39_2⟩ := bq3 BK534
            have p536 : 0 ≤ (x3_2 : Int) := zD
            have q536 : x3_2 < (l0_2.length : Int) := zD
            obtain ⟨ad536, e536, hx536_0, hx536_1, hx536_2, hx536_3⟩ := at_T46 HR0_2.o x3_2 p536 q536
            cases e536
            replace hx536_0 := hL HB hx536_0
            replace hx536_1 := hL HB hx536_1
            replace hx536_2 := hL HB hx536_2
            replace hx536_3 := hL HB hx536_3
            replace p536 := eq_true p536
            replace q536 := eq_true q536
            go_wp2_with (first | ((with_reducible refine gD (N := 4) rfl ?_); (try (refine gate_guard (by rfl) ?_; dsimp only)); refine box_event ?hg (N := 4) ?hd (cs := #[.int .i64 0, .bool false, .int .i64 0, .int .i64 0]) (t := 46) ?hr ?_; (case hd => rfl); (case hg => rfl); (case hr => first | (go_simp; done) | (go_simp; rfl)); intro gb537 hg w40 hbox hb; have BK537 := aM (hbox); have GW537 := gS HB hg; have GE537 := gS HB hg; replace HB := bS HB hb; have NB534_537 := nL BK534 hg; have NB537_534 := nR BK534 hg; replace BK534 := kB BK534 hb; clear hb hbox hg; have hnb41 := NB537_534.o; have hnc41 := NB534_537.o; obtain ⟨z42_0, z42_1, z42_2, z42_3, f42_0, f42_1, f42_2, f42_3⟩ := bq4 BK537; obtain ⟨z43_0, z43_1, z43_2, f43_0, f43_1, f43_2⟩ := bq3 BK534) | ((with_reducible refine gC (f := 23) rfl ?_); refine goesL_ (some 40) rfl rfl Try.func23 (by kernel_rfl) rfl #[.int .i64 ((rd_T46 l0_2 x3_2).f0), .int .i64 0, .int .i64 (wrap64 (a0_0 - 1))] rfl zG ?_; (with_reducible refine (spec_l1In.calls ((rd_T46 l0_2 x3_2).f0) 0 (wrap64 (a0_0 - 1)) true _ A13.o).mono ?_); rintro e w' ⟨rfl, ⟨nd, rfl⟩⟩; refine ⟨_, rfl, ?_⟩) | (go_at_call 23; (with_reducible refine (spec_l1In.calls ((rd_T46 l0_2 x3_2).f3) 0 (wrap64 (a0_0 - 1)) true _ A15.o).mono ?_); rintro e w' ⟨rfl, ⟨nd, rfl⟩⟩) | (go_at_call 23; (with_reducible refine (spec_l1In.calls ((rd_T46 l0_2 x3_2).f2) 0 5 true _ A17.o).mono ?_); rintro e w' ⟨rfl, ⟨nd, rfl⟩⟩) | (go_at_call 24; (with_reducible refine (spec_MoveOf.calls k2 a0_0 _ _ l0_1 _ _ l0_2 ((rd_T46 l0_2 x3_2).f0) ((rd_T46 l0_2 x3_2).f1) ((rd_T46 l0_2 x3_2).f2) t541 _ ?s1 ?s2 ?s3 ?s4 A19.o).mono ?_); (case s1 => exact Kd.C_below HR0_1.o (zB HB)); (case s2 => exact HC0_1.o); (case s3 => exact Kd.C_below HR0_2.o (zB HB)); (case s4 => exact HC0_2.o); rintro e w44 ⟨rfl, hb⟩; replace BK534 := aM (blk_below (kF BK534) hb); replace BK537 := aM (blk_below (g := gb537) (o := .cells #[.int .i64 ((rd_T46 l0_2 x3_2).f0), .bool ((rd_T46 l0_2 x3_2).f1), .int .i64 ((rd_T46 l0_2 x3_2).f2), .int .i64 ((rd_T46 l0_2 x3_2).f3)] 46 (0, 0)) (by (with_reducible repeat (first | apply bN | apply bD | apply bA)); refine bP (cs := #[.int .i64 ((rd_T46 l0_2 x3_2).f0), .bool ((rd_T46 l0_2 x3_2).f1), .int .i64 ((rd_T46 l0_2 x3_2).f2), .int .i64 0]) ?_ 3 _ rfl; (with_reducible repeat (first | apply bN | apply bD | apply bA)); refine bP (cs := #[.int .i64 ((rd_T46 l0_2 x3_2).f0), .bool ((rd_T46 l0_2 x3_2).f1), .int .i64 0, .int .i64 0]) ?_ 2 _ rfl; (with_reducible repeat (first | apply bN | apply bD | apply bA)); refine bP (cs := #[.int .i64 ((rd_T46 l0_2 x3_2).f0), .bool false, .int .i64 0, .int .i64 0]) ?_ 1 _ rfl; (with_reducible repeat (first | apply bN | apply bD | apply bA)); refine bP (cs := #[.int .i64 0, .bool false, .int .i64 0, .int .i64 0]) ?_ 0 _ rfl; (with_reducible repeat (first | apply bN | apply bD | apply bA)); exact BK537.o) hb); replace HB := bS HB hb; (try clear hb); obtain ⟨z45_0, z45_1, z45_2, f45_0, f45_1, f45_2⟩ := bq3 BK534; obtain ⟨z46_0, z46_1, z46_2, z46_3, f46_0, f46_1, f46_2, f46_3⟩ := bq4 BK537) | (go_at_call 25; (with_reducible refine (spec_MovesFrom.calls k2 a0_0 _ _ l0_1 _ _ l0_2 ((rd_T46 l0_2 x3_2).f0) (!((rd_T46 l0_2 x3_2).f1)) t542 _ ?s1 ?s2 ?s3 ?s4 A27.o).mono ?_); (case s1 => exact cS HR0_1 HB); (case s2 => exact HC0_1.o); (case s3 => exact cS HR0_2 HB); (case s4 => exact HC0_2.o); rintro e w47 ⟨v543, rfl, ho0, hb⟩; have HO544 := aM (rO ho0 (bZ (zB HB))); replace BK534 := kB BK534 hb; replace BK537 := kB BK537 hb; replace HB := bS HB hb; (try clear hb); (try clear ho0); obtain ⟨Ao48, co48, eo48⟩ := rL HO544.o; subst eo48))
            go_roundg k2
            case measure => have := HJ1.o; have := HK2.o; omega
            case rel => exact ⟨(wrap64 (x3_2 + 1)), zF, H', ⟨by have := HJ1.o; have := HK2.o; omega⟩, ⟨zK BK534⟩, ⟨zB HB⟩⟩
         ·replace c18 := Bool.eq_false_iff.mpr c18
          subst c18
          have H1 : (some false) = some r := by rw [if_neg (show ¬ (false = true) by decide)] at H; exact H
          clear H
          have H := H1
          clear H1
          obtain rfl := oI H
          obtain ⟨z49_0, z49_1, z49_2, f49_0, f49_1, f49_2⟩ := bq3 BK534
          have p536 : 0 ≤ (x3_2 : Int) := zD
          have q536 : x3_2 < (l0_2.length : Int) := zD
          obtain ⟨ad536, e536, hx536_0, hx536_1, hx536_2, hx536_3⟩ := at_T46 HR0_2.o x3_2 p536 q536
          cases e536
          replace hx536_0 := hL HB hx536_0
          replace hx536_1 := hL HB hx536_1
          replace hx536_2 := hL HB hx536_2
          replace hx536_3 := hL HB hx536_3
          replace p536 := eq_true p536
          replace q536 := eq_true q536
          go_wp2_with (first | ((with_reducible refine gD (N := 4) rfl ?_); (try (refine gate_guard (by rfl) ?_; dsimp only)); refine box_event ?hg (N := 4) ?hd (cs := #[.int .i64 0, .bool false, .int .i64 0, .int .i64 0]) (t := 46) ?hr ?_; (case hd => rfl); (case hg => rfl); (case hr => first | (go_simp; done) | (go_simp; rfl)); intro gb537 hg w50 hbox hb; have BK537 := aM (hbox); have GW537 := gS HB hg; have GE537 := gS HB hg; replace HB := bS HB hb; have NB534_537 := nL BK534 hg; have NB537_534 := nR BK534 hg; replace BK534 := kB BK534 hb; clear hb hbox hg; have hnb51 := NB537_534.o; have hnc51 := NB534_537.o; obtain ⟨z52_0, z52_1, z52_2, z52_3, f52_0, f52_1, f52_2, f52_3⟩ := bq4 BK537; obtain ⟨z53_0, z53_1, z53_2, f53_0, f53_1, f53_2⟩ := bq3 BK534) | ((with_reducible refine gC (f := 23) rfl ?_); refine goesL_ (some 40) rfl rfl Try.func23 (by kernel_rfl) rfl #[.int .i64 ((rd_T46 l0_2 x3_2).f0), .int .i64 0, .int .i64 (wrap64 (a0_0 - 1))] rfl zG ?_; (with_reducible refine (spec_l1In.calls ((rd_T46 l0_2 x3_2).f0) 0 (wrap64 (a0_0 - 1)) true _ A13.o).mono ?_); rintro e w' ⟨rfl, ⟨nd, rfl⟩⟩; refine ⟨_, rfl, ?_⟩) | (go_at_call 23; (with_reducible refine (spec_l1In.calls ((rd_T46 l0_2 x3_2).f3) 0 (wrap64 (a0_0 - 1)) true _ A15.o).mono ?_); rintro e w' ⟨rfl, ⟨nd, rfl⟩⟩) | (go_at_call 23; (with_reducible refine (spec_l1In.calls ((rd_T46 l0_2 x3_2).f2) 0 5 false _ A17.o).mono ?_); rintro e w' ⟨rfl, ⟨nd, rfl⟩⟩))
          go_ret
          exact ⟨zE, zB HB⟩
        ·replace c16 := Bool.eq_false_iff.mpr c16
         subst c16
         have H1 : (some false) = some r := by rw [if_neg (show ¬ (false = true) by decide)] at H; exact H
         clear H
         have H := H1
         clear H1
         obtain rfl := oI H
         obtain ⟨z54_0, z54_1, z54_2, f54_0, f54_1, f54_2⟩ := bq3 BK534
         have p536 : 0 ≤ (x3_2 : Int) := zD
         have q536 : x3_2 < (l0_2.length : Int) := zD
         obtain ⟨ad536, e536, hx536_0, hx536_1, hx536_2, hx536_3⟩ := at_T46 HR0_2.o x3_2 p536 q536
         cases e536
         replace hx536_0 := hL HB hx536_0
         replace hx536_1 := hL HB hx536_1
         replace hx536_2 := hL HB hx536_2
         replace hx536_3 := hL HB hx536_3
         replace p536 := eq_true p536
         replace q536 := eq_true q536
         go_wp2_with (first | ((with_reducible refine gD (N := 4) rfl ?_); (try (refine gate_guard (by rfl) ?_; dsimp only)); refine box_event ?hg (N := 4) ?hd (cs := #[.int .i64 0, .bool false, .int .i64 0, .int .i64 0]) (t := 46) ?hr ?_; (case hd => rfl); (case hg => rfl); (case hr => first | (go_simp; done) | (go_simp; rfl)); intro gb537 hg w55 hbox hb; have BK537 := aM (hbox); have GW537 := gS HB hg; have GE537 := gS HB hg; replace HB := bS HB hb; have NB534_537 := nL BK534 hg; have NB537_534 := nR BK534 hg; replace BK534 := kB BK534 hb; clear hb hbox hg; have hnb56 := NB537_534.o; have hnc56 := NB534_537.o; obtain ⟨z57_0, z57_1, z57_2, z57_3, f57_0, f57_1, f57_2, f57_3⟩ := bq4 BK537; obtain ⟨z58_0, z58_1, z58_2, f58_0, f58_1, f58_2⟩ := bq3 BK534) | ((with_reducible refine gC (f := 23) rfl ?_); refine goesL_ (some 40) rfl rfl Try.func23 (by kernel_rfl) rfl #[.int .i64 ((rd_T46 l0_2 x3_2).f0), .int .i64 0, .int .i64 (wrap64 (a0_0 - 1))] rfl zG ?_; (with_reducible refine (spec_l1In.calls ((rd_T46 l0_2 x3_2).f0) 0 (wrap64 (a0_0 - 1)) true _ A13.o).mono ?_); rintro e w' ⟨rfl, ⟨nd, rfl⟩⟩; refine ⟨_, rfl, ?_⟩) | (go_at_call 23; (with_reducible refine (spec_l1In.calls ((rd_T46 l0_2 x3_2).f3) 0 (wrap64 (a0_0 - 1)) false _ A15.o).mono ?_); rintro e w' ⟨rfl, ⟨nd, rfl⟩⟩))
         go_ret
         exact ⟨zE, zB HB⟩
       ·replace c14 := Bool.eq_false_iff.mpr c14
        subst c14
        have H1 : (some false) = some r := by rw [if_neg (show ¬ (false = true) by decide)] at H; exact H
        clear H
        have H := H1
        clear H1
        obtain rfl := oI H
        obtain ⟨z59_0, z59_1, z59_2, f59_0, f59_1, f59_2⟩ := bq3 BK534
        have p536 : 0 ≤ (x3_2 : Int) := zD
        have q536 : x3_2 < (l0_2.length : Int) := zD
        obtain ⟨ad536, e536, hx536_0, hx536_1, hx536_2, hx536_3⟩ := at_T46 HR0_2.o x3_2 p536 q536
        cases e536
        replace hx536_0 := hL HB hx536_0
        replace hx536_1 := hL HB hx536_1
        replace hx536_2 := hL HB hx536_2
        replace hx536_3 := hL HB hx536_3
        replace p536 := eq_true p536
        replace q536 := eq_true q536
        go_wp2_with (first | ((with_reducible refine gD (N := 4) rfl ?_); (try (refine gate_guard (by rfl) ?_; dsimp only)); refine box_event ?hg (N := 4) ?hd (cs := #[.int .i64 0, .bool false, .int .i64 0, .int .i64 0]) (t := 46) ?hr ?_; (case hd => rfl); (case hg => rfl); (case hr => first | (go_simp; done) | (go_simp; rfl)); intro gb537 hg w60 hbox hb; have BK537 := aM (hbox); have GW537 := gS HB hg; have GE537 := gS HB hg; replace HB := bS HB hb; have NB534_537 := nL BK534 hg; have NB537_534 := nR BK534 hg; replace BK534 := kB BK534 hb; clear hb hbox hg; have hnb61 := NB537_534.o; have hnc61 := NB534_537.o; obtain ⟨z62_0, z62_1, z62_2, z62_3, f62_0, f62_1, f62_2, f62_3⟩ := bq4 BK537; obtain ⟨z63_0, z63_1, z63_2, f63_0, f63_1, f63_2⟩ := bq3 BK534) | ((with_reducible refine gC (f := 23) rfl ?_); refine goesL_ (some 40) rfl rfl Try.func23 (by kernel_rfl) rfl #[.int .i64 ((rd_T46 l0_2 x3_2).f0), .int .i64 0, .int .i64 (wrap64 (a0_0 - 1))] rfl zG ?_; (with_reducible refine (spec_l1In.calls ((rd_T46 l0_2 x3_2).f0) 0 (wrap64 (a0_0 - 1)) false _ A13.o).mono ?_); rintro e w' ⟨rfl, ⟨nd, rfl⟩⟩; refine ⟨_, rfl, ?_⟩))
        go_ret
        exact ⟨zE, zB HB⟩
      ·rw [if_neg c11] at H
       have c11b0 : decide (x3_2 < (l0_2.length : Int)) = false := decide_eq_false c11
       clear c11
       obtain rfl := oI H
       obtain ⟨z64_0, z64_1, z64_2, f64_0, f64_1, f64_2⟩ := bq3 BK534
       go_wp2
       go_ret
       exact ⟨zE, zB HB⟩

end Go.Proofs.Ytfibjclnaeocbaa.PFnPairs
