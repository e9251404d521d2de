-- WRITTEN by pp.py, this session's own wrapper around the print; not trusted: Lean checks it
import Derived.Test.YtfibjclnaeocbaaPFnChainx0
import Derived.Test.YtfibjclnaeocbaaPFnChainx12
import Derived.Test.YtfibjclnaeocbaaPFnChainx13
import Derived.Test.YtfibjclnaeocbaaPFnChainx14
namespace Go.Proofs.Ytfibjclnaeocbaa.PFnChain
open Go.RowKit Go.Proofs.Ytfibjclnaeocbaa.Hw Go.Proofs.YtfibjclnaeocbaaW.PrintWords Go.Proofs.YtfibjclnaeocbaaW.PrintLast Go.Proofs.YtfibjclnaeocbaaW.PrintMore
attribute [local go_sem] max2_int min2_int max_two min_two max_three min_three max_four min_four   -- for this text's walks alone
set_option linter.unusedVariables false
set_option linter.unusedSimpArgs false
set_option linter.unusedSectionVars false

/-! ### spec_Follows: function 35 -/
mutual
def spec_Follows.j0 : Nat → Bool → Int → List Bool → List (S46) → Int → List Bool → List (S46) → Option (Bool)
 | 0, _, _, _, _, _, _, _ => none
 | k + 1, x14, x515000, x515001, x515002, x516000, x516001, x516002 => if x14 = true then (some false) else ((spec_FollowPairs.f k x515000 x515001 x515002 x516000 x516001 x516002).bind fun t518 => (spec_Follows.l0 k t518 0 x515000 x515001 x515002 x516000 x516001 x516002))
def spec_Follows.l0 : Nat → List (List Int) → Int → Int → List Bool → List (S46) → Int → List Bool → List (S46) → Option (Bool)
 | 0, _, _, _, _, _, _, _, _ => none
 | k + 1, x5, x6, x515000, x515001, x515002, x516000, x516001, x516002 => if x6 < (x5.length : Int) then (if 0 ≤ x6 then (if 0 < ((rd_L7 x5 x6).length : Int) then (if 1 < ((rd_L7 x5 x6).length : Int) then ((spec_FollowsAt.f k x515000 x515001 x515002 x516000 x516001 x516002 (rd (rd_L7 x5 x6) 0) (rd (rd_L7 x5 x6) 1)).bind fun t525 => (if t525 = true then (spec_Follows.l0 k x5 (wrap64 (x6 + 1)) x515000 x515001 x515002 x516000 x516001 x516002) else (some false))) else (none)) else (none)) else (none)) else (some true)
end
def spec_Follows.f (k : Nat) (a0_0 : Int) (l0_1 : List Bool) (l0_2 : List (S46)) (a1_0 : Int) (l1_1 : List Bool) (l1_2 : List (S46)) : Option (Bool) := (spec_IsMachine.f k a0_0 l0_1 l0_2).bind fun t516 => (if t516 = true then ((spec_IsMachine.f k a1_0 l1_1 l1_2).bind fun t517 => (spec_Follows.j0 k (!t517) a0_0 l0_1 l0_2 a1_0 l1_1 l1_2)) else (spec_Follows.j0 k true a0_0 l0_1 l0_2 a1_0 l1_1 l1_2))
theorem spec_Follows.mono_l : ∀ k, (∀ y0 y1 y2 y3 y4 y5 y6, LeO (spec_Follows.j0 k y0 y1 y2 y3 y4 y5 y6) (spec_Follows.j0 (k + 1) y0 y1 y2 y3 y4 y5 y6)) ∧ (∀ y0 y1 y2 y3 y4 y5 y6 y7, LeO (spec_Follows.l0 k y0 y1 y2 y3 y4 y5 y6 y7) (spec_Follows.l0 (k + 1) y0 y1 y2 y3 y4 y5 y6 y7))
 | 0 => ⟨fun _ _ _ _ _ _ _ r h => by simp [spec_Follows.j0] at h, fun _ _ _ _ _ _ _ _ r h => by simp [spec_Follows.l0] at h⟩
 | k + 1 => by
  obtain ⟨ih0, ih1⟩ := spec_Follows.mono_l k
  refine ⟨?a0, ?a1⟩
  case' a0 => intros; unfold spec_Follows.j0
  case' a1 => intros; unfold spec_Follows.l0
  all_goals repeat' first
  | (with_reducible exact ih0 _ _ _ _ _ _ _)
  | (with_reducible exact ih1 _ _ _ _ _ _ _ _)
  | (with_reducible exact spec_FollowPairs.mono _ _ _ _ _ _ _)
  | (with_reducible exact spec_FollowsAt.mono _ _ _ _ _ _ _ _ _)
  | (with_reducible exact spec_IsMachine.mono _ _ _ _)
  | (with_reducible exact LeO.refl _)
  | (with_reducible exact LeO.none _)
  | (with_reducible refine LeO.ite ?_ ?_)
  | (with_reducible refine LeO.bind ?_ (fun _ => ?_))
  | exact ih0 _ _ _ _ _ _ _
  | exact ih1 _ _ _ _ _ _ _ _
  | exact spec_FollowPairs.mono _ _ _ _ _ _ _
  | exact spec_FollowsAt.mono _ _ _ _ _ _ _ _ _
  | exact spec_IsMachine.mono _ _ _ _
  | exact LeO.none _
  | refine LeO.ite ?_ ?_
  | refine LeO.bind ?_ (fun _ => ?_)
theorem spec_Follows.mono : ∀ a0 a1 a2 a3 a4 a5 k, LeO (spec_Follows.f k a0 a1 a2 a3 a4 a5) (spec_Follows.f (k + 1) a0 a1 a2 a3 a4 a5) := by
 intro a0 a1 a2 a3 a4 a5 k
 obtain ⟨ih0, ih1⟩ := spec_Follows.mono_l k
 unfold spec_Follows.f
 repeat' first
   | (with_reducible exact ih0 _ _ _ _ _ _ _)
   | (with_reducible exact ih1 _ _ _ _ _ _ _ _)
   | (with_reducible exact spec_FollowPairs.mono _ _ _ _ _ _ _)
   | (with_reducible exact spec_FollowsAt.mono _ _ _ _ _ _ _ _ _)
   | (with_reducible exact spec_IsMachine.mono _ _ _ _)
   | (with_reducible exact LeO.refl _)
   | (with_reducible exact LeO.none _)
   | (with_reducible refine LeO.ite ?_ ?_)
   | (with_reducible refine LeO.bind ?_ (fun _ => ?_))
   | exact ih0 _ _ _ _ _ _ _
   | exact ih1 _ _ _ _ _ _ _ _
   | exact spec_FollowPairs.mono _ _ _ _ _ _ _
   | exact spec_FollowsAt.mono _ _ _ _ _ _ _ _ _
   | exact spec_IsMachine.mono _ _ _ _
   | exact LeO.none _
   | refine LeO.ite ?_ ?_
   | refine LeO.bind ?_ (fun _ => ?_)
def spec_Follows.T7 : Bool × List (List Nat × List Nat) := (true, [([], []), ([], []), ([], []), ([], []), ([2, 3], [2, 3]), ([4], [4]), ([5], [5]), ([6], [6]), ([], []), ([], []), ([8, 9], [8, 9]), ([10], [10]), ([11], [11]), ([12], [12]), ([0, 1, 7, 13], [0, 1, 7, 13]), ([14], [14])])
def spec_Follows.B7 : List Nat := [0, 0, 0, 0, 12, 28, 60, 124, 0, 0, 768, 1792, 3840, 7936, 16383, 32767]
theorem spec_Follows.tab7 : rtab .any (opsOf Try.f35 7) = spec_Follows.T7 := by kernel_rfl
theorem spec_Follows.bits7 : waitsOk spec_Follows.T7.2 spec_Follows.B7 = true := by kernel_rfl
set_option maxHeartbeats 8000000 in
set_option maxRecDepth 100000 in
theorem spec_Follows.calls (k : Nat) (a0_0 : Int) (A0_1 : Option Addr) (c0_1 : Nat) (l0_1 : List Bool) (A0_2 : Option Addr) (c0_2 : Nat) (l0_2 : List (S46)) (a1_0 : Int) (A1_1 : Option Addr) (c1_1 : Nat) (l1_1 : List Bool) (A1_2 : Option Addr) (c1_2 : Nat) (l1_2 : List (S46)) (r : Bool) (w : World) (hr0_1 : Kd.C Kd.bool w A0_1 l0_1.length l0_1) (hc0_1 : l0_1.length ≤ c0_1) (hr0_2 : Kd.C k46 w A0_2 l0_2.length l0_2) (hc0_2 : l0_2.length ≤ c0_2) (hr1_1 : Kd.C Kd.bool w A1_1 l1_1.length l1_1) (hc1_1 : l1_1.length ≤ c1_1) (hr1_2 : Kd.C k46 w A1_2 l1_2.length l1_2) (hc1_2 : l1_2.length ≤ c1_2) (h : spec_Follows.f k a0_0 l0_1 l0_2 a1_0 l1_1 l1_2 = some r) :
  Calls Try.prog 35 #[.agg #[.int .i64 a0_0, .slice A0_1 l0_1.length c0_1, .slice A0_2 l0_2.length c0_2], .agg #[.int .i64 a1_0, .slice A1_1 l1_1.length c1_1, .slice A1_2 l1_2.length c1_2]] w fun e w' => e = .returned (.bool r) ∧ Below w.heap.size w w' := by
 have hu27 := Try.underlying27
 have HR0_1 := Aside0.mk hr0_1
 have HC0_1 := Aside0.mk hc0_1
 clear hr0_1 hc0_1
 have HR0_2 := Aside0.mk hr0_2
 have HC0_2 := Aside0.mk hc0_2
 clear hr0_2 hc0_2
 have HR1_1 := Aside0.mk hr1_1
 have HC1_1 := Aside0.mk hc1_1
 clear hr1_1 hc1_1
 have HR1_2 := Aside0.mk hr1_2
 have HC1_2 := Aside0.mk hc1_2
 clear hr1_2 hc1_2
 have HB := Aside0.mk (Below.refl w.heap.size w)
 have H : ((spec_IsMachine.f k a0_0 l0_1 l0_2).bind fun t516 => (if t516 = true then ((spec_IsMachine.f k a1_0 l1_1 l1_2).bind fun t517 => (spec_Follows.j0 k (!t517) a0_0 l0_1 l0_2 a1_0 l1_1 l1_2)) else (spec_Follows.j0 k true a0_0 l0_1 l0_2 a1_0 l1_1 l1_2))) = some r := h
 clear h
 have HC3 := Aside0.mk H
 clear H
 go_enter Try.func35, Try.ntmps35
 go_upto_region 1 with (first | ((with_reducible refine gate_dst (N := 2) rfl ?_); refine box_event ?hg (N := 2) ?hd (cs := #[.int .i64 a0_0, .slice A0_1 l0_1.length c0_1, .slice A0_2 l0_2.length c0_2]) (t := 27) ?hr ?_; (case hd => rfl); (case hg => rfl); (case hr => first | (go_simp; done) | (go_simp; rfl)); intro gb514 hg w4 hbox hb; have BK514 := Aside0.mk (hbox); have GW514 := gS HB hg; have GE514 := gS HB hg; replace HB := bS HB hb; clear hb hbox hg) | ((with_reducible refine gate_dst (N := 3) rfl ?_); refine box_event ?hg (N := 3) ?hd (cs := #[.int .i64 a1_0, .slice A1_1 l1_1.length c1_1, .slice A1_2 l1_2.length c1_2]) (t := 27) ?hr ?_; (case hd => rfl); (case hg => rfl); (case hr => first | (go_simp; done) | (go_simp; rfl)); intro gb515 hg w5 hbox hb; have BK515 := Aside0.mk (hbox); have GW515 := gS HB hg; have GE515 := gS HB hg; replace HB := bS HB hb; have NB514_515 := nL BK514 hg; have NB515_514 := nR BK514 hg; replace BK514 := kB BK514 hb; clear hb hbox hg))
 (try simp only [Act.put, List.setIfInBounds_toArray, List.set_cons_zero, List.set_cons_succ])
 go_cut [14] (fun v14 wc => ∃ (kq : Nat) (x14_2 : Bool), v14 = .bool x14_2 ∧ Aside0 (spec_Follows.j0 kq x14_2 a0_0 l0_1 l0_2 a1_0 l1_1 l1_2 = some r) ∧ Aside0 (kq ≤ k) ∧ Aside0 (wc.heap[gb514]? = some (.cells #[.int .i64 a0_0, (.slice A0_1 l0_1.length c0_1), (.slice A0_2 l0_2.length c0_2)] 27 (0, 0))) ∧ Aside0 (wc.heap[gb515]? = some (.cells #[.int .i64 a1_0, (.slice A1_1 l1_1.length c1_1), (.slice A1_2 l1_2.length c1_2)] 27 (0, 0))) ∧ Aside0 (Below w.heap.size w wc))
 case first =>
  have H := HC3.out
  clear HC3
  obtain ⟨t516, A6, H⟩ := bindS H
  by_cases c7 : t516 = true
  ·subst c7
   have H1 : ((spec_IsMachine.f k a1_0 l1_1 l1_2).bind fun t517 => (spec_Follows.j0 k (!t517) a0_0 l0_1 l0_2 a1_0 l1_1 l1_2)) = some r := by rw [if_pos rfl] at H; exact H
   clear H
   have H := H1
   clear H1
   obtain ⟨t517, A8, H⟩ := bindS H
   have H' := Aside0.mk H
   clear H
   have hnb9 := NB514_515.out
   have hnc9 := NB515_514.out
   obtain ⟨hcz10_0, hcz10_1, hcz10_2, hfz10_0, hfz10_1, hfz10_2⟩ := bq3 BK514
   go_wp2_with (first | ((with_reducible refine gate_callee (f := 11) rfl ?_); refine goesL_ (some 8) rfl rfl Try.func11 (by kernel_rfl) rfl #[.agg #[.int .i64 a0_0, .slice A0_1 l0_1.length c0_1, .slice A0_2 l0_2.length c0_2]] rfl zG ?_; (with_reducible refine (spec_IsMachine.calls k a0_0 _ _ l0_1 _ _ l0_2 true _ ?side1 ?side2 ?side3 ?side4 A6.out).mono ?_); (case side1 => exact cS HR0_1 HB); (case side2 => exact HC0_1.out); (case side3 => exact cS HR0_2 HB); (case side4 => exact HC0_2.out); rintro e w11 ⟨rfl, hb⟩; refine ⟨_, rfl, ?_⟩; replace BK514 := kB BK514 hb; replace BK515 := kB BK515 hb; replace HB := bS HB hb; (try clear hb); obtain ⟨hcz12_0, hcz12_1, hcz12_2, hfz12_0, hfz12_1, hfz12_2⟩ := bq3 BK515) | (go_at_call 11; (with_reducible refine (spec_IsMachine.calls k a1_0 _ _ l1_1 _ _ l1_2 t517 _ ?side1 ?side2 ?side3 ?side4 A8.out).mono ?_); (case side1 => exact cS HR1_1 HB); (case side2 => exact HC1_1.out); (case side3 => exact cS HR1_2 HB); (case side4 => exact HC1_2.out); rintro e w13 ⟨rfl, hb⟩; replace BK514 := kB BK514 hb; replace BK515 := kB BK515 hb; replace HB := bS HB hb; (try clear hb)))
   go_meet
   case rel => exact ⟨_, (!t517), zF, H', ⟨by first | omega | exact Nat.le_refl _⟩, ⟨zK BK514⟩, ⟨zK BK515⟩, ⟨zB HB⟩⟩
  ·replace c7 := Bool.eq_false_iff.mpr c7
   subst c7
   have H1 : (spec_Follows.j0 k true a0_0 l0_1 l0_2 a1_0 l1_1 l1_2) = some r := by rw [if_neg (show ¬ (false = true) by decide)] at H; exact H
   clear H
   have H := H1
   clear H1
   have H' := Aside0.mk H
   clear H
   have hnb14 := NB514_515.out
   have hnc14 := NB515_514.out
   obtain ⟨hcz15_0, hcz15_1, hcz15_2, hfz15_0, hfz15_1, hfz15_2⟩ := bq3 BK514
   go_wp2_with (first | ((with_reducible refine gate_callee (f := 11) rfl ?_); refine goesL_ (some 8) rfl rfl Try.func11 (by kernel_rfl) rfl #[.agg #[.int .i64 a0_0, .slice A0_1 l0_1.length c0_1, .slice A0_2 l0_2.length c0_2]] rfl zG ?_; (with_reducible refine (spec_IsMachine.calls k a0_0 _ _ l0_1 _ _ l0_2 false _ ?side1 ?side2 ?side3 ?side4 A6.out).mono ?_); (case side1 => exact cS HR0_1 HB); (case side2 => exact HC0_1.out); (case side3 => exact cS HR0_2 HB); (case side4 => exact HC0_2.out); rintro e w16 ⟨rfl, hb⟩; refine ⟨_, rfl, ?_⟩; replace BK514 := kB BK514 hb; replace BK515 := kB BK515 hb; replace HB := bS HB hb; (try clear hb)))
   go_meet
   case rel => exact ⟨_, (true), zF, H', ⟨by first | omega | exact Nat.le_refl _⟩, ⟨zK BK514⟩, ⟨zK BK515⟩, ⟨zB HB⟩⟩
 case rest =>
  clear HC3
  try clear c1
  try clear p2
  try clear c3
  try clear c7
  try clear c9
  try clear c11
  try clear c14
  try clear hcz10_0
  try clear hcz10_1
  try clear hcz10_2
  try clear hcz12_0
  try clear hcz12_1
  try clear hcz12_2
  try clear hcz15_0
  try clear hcz15_1
  try clear hcz15_2
  try clear hfz10_0
  try clear hfz10_1
  try clear hfz10_2
  try clear hfz12_0
  try clear hfz12_1
  try clear hfz12_2
  try clear hfz15_0
  try clear hfz15_1
  try clear hfz15_2
  obtain ⟨kq, x14_2, rfl, HA, HJ2, BK514, BK515, HB⟩ := hcut
  cases kq with
  | zero => exact absurd HA.out (by simp [spec_Follows.j0])
  | succ kj2 =>
   have H := HA.out
   clear HA
   simp only [spec_Follows.j0] at H
   by_cases c17 : x14_2 = true
   ·subst c17
    have H1 : (some false) = some r := by rw [if_pos rfl] at H; exact H
    clear H
    have H := H1
    clear H1
    obtain rfl := Option.some.inj H
    go_wp2
    go_ret
    exact ⟨zE, zB HB⟩
   ·replace c17 := Bool.eq_false_iff.mpr c17
    subst c17
    have H1 : ((spec_FollowPairs.f kj2 a0_0 l0_1 l0_2 a1_0 l1_1 l1_2).bind fun t518 => (spec_Follows.l0 kj2 t518 0 a0_0 l0_1 l0_2 a1_0 l1_1 l1_2)) = some r := by rw [if_neg (show ¬ (false = true) by decide)] at H; exact H
    clear H
    have H := H1
    clear H1
    obtain ⟨t518, A18, H⟩ := bindS H
    have H' := Aside0.mk H
    clear H
    have hnb19 := NB514_515.out
    have hnc19 := NB515_514.out
    obtain ⟨hcz20_0, hcz20_1, hcz20_2, hfz20_0, hfz20_1, hfz20_2⟩ := bq3 BK514
    obtain ⟨hcz21_0, hcz21_1, hcz21_2, hfz21_0, hfz21_1, hfz21_2⟩ := bq3 BK515
    go_wp2_with (first | ((with_reducible refine gate_callee (f := 50) rfl ?_); refine goesL_ (some 17) rfl rfl Try.func50 (by kernel_rfl) rfl #[.agg #[.int .i64 a0_0, .slice A0_1 l0_1.length c0_1, .slice A0_2 l0_2.length c0_2], .agg #[.int .i64 a1_0, .slice A1_1 l1_1.length c1_1, .slice A1_2 l1_2.length c1_2]] rfl zG ?_; (with_reducible refine (spec_FollowPairs.calls kj2 a0_0 _ _ l0_1 _ _ l0_2 a1_0 _ _ l1_1 _ _ l1_2 t518 _ ?side1 ?side2 ?side3 ?side4 ?side5 ?side6 ?side7 ?side8 A18.out).mono ?_); (case side1 => exact cS HR0_1 HB); (case side2 => exact HC0_1.out); (case side3 => exact cS HR0_2 HB); (case side4 => exact HC0_2.out); (case side5 => exact cS HR1_1 HB); (case side6 => exact HC1_1.out); (case side7 => exact cS HR1_2 HB); (case side8 => exact HC1_2.out); rintro e w22 ⟨v519, rfl, ho0, hb⟩; refine ⟨_, rfl, ?_⟩; have HO520 := Aside0.mk (Kd.S_lower ho0 (below_size (zB HB))); replace BK514 := kB BK514 hb; replace BK515 := kB BK515 hb; replace HB := bS HB hb; (try clear hb); (try clear ho0)))
    go_loopg [6] kj2 (fun kq v6 w' => ∃ (x6_2 : Int), v6 = .int .i64 x6_2 ∧ Aside0 (spec_Follows.l0 kq t518 x6_2 a0_0 l0_1 l0_2 a1_0 l1_1 l1_2 = some r) ∧ Aside0 (kq ≤ kj2) ∧ Aside0 (Kd.S (Kd.slice 3 (Kd.int .i64)) 31 w' w.heap.size (fun _ => True) v519 t518) ∧ Aside0 (w'.heap[gb514]? = some (.cells #[.int .i64 a0_0, (.slice A0_1 l0_1.length c0_1), (.slice A0_2 l0_2.length c0_2)] 27 (0, 0))) ∧ Aside0 (w'.heap[gb515]? = some (.cells #[.int .i64 a1_0, (.slice A1_1 l1_1.length c1_1), (.slice A1_2 l1_2.length c1_2)] 27 (0, 0))) ∧ Aside0 (Below w.heap.size w w'))
    case atStart => exact ⟨(0), zF, H', ⟨Nat.le_refl _⟩, ⟨zS HO520⟩, ⟨zK BK514⟩, ⟨zK BK515⟩, ⟨zB HB⟩⟩
    case round =>
     clear H'
     try clear c1
     try clear p2
     try clear c3
     try clear c5
     try clear c7
     try clear c9
     try clear c11
     try clear c14
     try clear c17
     try clear c19
     try clear hcz10_0
     try clear hcz10_1
     try clear hcz10_2
     try clear hcz12_0
     try clear hcz12_1
     try clear hcz12_2
     try clear hcz15_0
     try clear hcz15_1
     try clear hcz15_2
     try clear hcz20_0
     try clear hcz20_1
     try clear hcz20_2
     try clear hcz21_0
     try clear hcz21_1
     try clear hcz21_2
     try clear hfz10_0
     try clear hfz10_1
     try clear hfz10_2
     try clear hfz12_0
     try clear hfz12_1
     try clear hfz12_2
     try clear hfz15_0
     try clear hfz15_1
     try clear hfz15_2
     try clear hfz20_0
     try clear hfz20_1
     try clear hfz20_2
     try clear hfz21_0
     try clear hfz21_1
     try clear hfz21_2
     try clear p2
     obtain ⟨x6_2, rfl, HA, HK2, HO_5, BK514, BK515, HB⟩ := hrel
     cases gk with
     | zero => exact absurd HA.out (by simp [spec_Follows.l0])
     | succ k2 =>
      have H := HA.out
      clear HA
      simp only [spec_Follows.l0] at H
      by_cases c23 : x6_2 < (t518.length : Int)
      ·rw [if_pos c23] at H
       have c23b0 : decide (x6_2 < (t518.length : Int)) = true := decide_eq_true c23
       clear c23
       obtain ⟨c24, H⟩ := ifS H
       have c24b0 : decide (0 ≤ x6_2) = true := decide_eq_true c24
       clear c24
       obtain ⟨c25, H⟩ := ifS H
       have c25b0 : decide (0 < ((rd_L7 t518 x6_2).length : Int)) = true := decide_eq_true c25
       have c25b1 : decide (0 < (rd_L7 t518 x6_2).length) = true := decide_eq_true (by omega)
       clear c25
       obtain ⟨c26, H⟩ := ifS H
       have c26b0 : decide (1 < ((rd_L7 t518 x6_2).length : Int)) = true := decide_eq_true c26
       have c26b1 : decide (1 < (rd_L7 t518 x6_2).length) = true := decide_eq_true (by omega)
       clear c26
       obtain ⟨t525, A27, H⟩ := bindS H
       by_cases c28 : t525 = true
       ·subst c28
        have H1 : (spec_Follows.l0 k2 t518 (wrap64 (x6_2 + 1)) a0_0 l0_1 l0_2 a1_0 l1_1 l1_2) = some r := by rw [if_pos rfl] at H; exact H
        clear H
        have H := H1
        clear H1
        have H' := Aside0.mk H
        clear H
        obtain ⟨Ao29, co29, eo29⟩ := Kd.S_slice HO_5.out
        subst eo29
        try go_wp2
        replace HO_5 := Aside0.mk (Kd.S_drew HO_5.out)
        replace BK514 := Aside0.mk (blk_drew BK514.out)
        replace BK515 := Aside0.mk (blk_drew BK515.out)
        replace HB := Aside0.mk (below_drew1 HB.out)
        have p521 : 0 ≤ (x6_2 : Int) := zD
        have q521 : x6_2 < (t518.length : Int) := zD
        obtain ⟨ad521, A521_0, c521_0, e521, hx521_0, hl521_0, hi521_0⟩ := at_L7 (Kd.S_reads' HO_5.out).2.2 x6_2 p521 q521
        cases e521
        obtain ⟨ce521, hce521, hMe521, hcc521⟩ := Kd.S_get HO_5.out [] x6_2 p521 (by first | exact q521 | exact zD | (have e_ := (Kd.S_reads' HO_5.out).1; omega))
        obtain ⟨ve521_0, rfl, ge521_0⟩ := hMe521
        have hv521_0 := hcc521 0 _ rfl
        rw [Nat.add_zero, show ((Kd.slice 3 (Kd.int .i64))).sz = 1 from rfl, Nat.mul_one] at hv521_0
        replace hv521_0 := Option.some.inj (hv521_0.symm.trans hx521_0)
        rw [hv521_0] at ge521_0
        have HL521_0 := Aside0.mk (show Kd.R (Kd.int .i64) 3 _ _ _ _ (rd_L7 t518 x6_2) from ge521_0)
        clear hv521_0 ge521_0
        clear hcc521 hce521
        have HR521_0 := Aside0.mk hi521_0
        have HC521_0 := Aside0.mk hl521_0
        clear hi521_0 hl521_0
        replace p521 := eq_true p521
        replace q521 := eq_true q521
        have p522 : 0 ≤ (0 : Int) := (by omega)
        have q522 : 0 < ((rd_L7 t518 x6_2).length : Int) := zD
        obtain ⟨ad522, e522, hx522_0⟩ := Kd.at_int (by repeat (first | (with_reducible exact HR521_0.out) | (with_reducible refine Kd.C_alloc ?_ _) | (with_reducible refine Kd.C_drewN ?_ _) | (with_reducible refine Kd.C_drew ?_) | exact HR521_0.out)) 0 p522 q522
        cases e522
        have qi522 : (0 < (rd_L7 t518 x6_2).length) = True := eq_true (by omega)
        (try rw [show ((0 : Int)).toNat = 0 from rfl] at hx522_0)
        (try rw [Addr.add_zero'] at hx522_0)
        replace p522 := eq_true p522
        replace q522 := eq_true q522
        have p523 : 0 ≤ (x6_2 : Int) := zD
        have q523 : x6_2 < (t518.length : Int) := zD
        obtain ⟨ad523, A523_0, c523_0, e523, hx523_0, hl523_0, hi523_0⟩ := at_L7 (Kd.S_reads' HO_5.out).2.2 x6_2 p523 q523
        obtain rfl : ad521 = ad523 := (by injection e523)
        obtain ⟨ce523, hce523, hMe523, hcc523⟩ := Kd.S_get HO_5.out [] x6_2 p523 (by first | exact q523 | exact zD | (have e_ := (Kd.S_reads' HO_5.out).1; omega))
        obtain ⟨ve523_0, rfl, ge523_0⟩ := hMe523
        have hv523_0 := hcc523 0 _ rfl
        rw [Nat.add_zero, show ((Kd.slice 3 (Kd.int .i64))).sz = 1 from rfl, Nat.mul_one] at hv523_0
        replace hv523_0 := Option.some.inj (hv523_0.symm.trans hx523_0)
        rw [hv523_0] at ge523_0
        have HL523_0 := Aside0.mk (show Kd.R (Kd.int .i64) 3 _ _ _ _ (rd_L7 t518 x6_2) from ge523_0)
        clear hv523_0 ge523_0
        clear hcc523 hce523
        have HR523_0 := Aside0.mk hi523_0
        have HC523_0 := Aside0.mk hl523_0
        clear hi523_0 hl523_0
        replace p523 := eq_true p523
        replace q523 := eq_true q523
        have ea_ := Option.some.inj (hx521_0.symm.trans hx523_0)
        injection ea_ with ea_ en_ ec_
        subst ea_
        subst ec_
        clear en_
        have p524 : 0 ≤ (1 : Int) := (by omega)
        have q524 : 1 < ((rd_L7 t518 x6_2).length : Int) := zD
        obtain ⟨ad524, e524, hx524_0⟩ := Kd.at_int (by repeat (first | (with_reducible exact HR523_0.out) | (with_reducible refine Kd.C_alloc ?_ _) | (with_reducible refine Kd.C_drewN ?_ _) | (with_reducible refine Kd.C_drew ?_) | exact HR523_0.out)) 1 p524 q524
        cases e524
        (try simp only [show (1 : Int).toNat = 1 from rfl, Nat.reduceMul, Nat.reduceEqDiff, Go.Addr.add, ↓reduceIte] at hx524_0)
        have qi524 : (1 < (rd_L7 t518 x6_2).length) = True := eq_true (by omega)
        (try rw [show ((1 : Int)).toNat = 1 from rfl] at hx524_0)
        replace p524 := eq_true p524
        replace q524 := eq_true q524
        refine start_ (n := 16) (S := fun w' => w'.cell? ⟨gb514, 0, none⟩ = some (.int .i64 a0_0) ∧ w'.cell? ⟨gb514, 1, none⟩ = some (.slice A0_1 l0_1.length c0_1) ∧ w'.cell? ⟨gb514, 2, none⟩ = some (.slice A0_2 l0_2.length c0_2) ∧ w'.cell? ⟨gb515, 0, none⟩ = some (.int .i64 a1_0) ∧ w'.cell? ⟨gb515, 1, none⟩ = some (.slice A1_1 l1_1.length c1_1) ∧ w'.cell? ⟨gb515, 2, none⟩ = some (.slice A1_2 l1_2.length c1_2) ∧ w'.cell? (ad521.add (x6_2).toNat) = some (.slice (some ad522) (rd_L7 t518 x6_2).length c521_0) ∧ w'.cell? ad522 = some (.int .i64 (rd (rd_L7 t518 x6_2) 0)) ∧ w'.cell? (ad521.add (x6_2).toNat) = some (.slice (some ad522) (rd_L7 t518 x6_2).length c521_0) ∧ w'.cell? ⟨ad522.block, ad522.off + 1, none⟩ = some (.int .i64 (rd (rd_L7 t518 x6_2) 1))) (ds := []) (bm 16 0) (by kernel_rfl) rfl (bm0 _) ⟨bc0 BK514, bc1 BK514, bc2 BK514, bc0 BK515, bc1 BK515, bc2 BK515, hx521_0, hx522_0, hx523_0, hx524_0⟩ (fun hHeld => ?_); refine with_tabW spec_Follows.tab7 spec_Follows.bits7 (fun HT_ HW_ => ?_)
        generalize wr.drew = w30 at HO_5 BK514 BK515 HB HL521_0 HL523_0 HR521_0 HR523_0 hx521_0 hx522_0 hx523_0 hx524_0 hHeld ⊢
        refine pU 2 (some 26) (bm 16 4) HT_ rfl rfl ?_
        refine pU 3 (some 27) (bm 16 12) HT_ rfl rfl ?_
        refine pU 4 (some 28) (bm 16 28) HT_ rfl rfl ?_
        refine pU 8 (some 32) (bm 16 284) HT_ rfl rfl ?_
        refine pU 9 (some 33) (bm 16 796) HT_ rfl rfl ?_
        refine pU 10 (some 34) (bm 16 1820) HT_ rfl rfl ?_
        refine tU 0 (some 24) (bm 16 1821) HT_ HW_ rfl rfl hHeld ?_
        refine tU 1 (some 25) (bm 16 1823) HT_ HW_ rfl rfl hHeld ?_
        refine tU 5 (some 29) (bm 16 1855) HT_ HW_ rfl rfl hHeld ?_
        refine pU 6 (some 30) (bm 16 1919) HT_ rfl rfl ?_
        refine tU 7 (some 31) (bm 16 2047) HT_ HW_ rfl rfl hHeld ?_
        refine tU 11 (some 35) (bm 16 4095) HT_ HW_ rfl rfl hHeld ?_
        refine pU 12 (some 36) (bm 16 8191) HT_ rfl rfl ?_
        refine tU 13 (some 37) (bm 16 16383) HT_ HW_ rfl rfl hHeld ?_
        refine one_ (i := 14) (N := some 38) (bm 16 32767) rfl rfl (one_of HT_.out (by kernel_rfl)) (by decide) (fun K hK => ?_)
        refine goes_ Try.func51 (by kernel_rfl) rfl #[.agg #[.int .i64 a0_0, .slice A0_1 l0_1.length c0_1, .slice A0_2 l0_2.length c0_2], .agg #[.int .i64 a1_0, .slice A1_1 l1_1.length c1_1, .slice A1_2 l1_2.length c1_2], .int .i64 (rd (rd_L7 t518 x6_2) 0), .int .i64 (rd (rd_L7 t518 x6_2) 1)] (by rfl) rfl rfl zG ?_
        with_reducible refine (spec_FollowsAt.calls k2 a0_0 _ _ l0_1 _ _ l0_2 a1_0 _ _ l1_1 _ _ l1_2 (rd (rd_L7 t518 x6_2) 0) (rd (rd_L7 t518 x6_2) 1) true _ ?side1 ?side2 ?side3 ?side4 ?side5 ?side6 ?side7 ?side8 A27.out).mono ?_
        (case side1 => exact cS HR0_1 HB)
        (case side2 => exact HC0_1.out)
        (case side3 => exact cS HR0_2 HB)
        (case side4 => exact HC0_2.out)
        (case side5 => exact cS HR1_1 HB)
        (case side6 => exact HC1_1.out)
        (case side7 => exact cS HR1_2 HB)
        (case side8 => exact HC1_2.out)
        rintro e w31 ⟨rfl, hb⟩
        have HS6_ := (hb.cell (World.block_lt_of_cell? _ _ (hHeld.2.2.2.2.2.2.1))).trans (hHeld.2.2.2.2.2.2.1)
        have HS7_ := (hb.cell (World.block_lt_of_cell? _ _ (hHeld.2.2.2.2.2.2.2.1))).trans (hHeld.2.2.2.2.2.2.2.1)
        have HS8_ := (hb.cell (World.block_lt_of_cell? _ _ (hHeld.2.2.2.2.2.2.2.2.1))).trans (hHeld.2.2.2.2.2.2.2.2.1)
        have HS9_ := (hb.cell (World.block_lt_of_cell? _ _ (hHeld.2.2.2.2.2.2.2.2.2))).trans (hHeld.2.2.2.2.2.2.2.2.2)
        refine ⟨_, rfl, ?_⟩
        replace HO_5 := Aside0.mk (Kd.S_below (zS HO_5) hb)
        replace HL521_0 := Aside0.mk (Kd.R_below (zR HL521_0) hb)
        replace HL523_0 := Aside0.mk (Kd.R_below (zR HL523_0) hb)
        replace BK514 := kB BK514 hb
        replace BK515 := kB BK515 hb
        replace HR521_0 := Aside0.mk (Kd.C_below (by repeat (first | (with_reducible exact HR521_0.out) | (with_reducible refine Kd.C_alloc ?_ _) | (with_reducible refine Kd.C_drewN ?_ _) | (with_reducible refine Kd.C_drew ?_) | exact HR521_0.out)) hb)
        replace HR523_0 := Aside0.mk (Kd.C_below (by repeat (first | (with_reducible exact HR523_0.out) | (with_reducible refine Kd.C_alloc ?_ _) | (with_reducible refine Kd.C_drewN ?_ _) | (with_reducible refine Kd.C_drew ?_) | exact HR523_0.out)) hb)
        replace HB := bS HB hb
        (try clear hb); (try clear hb2); (try clear hk); (try clear hi)
        refine hK.out _ _ ⟨bc0 BK514, bc1 BK514, bc2 BK514, bc0 BK515, bc1 BK515, bc2 BK515, HS6_, HS7_, HS8_, HS9_⟩ (fun hHeld => ?_)
        clear hK K
        refine nU 38 ?_
        refine pU 15 (some 39) (bm 16 65535) HT_ rfl rfl ?_
        refine done_ (done_of HT_.out (by kernel_rfl)) ?_
        try clear hHeld
        try go_wp2
        go_roundg k2
        case measure => have := HJ2.out; have := HK2.out; omega
        case rel => exact ⟨(wrap64 (x6_2 + 1)), zF, H', ⟨by have := HJ2.out; have := HK2.out; omega⟩, ⟨zS HO_5⟩, ⟨zK BK514⟩, ⟨zK BK515⟩, ⟨zB HB⟩⟩
       ·replace c28 := Bool.eq_false_iff.mpr c28
        subst c28
        have H1 : (some false) = some r := by rw [if_neg (show ¬ (false = true) by decide)] at H; exact H
        clear H
        have H := H1
        clear H1
        obtain rfl := Option.some.inj H
        obtain ⟨Ao32, co32, eo32⟩ := Kd.S_slice HO_5.out
        subst eo32
        try go_wp2
        replace HO_5 := Aside0.mk (Kd.S_drew HO_5.out)
        replace BK514 := Aside0.mk (blk_drew BK514.out)
        replace BK515 := Aside0.mk (blk_drew BK515.out)
        replace HB := Aside0.mk (below_drew1 HB.out)
        have p521 : 0 ≤ (x6_2 : Int) := zD
        have q521 : x6_2 < (t518.length : Int) := zD
        obtain ⟨ad521, A521_0, c521_0, e521, hx521_0, hl521_0, hi521_0⟩ := at_L7 (Kd.S_reads' HO_5.out).2.2 x6_2 p521 q521
        cases e521
        obtain ⟨ce521, hce521, hMe521, hcc521⟩ := Kd.S_get HO_5.out [] x6_2 p521 (by first | exact q521 | exact zD | (have e_ := (Kd.S_reads' HO_5.out).1; omega))
        obtain ⟨ve521_0, rfl, ge521_0⟩ := hMe521
        have hv521_0 := hcc521 0 _ rfl
        rw [Nat.add_zero, show ((Kd.slice 3 (Kd.int .i64))).sz = 1 from rfl, Nat.mul_one] at hv521_0
        replace hv521_0 := Option.some.inj (hv521_0.symm.trans hx521_0)
        rw [hv521_0] at ge521_0
        have HL521_0 := Aside0.mk (show Kd.R (Kd.int .i64) 3 _ _ _ _ (rd_L7 t518 x6_2) from ge521_0)
        clear hv521_0 ge521_0
        clear hcc521 hce521
        have HR521_0 := Aside0.mk hi521_0
        have HC521_0 := Aside0.mk hl521_0
        clear hi521_0 hl521_0
        replace p521 := eq_true p521
        replace q521 := eq_true q521
        have p522 : 0 ≤ (0 : Int) := (by omega)
        have q522 : 0 < ((rd_L7 t518 x6_2).length : Int) := zD
        obtain ⟨ad522, e522, hx522_0⟩ := Kd.at_int (by repeat (first | (with_reducible exact HR521_0.out) | (with_reducible refine Kd.C_alloc ?_ _) | (with_reducible refine Kd.C_drewN ?_ _) | (with_reducible refine Kd.C_drew ?_) | exact HR521_0.out)) 0 p522 q522
        cases e522
        have qi522 : (0 < (rd_L7 t518 x6_2).length) = True := eq_true (by omega)
        (try rw [show ((0 : Int)).toNat = 0 from rfl] at hx522_0)
        (try rw [Addr.add_zero'] at hx522_0)
        replace p522 := eq_true p522
        replace q522 := eq_true q522
        have p523 : 0 ≤ (x6_2 : Int) := zD
        have q523 : x6_2 < (t518.length : Int) := zD
        obtain ⟨ad523, A523_0, c523_0, e523, hx523_0, hl523_0, hi523_0⟩ := at_L7 (Kd.S_reads' HO_5.out).2.2 x6_2 p523 q523
        obtain rfl : ad521 = ad523 := (by injection e523)
        obtain ⟨ce523, hce523, hMe523, hcc523⟩ := Kd.S_get HO_5.out [] x6_2 p523 (by first | exact q523 | exact zD | (have e_ := (Kd.S_reads' HO_5.out).1; omega))
        obtain ⟨ve523_0, rfl, ge523_0⟩ := hMe523
        have hv523_0 := hcc523 0 _ rfl
        rw [Nat.add_zero, show ((Kd.slice 3 (Kd.int .i64))).sz = 1 from rfl, Nat.mul_one] at hv523_0
        replace hv523_0 := Option.some.inj (hv523_0.symm.trans hx523_0)
        rw [hv523_0] at ge523_0
        have HL523_0 := Aside0.mk (show Kd.R (Kd.int .i64) 3 _ _ _ _ (rd_L7 t518 x6_2) from ge523_0)
        clear hv523_0 ge523_0
        clear hcc523 hce523
        have HR523_0 := Aside0.mk hi523_0
        have HC523_0 := Aside0.mk hl523_0
        clear hi523_0 hl523_0
        replace p523 := eq_true p523
        replace q523 := eq_true q523
        have ea_ := Option.some.inj (hx521_0.symm.trans hx523_0)
        injection ea_ with ea_ en_ ec_
        subst ea_
        subst ec_
        clear en_
        have p524 : 0 ≤ (1 : Int) := (by omega)
        have q524 : 1 < ((rd_L7 t518 x6_2).length : Int) := zD
        obtain ⟨ad524, e524, hx524_0⟩ := Kd.at_int (by repeat (first | (with_reducible exact HR523_0.out) | (with_reducible refine Kd.C_alloc ?_ _) | (with_reducible refine Kd.C_drewN ?_ _) | (with_reducible refine Kd.C_drew ?_) | exact HR523_0.out)) 1 p524 q524
        cases e524
        (try simp only [show (1 : Int).toNat = 1 from rfl, Nat.reduceMul, Nat.reduceEqDiff, Go.Addr.add, ↓reduceIte] at hx524_0)
        have qi524 : (1 < (rd_L7 t518 x6_2).length) = True := eq_true (by omega)
        (try rw [show ((1 : Int)).toNat = 1 from rfl] at hx524_0)
        replace p524 := eq_true p524
        replace q524 := eq_true q524
        refine start_ (n := 16) (S := fun w' => w'.cell? ⟨gb514, 0, none⟩ = some (.int .i64 a0_0) ∧ w'.cell? ⟨gb514, 1, none⟩ = some (.slice A0_1 l0_1.length c0_1) ∧ w'.cell? ⟨gb514, 2, none⟩ = some (.slice A0_2 l0_2.length c0_2) ∧ w'.cell? ⟨gb515, 0, none⟩ = some (.int .i64 a1_0) ∧ w'.cell? ⟨gb515, 1, none⟩ = some (.slice A1_1 l1_1.length c1_1) ∧ w'.cell? ⟨gb515, 2, none⟩ = some (.slice A1_2 l1_2.length c1_2) ∧ w'.cell? (ad521.add (x6_2).toNat) = some (.slice (some ad522) (rd_L7 t518 x6_2).length c521_0) ∧ w'.cell? ad522 = some (.int .i64 (rd (rd_L7 t518 x6_2) 0)) ∧ w'.cell? (ad521.add (x6_2).toNat) = some (.slice (some ad522) (rd_L7 t518 x6_2).length c521_0) ∧ w'.cell? ⟨ad522.block, ad522.off + 1, none⟩ = some (.int .i64 (rd (rd_L7 t518 x6_2) 1))) (ds := []) (bm 16 0) (by kernel_rfl) rfl (bm0 _) ⟨bc0 BK514, bc1 BK514, bc2 BK514, bc0 BK515, bc1 BK515, bc2 BK515, hx521_0, hx522_0, hx523_0, hx524_0⟩ (fun hHeld => ?_); refine with_tabW spec_Follows.tab7 spec_Follows.bits7 (fun HT_ HW_ => ?_)
        generalize wr.drew = w33 at HO_5 BK514 BK515 HB HL521_0 HL523_0 HR521_0 HR523_0 hx521_0 hx522_0 hx523_0 hx524_0 hHeld ⊢
        refine pU 2 (some 26) (bm 16 4) HT_ rfl rfl ?_
        refine pU 3 (some 27) (bm 16 12) HT_ rfl rfl ?_
        refine pU 4 (some 28) (bm 16 28) HT_ rfl rfl ?_
        refine pU 8 (some 32) (bm 16 284) HT_ rfl rfl ?_
        refine pU 9 (some 33) (bm 16 796) HT_ rfl rfl ?_
        refine pU 10 (some 34) (bm 16 1820) HT_ rfl rfl ?_
        refine tU 0 (some 24) (bm 16 1821) HT_ HW_ rfl rfl hHeld ?_
        refine tU 1 (some 25) (bm 16 1823) HT_ HW_ rfl rfl hHeld ?_
        refine tU 5 (some 29) (bm 16 1855) HT_ HW_ rfl rfl hHeld ?_
        refine pU 6 (some 30) (bm 16 1919) HT_ rfl rfl ?_
        refine tU 7 (some 31) (bm 16 2047) HT_ HW_ rfl rfl hHeld ?_
        refine tU 11 (some 35) (bm 16 4095) HT_ HW_ rfl rfl hHeld ?_
        refine pU 12 (some 36) (bm 16 8191) HT_ rfl rfl ?_
        refine tU 13 (some 37) (bm 16 16383) HT_ HW_ rfl rfl hHeld ?_
        refine one_ (i := 14) (N := some 38) (bm 16 32767) rfl rfl (one_of HT_.out (by kernel_rfl)) (by decide) (fun K hK => ?_)
        refine goes_ Try.func51 (by kernel_rfl) rfl #[.agg #[.int .i64 a0_0, .slice A0_1 l0_1.length c0_1, .slice A0_2 l0_2.length c0_2], .agg #[.int .i64 a1_0, .slice A1_1 l1_1.length c1_1, .slice A1_2 l1_2.length c1_2], .int .i64 (rd (rd_L7 t518 x6_2) 0), .int .i64 (rd (rd_L7 t518 x6_2) 1)] (by rfl) rfl rfl zG ?_
        with_reducible refine (spec_FollowsAt.calls k2 a0_0 _ _ l0_1 _ _ l0_2 a1_0 _ _ l1_1 _ _ l1_2 (rd (rd_L7 t518 x6_2) 0) (rd (rd_L7 t518 x6_2) 1) false _ ?side1 ?side2 ?side3 ?side4 ?side5 ?side6 ?side7 ?side8 A27.out).mono ?_
        (case side1 => exact cS HR0_1 HB)
        (case side2 => exact HC0_1.out)
        (case side3 => exact cS HR0_2 HB)
        (case side4 => exact HC0_2.out)
        (case side5 => exact cS HR1_1 HB)
        (case side6 => exact HC1_1.out)
        (case side7 => exact cS HR1_2 HB)
        (case side8 => exact HC1_2.out)
        rintro e w34 ⟨rfl, hb⟩
        have HS6_ := (hb.cell (World.block_lt_of_cell? _ _ (hHeld.2.2.2.2.2.2.1))).trans (hHeld.2.2.2.2.2.2.1)
        have HS7_ := (hb.cell (World.block_lt_of_cell? _ _ (hHeld.2.2.2.2.2.2.2.1))).trans (hHeld.2.2.2.2.2.2.2.1)
        have HS8_ := (hb.cell (World.block_lt_of_cell? _ _ (hHeld.2.2.2.2.2.2.2.2.1))).trans (hHeld.2.2.2.2.2.2.2.2.1)
        have HS9_ := (hb.cell (World.block_lt_of_cell? _ _ (hHeld.2.2.2.2.2.2.2.2.2))).trans (hHeld.2.2.2.2.2.2.2.2.2)
        refine ⟨_, rfl, ?_⟩
        replace HO_5 := Aside0.mk (Kd.S_below (zS HO_5) hb)
        replace HL521_0 := Aside0.mk (Kd.R_below (zR HL521_0) hb)
        replace HL523_0 := Aside0.mk (Kd.R_below (zR HL523_0) hb)
        replace BK514 := kB BK514 hb
        replace BK515 := kB BK515 hb
        replace HR521_0 := Aside0.mk (Kd.C_below (by repeat (first | (with_reducible exact HR521_0.out) | (with_reducible refine Kd.C_alloc ?_ _) | (with_reducible refine Kd.C_drewN ?_ _) | (with_reducible refine Kd.C_drew ?_) | exact HR521_0.out)) hb)
        replace HR523_0 := Aside0.mk (Kd.C_below (by repeat (first | (with_reducible exact HR523_0.out) | (with_reducible refine Kd.C_alloc ?_ _) | (with_reducible refine Kd.C_drewN ?_ _) | (with_reducible refine Kd.C_drew ?_) | exact HR523_0.out)) hb)
        replace HB := bS HB hb
        (try clear hb); (try clear hb2); (try clear hk); (try clear hi)
        refine hK.out _ _ ⟨bc0 BK514, bc1 BK514, bc2 BK514, bc0 BK515, bc1 BK515, bc2 BK515, HS6_, HS7_, HS8_, HS9_⟩ (fun hHeld => ?_)
        clear hK K
        refine nU 38 ?_
        refine pU 15 (some 39) (bm 16 65535) HT_ rfl rfl ?_
        refine done_ (done_of HT_.out (by kernel_rfl)) ?_
        try clear hHeld
        try go_wp2
        go_ret
        exact ⟨zE, zB HB⟩
      ·rw [if_neg c23] at H
       have c23b0 : decide (x6_2 < (t518.length : Int)) = false := decide_eq_false c23
       clear c23
       obtain rfl := Option.some.inj H
       obtain ⟨Ao35, co35, eo35⟩ := Kd.S_slice HO_5.out
       subst eo35
       go_wp2
       go_ret
       exact ⟨zE, zB HB⟩

/-! ### spec_ChainFollows: function 17 -/
def spec_ChainFollows.l0 : Nat → List (S27) → Int → Option (Bool)
 | 0, _, _ => none
 | k + 1, x0, x3 => if x3 < (x0.length : Int) then (if 0 ≤ x3 then (if 0 ≤ (wrap64 (x3 - 1)) then (if (wrap64 (x3 - 1)) < (x0.length : Int) then ((spec_Follows.f k ((rd_T27 x0 x3).f0) ((rd_T27 x0 x3).f1) ((rd_T27 x0 x3).f2) ((rd_T27 x0 (wrap64 (x3 - 1))).f0) ((rd_T27 x0 (wrap64 (x3 - 1))).f1) ((rd_T27 x0 (wrap64 (x3 - 1))).f2)).bind fun t528 => (if t528 = true then (spec_ChainFollows.l0 k x0 (wrap64 (x3 + 1))) else (some false))) else (none)) else (none)) else (none)) else (if (x0.length : Int) > 0 then (if 0 < (x0.length : Int) then ((spec_IsMachine.f k ((rd_T27 x0 0).f0) ((rd_T27 x0 0).f1) ((rd_T27 x0 0).f2)).bind fun t530 => (some t530)) else (none)) else (some false))
def spec_ChainFollows.f (k : Nat) (l0 : List (S27)) : Option (Bool) := spec_ChainFollows.l0 k l0 1
theorem spec_ChainFollows.mono_l : ∀ k, (∀ y0 y1, LeO (spec_ChainFollows.l0 k y0 y1) (spec_ChainFollows.l0 (k + 1) y0 y1))
 | 0 => fun _ _ r h => by simp [spec_ChainFollows.l0] at h
 | k + 1 => by
  have ih0 := spec_ChainFollows.mono_l k
  ·intro y0 y1
   unfold spec_ChainFollows.l0
   repeat' first
   | (with_reducible exact ih0 _ _)
   | (with_reducible exact spec_Follows.mono _ _ _ _ _ _ _)
   | (with_reducible exact spec_IsMachine.mono _ _ _ _)
   | (with_reducible exact LeO.refl _)
   | (with_reducible exact LeO.none _)
   | (with_reducible refine LeO.ite ?_ ?_)
   | (with_reducible refine LeO.bind ?_ (fun _ => ?_))
   | exact ih0 _ _
   | exact spec_Follows.mono _ _ _ _ _ _ _
   | exact spec_IsMachine.mono _ _ _ _
   | exact LeO.none _
   | refine LeO.ite ?_ ?_
   | refine LeO.bind ?_ (fun _ => ?_)
theorem spec_ChainFollows.mono : ∀ a0 k, LeO (spec_ChainFollows.f k a0) (spec_ChainFollows.f (k + 1) a0) := by
 intro a0 k
 have ih0 := spec_ChainFollows.mono_l k
 unfold spec_ChainFollows.f
 repeat' first
   | (with_reducible exact ih0 _ _)
   | (with_reducible exact spec_Follows.mono _ _ _ _ _ _ _)
   | (with_reducible exact spec_IsMachine.mono _ _ _ _)
   | (with_reducible exact LeO.refl _)
   | (with_reducible exact LeO.none _)
   | (with_reducible refine LeO.ite ?_ ?_)
   | (with_reducible refine LeO.bind ?_ (fun _ => ?_))
   | exact ih0 _ _
   | exact spec_Follows.mono _ _ _ _ _ _ _
   | exact spec_IsMachine.mono _ _ _ _
   | exact LeO.none _
   | refine LeO.ite ?_ ?_
   | refine LeO.bind ?_ (fun _ => ?_)
def spec_ChainFollows.T4 : Bool × List (List Nat × List Nat) := (true, [([], []), ([], []), ([0, 1], [0, 1]), ([2], [2]), ([], []), ([], []), ([5], [5]), ([4, 6], [4, 6]), ([7], [7]), ([3, 8], [3, 8]), ([9], [9])])
def spec_ChainFollows.B4 : List Nat := [0, 0, 3, 7, 0, 0, 32, 112, 240, 511, 1023]
theorem spec_ChainFollows.tab4 : rtab .any (opsOf Try.f17 4) = spec_ChainFollows.T4 := by kernel_rfl
theorem spec_ChainFollows.bits4 : waitsOk spec_ChainFollows.T4.2 spec_ChainFollows.B4 = true := by kernel_rfl
set_option maxHeartbeats 8000000 in
set_option maxRecDepth 100000 in
theorem spec_ChainFollows.calls (k : Nat) (A0 : Option Addr) (c0 : Nat) (l0 : List (S27)) (r : Bool) (w : World) (hr0 : Kd.C k27 w A0 l0.length l0) (hc0 : l0.length ≤ c0) (h : spec_ChainFollows.f k l0 = some r) :
  Calls Try.prog 17 #[.slice A0 l0.length c0] w fun e w' => e = .returned (.bool r) ∧ Below w.heap.size w w' := by
 have hu27 := Try.underlying27
 have HR0 := Aside0.mk hr0
 have HC0 := Aside0.mk hc0
 clear hr0 hc0
 have HB := Aside0.mk (Below.refl w.heap.size w)
 have H : (spec_ChainFollows.l0 k l0 1) = some r := h
 clear h
 have H' := Aside0.mk H
 clear H
 go_enter Try.func17, Try.ntmps17
 go_wp2
 go_loopg [3] k (fun kq v3 w' => ∃ (x3_1 : Int), v3 = .int .i64 x3_1 ∧ Aside0 (spec_ChainFollows.l0 kq l0 x3_1 = some r) ∧ Aside0 (kq ≤ k) ∧ Aside0 (Below w.heap.size w w'))
 case atStart => exact ⟨(1), zF, H', ⟨Nat.le_refl _⟩, ⟨zB HB⟩⟩
 case round =>
  clear H'
  try clear c1
  obtain ⟨x3_1, rfl, HA, HK1, HB⟩ := hrel
  cases gk with
  | zero => exact absurd HA.out (by simp [spec_ChainFollows.l0])
  | succ k1 =>
   have H := HA.out
   clear HA
   simp only [spec_ChainFollows.l0] at H
   by_cases c2 : x3_1 < (l0.length : Int)
   ·rw [if_pos c2] at H
    have c2b0 : decide (x3_1 < (l0.length : Int)) = true := decide_eq_true c2
    clear c2
    obtain ⟨c3, H⟩ := ifS H
    have c3b0 : decide (0 ≤ x3_1) = true := decide_eq_true c3
    clear c3
    obtain ⟨ji4, hji4⟩ : ∃ j_ : Int, (wrap64 (x3_1 - 1)) = j_ := ⟨_, rfl⟩
    replace H : (if 0 ≤ (ji4) then (if (ji4) < (l0.length : Int) then ((spec_Follows.f k1 ((rd_T27 l0 x3_1).f0) ((rd_T27 l0 x3_1).f1) ((rd_T27 l0 x3_1).f2) ((rd_T27 l0 (ji4)).f0) ((rd_T27 l0 (ji4)).f1) ((rd_T27 l0 (ji4)).f2)).bind fun t528 => (if t528 = true then (spec_ChainFollows.l0 k1 l0 (wrap64 (x3_1 + 1))) else (some false))) else (none)) else (none)) = some r := by first | (rw [hji4] at H; exact H) | (simp only [hji4] at H ⊢; exact H)
    have hji4w : (IntKind.i64.wrap (x3_1 - 1)) = ji4 := (i64_w _).trans hji4
    obtain ⟨c5, H⟩ := ifS H
    have c5b0 : decide (0 ≤ (ji4)) = true := decide_eq_true c5
    clear c5
    obtain ⟨c6, H⟩ := ifS H
    have c6b0 : decide ((ji4) < (l0.length : Int)) = true := decide_eq_true c6
    clear c6
    obtain ⟨t528, A7, H⟩ := bindS H
    by_cases c8 : t528 = true
    ·subst c8
     have H1 : (spec_ChainFollows.l0 k1 l0 (wrap64 (x3_1 + 1))) = some r := by rw [if_pos rfl] at H; exact H
     clear H
     have H := H1
     clear H1
     have H' := Aside0.mk H
     clear H
     try go_wp2
     replace HB := Aside0.mk (below_drew1 HB.out)
     have p526 : 0 ≤ (x3_1 : Int) := zD
     have q526 : x3_1 < (l0.length : Int) := zD
     obtain ⟨ad526, A526_1, c526_1, A526_2, c526_2, e526, hx526_0, hx526_1, hx526_2, hl526_1, hi526_1, hl526_2, hi526_2⟩ := at_T27 HR0.out x3_1 p526 q526
     have hw526_2 := hx526_2
     have hw526_1 := hx526_1
     have hw526_0 := hx526_0
     cases e526
     replace hx526_0 := hL HB hx526_0
     replace hx526_1 := hL HB hx526_1
     replace hx526_2 := hL HB hx526_2
     have HR526_1 := Aside0.mk hi526_1
     have HC526_1 := Aside0.mk hl526_1
     clear hi526_1 hl526_1
     have HR526_2 := Aside0.mk hi526_2
     have HC526_2 := Aside0.mk hl526_2
     clear hi526_2 hl526_2
     replace p526 := eq_true p526
     replace q526 := eq_true q526
     have p527 : 0 ≤ ((ji4) : Int) := zD
     have q527 : (ji4) < (l0.length : Int) := zD
     obtain ⟨ad527, A527_1, c527_1, A527_2, c527_2, e527, hx527_0, hx527_1, hx527_2, hl527_1, hi527_1, hl527_2, hi527_2⟩ := at_T27 HR0.out (ji4) p527 q527
     have hw527_2 := hx527_2
     have hw527_1 := hx527_1
     have hw527_0 := hx527_0
     obtain rfl : ad526 = ad527 := (by injection e527)
     replace hx527_0 := hL HB hx527_0
     replace hx527_1 := hL HB hx527_1
     replace hx527_2 := hL HB hx527_2
     have HR527_1 := Aside0.mk hi527_1
     have HC527_1 := Aside0.mk hl527_1
     clear hi527_1 hl527_1
     have HR527_2 := Aside0.mk hi527_2
     have HC527_2 := Aside0.mk hl527_2
     clear hi527_2 hl527_2
     replace p527 := eq_true p527
     replace q527 := eq_true q527
     refine start_ (n := 11) (S := fun w' => w'.cell? (ad526.add ((x3_1).toNat * 3)) = some (.int .i64 ((rd_T27 l0 x3_1).f0)) ∧ w'.cell? ⟨(ad526.add ((x3_1).toNat * 3)).block, (ad526.add ((x3_1).toNat * 3)).off + 1, none⟩ = some (.slice A526_1 ((rd_T27 l0 x3_1).f1).length c526_1) ∧ w'.cell? ⟨(ad526.add ((x3_1).toNat * 3)).block, (ad526.add ((x3_1).toNat * 3)).off + 2, none⟩ = some (.slice A526_2 ((rd_T27 l0 x3_1).f2).length c526_2) ∧ w'.cell? (ad526.add (((ji4)).toNat * 3)) = some (.int .i64 ((rd_T27 l0 (ji4)).f0)) ∧ w'.cell? ⟨(ad526.add (((ji4)).toNat * 3)).block, (ad526.add (((ji4)).toNat * 3)).off + 1, none⟩ = some (.slice A527_1 ((rd_T27 l0 (ji4)).f1).length c527_1) ∧ w'.cell? ⟨(ad526.add (((ji4)).toNat * 3)).block, (ad526.add (((ji4)).toNat * 3)).off + 2, none⟩ = some (.slice A527_2 ((rd_T27 l0 (ji4)).f2).length c527_2)) (ds := []) (bm 11 0) (by kernel_rfl) rfl (bm0 _) ⟨(hL HB hw526_0), (hL HB hw526_1), (hL HB hw526_2), (hL HB hw527_0), (hL HB hw527_1), (hL HB hw527_2)⟩ (fun hHeld => ?_); refine with_tabW spec_ChainFollows.tab4 spec_ChainFollows.bits4 (fun HT_ HW_ => ?_)
     generalize wr.drew = w9 at HB HR526_1 HR526_2 HR527_1 HR527_2 hx526_0 hx526_1 hx526_2 hx527_0 hx527_1 hx527_2 hHeld ⊢
     refine pU 0 (some 10) (bm 11 1) HT_ rfl rfl ?_
     refine pU 1 (some 11) (bm 11 3) HT_ rfl rfl ?_
     refine pU 2 (some 12) (bm 11 7) HT_ rfl rfl ?_
     refine pU 4 (some 14) (bm 11 23) HT_ rfl rfl ?_
     refine pU 5 (some 15) (bm 11 55) HT_ rfl rfl ?_
     refine pU 6 (some 16) (bm 11 119) HT_ rfl rfl ?_
     refine pU 7 (some 17) (bm 11 247) HT_ rfl rfl ?_
     refine tU 3 (some 13) (bm 11 255) HT_ HW_ rfl rfl hHeld ?_
     refine tU 8 (some 18) (bm 11 511) HT_ HW_ rfl rfl hHeld ?_
     refine one_ (i := 9) (N := some 19) (bm 11 1023) rfl rfl (one_of HT_.out (by kernel_rfl)) (by decide) (fun K hK => ?_)
     refine goes_ Try.func35 (by kernel_rfl) rfl #[.agg #[.int .i64 ((rd_T27 l0 x3_1).f0), .slice A526_1 ((rd_T27 l0 x3_1).f1).length c526_1, .slice A526_2 ((rd_T27 l0 x3_1).f2).length c526_2], .agg #[.int .i64 ((rd_T27 l0 (ji4)).f0), .slice A527_1 ((rd_T27 l0 (ji4)).f1).length c527_1, .slice A527_2 ((rd_T27 l0 (ji4)).f2).length c527_2]] (by rfl) rfl rfl (by (try simp only [List.map_toArray, List.map_cons, List.map_nil]); first | done | (simp only [hji4]; rfl) | rfl | (simp only [List.length_drop, List.length_take]; rfl)) ?_
     with_reducible refine (spec_Follows.calls k1 ((rd_T27 l0 x3_1).f0) _ _ ((rd_T27 l0 x3_1).f1) _ _ ((rd_T27 l0 x3_1).f2) ((rd_T27 l0 (ji4)).f0) _ _ ((rd_T27 l0 (ji4)).f1) _ _ ((rd_T27 l0 (ji4)).f2) true _ ?side1 ?side2 ?side3 ?side4 ?side5 ?side6 ?side7 ?side8 A7.out).mono ?_
     (case side1 => exact cS HR526_1 HB)
     (case side2 => exact HC526_1.out)
     (case side3 => exact cS HR526_2 HB)
     (case side4 => exact HC526_2.out)
     (case side5 => exact cS HR527_1 HB)
     (case side6 => exact HC527_1.out)
     (case side7 => exact cS HR527_2 HB)
     (case side8 => exact HC527_2.out)
     rintro e w10 ⟨rfl, hb⟩
     refine ⟨_, rfl, ?_⟩
     replace HB := bS HB hb
     (try clear hb); (try clear hb2); (try clear hk); (try clear hi)
     refine hK.out _ _ ⟨(hL HB hw526_0), (hL HB hw526_1), (hL HB hw526_2), (hL HB hw527_0), (hL HB hw527_1), (hL HB hw527_2)⟩ (fun hHeld => ?_)
     clear hK K
     refine nU 19 ?_
     refine pU 10 (some 20) (bm 11 2047) HT_ rfl rfl ?_
     refine done_ (done_of HT_.out (by kernel_rfl)) ?_
     try clear hHeld
     try go_wp2
     go_roundg k1
     case measure => have := HK1.out; omega
     case rel => exact ⟨(wrap64 (x3_1 + 1)), zF, H', ⟨by have := HK1.out; omega⟩, ⟨zB HB⟩⟩
    ·replace c8 := Bool.eq_false_iff.mpr c8
     subst c8
     have H1 : (some false) = some r := by rw [if_neg (show ¬ (false = true) by decide)] at H; exact H
     clear H
     have H := H1
     clear H1
     obtain rfl := Option.some.inj H
     try go_wp2
     replace HB := Aside0.mk (below_drew1 HB.out)
     have p526 : 0 ≤ (x3_1 : Int) := zD
     have q526 : x3_1 < (l0.length : Int) := zD
     obtain ⟨ad526, A526_1, c526_1, A526_2, c526_2, e526, hx526_0, hx526_1, hx526_2, hl526_1, hi526_1, hl526_2, hi526_2⟩ := at_T27 HR0.out x3_1 p526 q526
     have hw526_2 := hx526_2
     have hw526_1 := hx526_1
     have hw526_0 := hx526_0
     cases e526
     replace hx526_0 := hL HB hx526_0
     replace hx526_1 := hL HB hx526_1
     replace hx526_2 := hL HB hx526_2
     have HR526_1 := Aside0.mk hi526_1
     have HC526_1 := Aside0.mk hl526_1
     clear hi526_1 hl526_1
     have HR526_2 := Aside0.mk hi526_2
     have HC526_2 := Aside0.mk hl526_2
     clear hi526_2 hl526_2
     replace p526 := eq_true p526
     replace q526 := eq_true q526
     have p527 : 0 ≤ ((ji4) : Int) := zD
     have q527 : (ji4) < (l0.length : Int) := zD
     obtain ⟨ad527, A527_1, c527_1, A527_2, c527_2, e527, hx527_0, hx527_1, hx527_2, hl527_1, hi527_1, hl527_2, hi527_2⟩ := at_T27 HR0.out (ji4) p527 q527
     have hw527_2 := hx527_2
     have hw527_1 := hx527_1
     have hw527_0 := hx527_0
     obtain rfl : ad526 = ad527 := (by injection e527)
     replace hx527_0 := hL HB hx527_0
     replace hx527_1 := hL HB hx527_1
     replace hx527_2 := hL HB hx527_2
     have HR527_1 := Aside0.mk hi527_1
     have HC527_1 := Aside0.mk hl527_1
     clear hi527_1 hl527_1
     have HR527_2 := Aside0.mk hi527_2
     have HC527_2 := Aside0.mk hl527_2
     clear hi527_2 hl527_2
     replace p527 := eq_true p527
     replace q527 := eq_true q527
     refine start_ (n := 11) (S := fun w' => w'.cell? (ad526.add ((x3_1).toNat * 3)) = some (.int .i64 ((rd_T27 l0 x3_1).f0)) ∧ w'.cell? ⟨(ad526.add ((x3_1).toNat * 3)).block, (ad526.add ((x3_1).toNat * 3)).off + 1, none⟩ = some (.slice A526_1 ((rd_T27 l0 x3_1).f1).length c526_1) ∧ w'.cell? ⟨(ad526.add ((x3_1).toNat * 3)).block, (ad526.add ((x3_1).toNat * 3)).off + 2, none⟩ = some (.slice A526_2 ((rd_T27 l0 x3_1).f2).length c526_2) ∧ w'.cell? (ad526.add (((ji4)).toNat * 3)) = some (.int .i64 ((rd_T27 l0 (ji4)).f0)) ∧ w'.cell? ⟨(ad526.add (((ji4)).toNat * 3)).block, (ad526.add (((ji4)).toNat * 3)).off + 1, none⟩ = some (.slice A527_1 ((rd_T27 l0 (ji4)).f1).length c527_1) ∧ w'.cell? ⟨(ad526.add (((ji4)).toNat * 3)).block, (ad526.add (((ji4)).toNat * 3)).off + 2, none⟩ = some (.slice A527_2 ((rd_T27 l0 (ji4)).f2).length c527_2)) (ds := []) (bm 11 0) (by kernel_rfl) rfl (bm0 _) ⟨(hL HB hw526_0), (hL HB hw526_1), (hL HB hw526_2), (hL HB hw527_0), (hL HB hw527_1), (hL HB hw527_2)⟩ (fun hHeld => ?_); refine with_tabW spec_ChainFollows.tab4 spec_ChainFollows.bits4 (fun HT_ HW_ => ?_)
     generalize wr.drew = w11 at HB HR526_1 HR526_2 HR527_1 HR527_2 hx526_0 hx526_1 hx526_2 hx527_0 hx527_1 hx527_2 hHeld ⊢
     refine pU 0 (some 10) (bm 11 1) HT_ rfl rfl ?_
     refine pU 1 (some 11) (bm 11 3) HT_ rfl rfl ?_
     refine pU 2 (some 12) (bm 11 7) HT_ rfl rfl ?_
     refine pU 4 (some 14) (bm 11 23) HT_ rfl rfl ?_
     refine pU 5 (some 15) (bm 11 55) HT_ rfl rfl ?_
     refine pU 6 (some 16) (bm 11 119) HT_ rfl rfl ?_
     refine pU 7 (some 17) (bm 11 247) HT_ rfl rfl ?_
     refine tU 3 (some 13) (bm 11 255) HT_ HW_ rfl rfl hHeld ?_
     refine tU 8 (some 18) (bm 11 511) HT_ HW_ rfl rfl hHeld ?_
     refine one_ (i := 9) (N := some 19) (bm 11 1023) rfl rfl (one_of HT_.out (by kernel_rfl)) (by decide) (fun K hK => ?_)
     refine goes_ Try.func35 (by kernel_rfl) rfl #[.agg #[.int .i64 ((rd_T27 l0 x3_1).f0), .slice A526_1 ((rd_T27 l0 x3_1).f1).length c526_1, .slice A526_2 ((rd_T27 l0 x3_1).f2).length c526_2], .agg #[.int .i64 ((rd_T27 l0 (ji4)).f0), .slice A527_1 ((rd_T27 l0 (ji4)).f1).length c527_1, .slice A527_2 ((rd_T27 l0 (ji4)).f2).length c527_2]] (by rfl) rfl rfl (by (try simp only [List.map_toArray, List.map_cons, List.map_nil]); first | done | (simp only [hji4]; rfl) | rfl | (simp only [List.length_drop, List.length_take]; rfl)) ?_
     with_reducible refine (spec_Follows.calls k1 ((rd_T27 l0 x3_1).f0) _ _ ((rd_T27 l0 x3_1).f1) _ _ ((rd_T27 l0 x3_1).f2) ((rd_T27 l0 (ji4)).f0) _ _ ((rd_T27 l0 (ji4)).f1) _ _ ((rd_T27 l0 (ji4)).f2) false _ ?side1 ?side2 ?side3 ?side4 ?side5 ?side6 ?side7 ?side8 A7.out).mono ?_
     (case side1 => exact cS HR526_1 HB)
     (case side2 => exact HC526_1.out)
     (case side3 => exact cS HR526_2 HB)
     (case side4 => exact HC526_2.out)
     (case side5 => exact cS HR527_1 HB)
     (case side6 => exact HC527_1.out)
     (case side7 => exact cS HR527_2 HB)
     (case side8 => exact HC527_2.out)
     rintro e w12 ⟨rfl, hb⟩
     refine ⟨_, rfl, ?_⟩
     replace HB := bS HB hb
     (try clear hb); (try clear hb2); (try clear hk); (try clear hi)
     refine hK.out _ _ ⟨(hL HB hw526_0), (hL HB hw526_1), (hL HB hw526_2), (hL HB hw527_0), (hL HB hw527_1), (hL HB hw527_2)⟩ (fun hHeld => ?_)
     clear hK K
     refine nU 19 ?_
     refine pU 10 (some 20) (bm 11 2047) HT_ rfl rfl ?_
     refine done_ (done_of HT_.out (by kernel_rfl)) ?_
     try clear hHeld
     try go_wp2
     go_ret
     exact ⟨by first | rfl | (simp [errW_none, errW_some] <;> rfl) | (simp only [← hji4]; first | rfl | (simp [errW_none, errW_some] <;> rfl)) | (simp [*, errW_none, errW_some] <;> rfl), zB HB⟩
   ·rw [if_neg c2] at H
    have c2b0 : decide (x3_1 < (l0.length : Int)) = false := decide_eq_false c2
    clear c2
    by_cases c13 : (l0.length : Int) > 0
    ·rw [if_pos c13] at H
     have c13b0 : decide (0 < (l0.length : Int)) = true := decide_eq_true c13
     have c13b1 : decide (0 < l0.length) = true := decide_eq_true (by omega)
     clear c13
     obtain ⟨c14, H⟩ := ifS H
     have c14b0 : decide (0 < (l0.length : Int)) = true := decide_eq_true c14
     have c14b1 : decide (0 < l0.length) = true := decide_eq_true (by omega)
     clear c14
     obtain ⟨t530, A15, H⟩ := bindS H
     obtain rfl := Option.some.inj H
     have p529 : 0 ≤ (0 : Int) := (by omega)
     have q529 : 0 < (l0.length : Int) := zD
     obtain ⟨ad529, A529_1, c529_1, A529_2, c529_2, e529, hx529_0, hx529_1, hx529_2, hl529_1, hi529_1, hl529_2, hi529_2⟩ := at_T27 HR0.out 0 p529 q529
     cases e529
     have qi529 : (0 < l0.length) = True := eq_true (by omega)
     (try rw [show ((0 : Int)).toNat = 0 from rfl] at hx529_0)
     (try rw [show 0 * 3 = 0 from rfl] at hx529_0)
     (try rw [Addr.add_zero'] at hx529_0)
     (try rw [show ((0 : Int)).toNat = 0 from rfl] at hx529_1)
     (try rw [show 0 * 3 = 0 from rfl] at hx529_1)
     (try rw [Addr.add_zero'] at hx529_1)
     (try rw [show ((0 : Int)).toNat = 0 from rfl] at hx529_2)
     (try rw [show 0 * 3 = 0 from rfl] at hx529_2)
     (try rw [Addr.add_zero'] at hx529_2)
     replace hx529_0 := hL HB hx529_0
     replace hx529_1 := hL HB hx529_1
     replace hx529_2 := hL HB hx529_2
     have HR529_1 := Aside0.mk hi529_1
     have HC529_1 := Aside0.mk hl529_1
     clear hi529_1 hl529_1
     have HR529_2 := Aside0.mk hi529_2
     have HC529_2 := Aside0.mk hl529_2
     clear hi529_2 hl529_2
     replace p529 := eq_true p529
     replace q529 := eq_true q529
     go_wp2_with (first | (go_at_call 11; (with_reducible refine (spec_IsMachine.calls k1 ((rd_T27 l0 0).f0) _ _ ((rd_T27 l0 0).f1) _ _ ((rd_T27 l0 0).f2) t530 _ ?side1 ?side2 ?side3 ?side4 A15.out).mono ?_); (case side1 => exact cS HR529_1 HB); (case side2 => exact HC529_1.out); (case side3 => exact cS HR529_2 HB); (case side4 => exact HC529_2.out); rintro e w16 ⟨rfl, hb⟩; replace HB := bS HB hb; (try clear hb)))
     go_ret
     exact ⟨zE, zB HB⟩
    ·rw [if_neg c13] at H
     have c13b0 : decide (0 < (l0.length : Int)) = false := decide_eq_false c13
     have c13b1 : decide (0 < l0.length) = false := decide_eq_false (by omega)
     clear c13
     obtain rfl := Option.some.inj H
     go_wp2
     go_ret
     exact ⟨zE, zB HB⟩

end Go.Proofs.Ytfibjclnaeocbaa.PFnChain
