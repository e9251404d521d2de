-- WRITTEN by pp.py, this session's own wrapper around the print; not trusted: Lean checks it
import Derived.Test.YtfibjclnaeocbaaPFnChainx0
import Derived.Test.YtfibjclnaeocbaaPFnChainx1
import Derived.Test.YtfibjclnaeocbaaPFnChainx9
import Derived.Test.YtfibjclnaeocbaaPFnChainx10
namespace Go.Proofs.Ytfibjclnaeocbaa.PFnChain
open Go.RowKit Go.Proofs.Ytfibjclnaeocbaa.Hw Go.Proofs.YtfibjclnaeocbaaW.PrintWords Go.Proofs.YtfibjclnaeocbaaW.PrintLast Go.Proofs.YtfibjclnaeocbaaW.PrintMore
attribute [local go_sem] max2_int min2_int max_two min_two max_three min_three max_four min_four   -- for this text's walks alone
set_option linter.unusedVariables false
set_option linter.unusedSimpArgs false
set_option linter.unusedSectionVars false

/-! ### impl_Follows: function 18 -/
mutual
def impl_Follows.j0 : Nat → Bool → Int → List Bool → List (S46) → Int → List Bool → List (S46) → Option (Bool)
 | 0, _, _, _, _, _, _, _ => none
 | k + 1, x14, x424000, x424001, x424002, x425000, x425001, x425002 => if x14 = true then (some false) else ((impl_FollowPairs.f k x424000 x424001 x424002 x425000 x425001 x425002).bind fun t427 => (impl_Follows.l0 k t427 (t427.length : Int) 0 x424000 x424001 x424002 x425000 x425001 x425002))
def impl_Follows.l0 : Nat → List (List Int) → Int → Int → Int → List Bool → List (S46) → Int → List Bool → List (S46) → Option (Bool)
 | 0, _, _, _, _, _, _, _, _, _ => none
 | k + 1, x17, x18, x19, x424000, x424001, x424002, x425000, x425001, x425002 => if x19 < x18 then (if 0 ≤ x19 then (if x19 < (x17.length : Int) then (if 0 < ((rd_L7 x17 x19).length : Int) then (if 1 < ((rd_L7 x17 x19).length : Int) then ((impl_FollowsAt.f k x424000 x424001 x424002 x425000 x425001 x425002 (rd (rd_L7 x17 x19) 0) (rd (rd_L7 x17 x19) 1)).bind fun t433 => (if t433 = true then (impl_Follows.l0 k x17 x18 (wrap64 (x19 + 1)) x424000 x424001 x424002 x425000 x425001 x425002) else (some false))) else (none)) else (none)) else (none)) else (none)) else (some true)
end
def impl_Follows.f (k : Nat) (a0_0 : Int) (l0_1 : List Bool) (l0_2 : List (S46)) (a1_0 : Int) (l1_1 : List Bool) (l1_2 : List (S46)) : Option (Bool) := (impl_IsMachine.f k a0_0 l0_1 l0_2).bind fun t425 => (if t425 = true then ((impl_IsMachine.f k a1_0 l1_1 l1_2).bind fun t426 => (impl_Follows.j0 k (!t426) a0_0 l0_1 l0_2 a1_0 l1_1 l1_2)) else (impl_Follows.j0 k true a0_0 l0_1 l0_2 a1_0 l1_1 l1_2))
theorem impl_Follows.mono_l : ∀ k, (∀ y0 y1 y2 y3 y4 y5 y6, LeO (impl_Follows.j0 k y0 y1 y2 y3 y4 y5 y6) (impl_Follows.j0 (k + 1) y0 y1 y2 y3 y4 y5 y6)) ∧ (∀ y0 y1 y2 y3 y4 y5 y6 y7 y8, LeO (impl_Follows.l0 k y0 y1 y2 y3 y4 y5 y6 y7 y8) (impl_Follows.l0 (k + 1) y0 y1 y2 y3 y4 y5 y6 y7 y8))
 | 0 => ⟨fun _ _ _ _ _ _ _ r h => by simp [impl_Follows.j0] at h, fun _ _ _ _ _ _ _ _ _ r h => by simp [impl_Follows.l0] at h⟩
 | k + 1 => by
  obtain ⟨ih0, ih1⟩ := impl_Follows.mono_l k
  refine ⟨?a0, ?a1⟩
  case' a0 => intros; unfold impl_Follows.j0
  case' a1 => intros; unfold impl_Follows.l0
  all_goals repeat' first
  | (with_reducible exact ih0 _ _ _ _ _ _ _)
  | (with_reducible exact ih1 _ _ _ _ _ _ _ _ _)
  | (with_reducible exact impl_FollowPairs.mono _ _ _ _ _ _ _)
  | (with_reducible exact impl_FollowsAt.mono _ _ _ _ _ _ _ _ _)
  | (with_reducible exact impl_IsMachine.mono _ _ _ _)
  | (with_reducible exact LeO.refl _)
  | (with_reducible exact LeO.none _)
  | (with_reducible refine LeO.ite ?_ ?_)
  | (with_reducible refine LeO.bind ?_ (fun _ => ?_))
  | exact ih0 _ _ _ _ _ _ _
  | exact ih1 _ _ _ _ _ _ _ _ _
  | exact impl_FollowPairs.mono _ _ _ _ _ _ _
  | exact impl_FollowsAt.mono _ _ _ _ _ _ _ _ _
  | exact impl_IsMachine.mono _ _ _ _
  | exact LeO.none _
  | refine LeO.ite ?_ ?_
  | refine LeO.bind ?_ (fun _ => ?_)
theorem impl_Follows.mono : ∀ a0 a1 a2 a3 a4 a5 k, LeO (impl_Follows.f k a0 a1 a2 a3 a4 a5) (impl_Follows.f (k + 1) a0 a1 a2 a3 a4 a5) := by
 intro a0 a1 a2 a3 a4 a5 k
 obtain ⟨ih0, ih1⟩ := impl_Follows.mono_l k
 unfold impl_Follows.f
 repeat' first
   | (with_reducible exact ih0 _ _ _ _ _ _ _)
   | (with_reducible exact ih1 _ _ _ _ _ _ _ _ _)
   | (with_reducible exact impl_FollowPairs.mono _ _ _ _ _ _ _)
   | (with_reducible exact impl_FollowsAt.mono _ _ _ _ _ _ _ _ _)
   | (with_reducible exact impl_IsMachine.mono _ _ _ _)
   | (with_reducible exact LeO.refl _)
   | (with_reducible exact LeO.none _)
   | (with_reducible refine LeO.ite ?_ ?_)
   | (with_reducible refine LeO.bind ?_ (fun _ => ?_))
   | exact ih0 _ _ _ _ _ _ _
   | exact ih1 _ _ _ _ _ _ _ _ _
   | exact impl_FollowPairs.mono _ _ _ _ _ _ _
   | exact impl_FollowsAt.mono _ _ _ _ _ _ _ _ _
   | exact impl_IsMachine.mono _ _ _ _
   | exact LeO.none _
   | refine LeO.ite ?_ ?_
   | refine LeO.bind ?_ (fun _ => ?_)
def impl_Follows.T6 : Bool × List (List Nat × List Nat) := (true, [([], []), ([], []), ([], []), ([2], [2]), ([3], [3]), ([], []), ([5], [5]), ([6], [6]), ([0, 1, 4, 7], [0, 1, 4, 7]), ([8], [8])])
def impl_Follows.B6 : List Nat := [0, 0, 0, 4, 12, 0, 32, 96, 255, 511]
theorem impl_Follows.tab6 : rtab .any (opsOf Try.f18 6) = impl_Follows.T6 := by kernel_rfl
theorem impl_Follows.bits6 : waitsOk impl_Follows.T6.2 impl_Follows.B6 = true := by kernel_rfl
set_option maxHeartbeats 8000000 in
set_option maxRecDepth 100000 in
theorem impl_Follows.calls (k : Nat) (a0_0 : Int) (A0_1 : Option Addr) (c0_1 : Nat) (l0_1 : List Bool) (A0_2 : Option Addr) (c0_2 : Nat) (l0_2 : List (S46)) (a1_0 : Int) (A1_1 : Option Addr) (c1_1 : Nat) (l1_1 : List Bool) (A1_2 : Option Addr) (c1_2 : Nat) (l1_2 : List (S46)) (r : Bool) (w : World) (hr0_1 : Kd.C Kd.bool w A0_1 l0_1.length l0_1) (hc0_1 : l0_1.length ≤ c0_1) (hr0_2 : Kd.C k46 w A0_2 l0_2.length l0_2) (hc0_2 : l0_2.length ≤ c0_2) (hr1_1 : Kd.C Kd.bool w A1_1 l1_1.length l1_1) (hc1_1 : l1_1.length ≤ c1_1) (hr1_2 : Kd.C k46 w A1_2 l1_2.length l1_2) (hc1_2 : l1_2.length ≤ c1_2) (h : impl_Follows.f k a0_0 l0_1 l0_2 a1_0 l1_1 l1_2 = some r) :
  Calls Try.prog 18 #[.agg #[.int .i64 a0_0, .slice A0_1 l0_1.length c0_1, .slice A0_2 l0_2.length c0_2], .agg #[.int .i64 a1_0, .slice A1_1 l1_1.length c1_1, .slice A1_2 l1_2.length c1_2]] w fun e w' => e = .returned (.bool r) ∧ Below w.heap.size w w' := by
 have hu27 := Try.underlying27
 have HR0_1 := Aside0.mk hr0_1
 have HC0_1 := Aside0.mk hc0_1
 clear hr0_1 hc0_1
 have HR0_2 := Aside0.mk hr0_2
 have HC0_2 := Aside0.mk hc0_2
 clear hr0_2 hc0_2
 have HR1_1 := Aside0.mk hr1_1
 have HC1_1 := Aside0.mk hc1_1
 clear hr1_1 hc1_1
 have HR1_2 := Aside0.mk hr1_2
 have HC1_2 := Aside0.mk hc1_2
 clear hr1_2 hc1_2
 have HB := Aside0.mk (Below.refl w.heap.size w)
 have H : ((impl_IsMachine.f k a0_0 l0_1 l0_2).bind fun t425 => (if t425 = true then ((impl_IsMachine.f k a1_0 l1_1 l1_2).bind fun t426 => (impl_Follows.j0 k (!t426) a0_0 l0_1 l0_2 a1_0 l1_1 l1_2)) else (impl_Follows.j0 k true a0_0 l0_1 l0_2 a1_0 l1_1 l1_2))) = some r := h
 clear h
 have HC3 := Aside0.mk H
 clear H
 go_enter Try.func18, Try.ntmps18
 go_upto_region 1 with (first | ((with_reducible refine gate_dst (N := 2) rfl ?_); refine box_event ?hg (N := 2) ?hd (cs := #[.int .i64 a0_0, .slice A0_1 l0_1.length c0_1, .slice A0_2 l0_2.length c0_2]) (t := 27) ?hr ?_; (case hd => rfl); (case hg => rfl); (case hr => first | (go_simp; done) | (go_simp; rfl)); intro gb423 hg w4 hbox hb; have BK423 := Aside0.mk (hbox); have GW423 := gS HB hg; have GE423 := gS HB hg; replace HB := bS HB hb; clear hb hbox hg) | ((with_reducible refine gate_dst (N := 3) rfl ?_); refine box_event ?hg (N := 3) ?hd (cs := #[.int .i64 a1_0, .slice A1_1 l1_1.length c1_1, .slice A1_2 l1_2.length c1_2]) (t := 27) ?hr ?_; (case hd => rfl); (case hg => rfl); (case hr => first | (go_simp; done) | (go_simp; rfl)); intro gb424 hg w5 hbox hb; have BK424 := Aside0.mk (hbox); have GW424 := gS HB hg; have GE424 := gS HB hg; replace HB := bS HB hb; have NB423_424 := nL BK423 hg; have NB424_423 := nR BK423 hg; replace BK423 := kB BK423 hb; clear hb hbox hg))
 (try simp only [Act.put, List.setIfInBounds_toArray, List.set_cons_zero, List.set_cons_succ])
 go_cut [14] (fun v14 wc => ∃ (kq : Nat) (x14_2 : Bool), v14 = .bool x14_2 ∧ Aside0 (impl_Follows.j0 kq x14_2 a0_0 l0_1 l0_2 a1_0 l1_1 l1_2 = some r) ∧ Aside0 (kq ≤ k) ∧ Aside0 (wc.heap[gb423]? = some (.cells #[.int .i64 a0_0, (.slice A0_1 l0_1.length c0_1), (.slice A0_2 l0_2.length c0_2)] 27 (0, 0))) ∧ Aside0 (wc.heap[gb424]? = some (.cells #[.int .i64 a1_0, (.slice A1_1 l1_1.length c1_1), (.slice A1_2 l1_2.length c1_2)] 27 (0, 0))) ∧ Aside0 (Below w.heap.size w wc))
 case first =>
  have H := HC3.out
  clear HC3
  obtain ⟨t425, A6, H⟩ := bindS H
  by_cases c7 : t425 = true
  ·subst c7
   have H1 : ((impl_IsMachine.f k a1_0 l1_1 l1_2).bind fun t426 => (impl_Follows.j0 k (!t426) a0_0 l0_1 l0_2 a1_0 l1_1 l1_2)) = some r := by rw [if_pos rfl] at H; exact H
   clear H
   have H := H1
   clear H1
   obtain ⟨t426, A8, H⟩ := bindS H
   have H' := Aside0.mk H
   clear H
   have hnb9 := NB423_424.out
   have hnc9 := NB424_423.out
   obtain ⟨hcz10_0, hcz10_1, hcz10_2, hfz10_0, hfz10_1, hfz10_2⟩ := bq3 BK423
   go_wp2_with (first | ((with_reducible refine gate_callee (f := 10) rfl ?_); refine goesL_ (some 8) rfl rfl Try.func10 (by kernel_rfl) rfl #[.agg #[.int .i64 a0_0, .slice A0_1 l0_1.length c0_1, .slice A0_2 l0_2.length c0_2]] rfl zG ?_; (with_reducible refine (impl_IsMachine.calls k a0_0 _ _ l0_1 _ _ l0_2 true _ ?side1 ?side2 ?side3 ?side4 A6.out).mono ?_); (case side1 => exact cS HR0_1 HB); (case side2 => exact HC0_1.out); (case side3 => exact cS HR0_2 HB); (case side4 => exact HC0_2.out); rintro e w11 ⟨rfl, hb⟩; refine ⟨_, rfl, ?_⟩; replace BK423 := kB BK423 hb; replace BK424 := kB BK424 hb; replace HB := bS HB hb; (try clear hb); obtain ⟨hcz12_0, hcz12_1, hcz12_2, hfz12_0, hfz12_1, hfz12_2⟩ := bq3 BK424) | (go_at_call 10; (with_reducible refine (impl_IsMachine.calls k a1_0 _ _ l1_1 _ _ l1_2 t426 _ ?side1 ?side2 ?side3 ?side4 A8.out).mono ?_); (case side1 => exact cS HR1_1 HB); (case side2 => exact HC1_1.out); (case side3 => exact cS HR1_2 HB); (case side4 => exact HC1_2.out); rintro e w13 ⟨rfl, hb⟩; replace BK423 := kB BK423 hb; replace BK424 := kB BK424 hb; replace HB := bS HB hb; (try clear hb)))
   go_meet
   case rel => exact ⟨_, (!t426), zF, H', ⟨by first | omega | exact Nat.le_refl _⟩, ⟨zK BK423⟩, ⟨zK BK424⟩, ⟨zB HB⟩⟩
  ·replace c7 := Bool.eq_false_iff.mpr c7
   subst c7
   have H1 : (impl_Follows.j0 k true a0_0 l0_1 l0_2 a1_0 l1_1 l1_2) = some r := by rw [if_neg (show ¬ (false = true) by decide)] at H; exact H
   clear H
   have H := H1
   clear H1
   have H' := Aside0.mk H
   clear H
   have hnb14 := NB423_424.out
   have hnc14 := NB424_423.out
   obtain ⟨hcz15_0, hcz15_1, hcz15_2, hfz15_0, hfz15_1, hfz15_2⟩ := bq3 BK423
   go_wp2_with (first | ((with_reducible refine gate_callee (f := 10) rfl ?_); refine goesL_ (some 8) rfl rfl Try.func10 (by kernel_rfl) rfl #[.agg #[.int .i64 a0_0, .slice A0_1 l0_1.length c0_1, .slice A0_2 l0_2.length c0_2]] rfl zG ?_; (with_reducible refine (impl_IsMachine.calls k a0_0 _ _ l0_1 _ _ l0_2 false _ ?side1 ?side2 ?side3 ?side4 A6.out).mono ?_); (case side1 => exact cS HR0_1 HB); (case side2 => exact HC0_1.out); (case side3 => exact cS HR0_2 HB); (case side4 => exact HC0_2.out); rintro e w16 ⟨rfl, hb⟩; refine ⟨_, rfl, ?_⟩; replace BK423 := kB BK423 hb; replace BK424 := kB BK424 hb; replace HB := bS HB hb; (try clear hb)))
   go_meet
   case rel => exact ⟨_, (true), zF, H', ⟨by first | omega | exact Nat.le_refl _⟩, ⟨zK BK423⟩, ⟨zK BK424⟩, ⟨zB HB⟩⟩
 case rest =>
  clear HC3
  try clear c1
  try clear p2
  try clear c7
  try clear c9
  try clear c10
  try clear c14
  try clear hcz10_0
  try clear hcz10_1
  try clear hcz10_2
  try clear hcz12_0
  try clear hcz12_1
  try clear hcz12_2
  try clear hcz15_0
  try clear hcz15_1
  try clear hcz15_2
  try clear hfz10_0
  try clear hfz10_1
  try clear hfz10_2
  try clear hfz12_0
  try clear hfz12_1
  try clear hfz12_2
  try clear hfz15_0
  try clear hfz15_1
  try clear hfz15_2
  obtain ⟨kq, x14_2, rfl, HA, HJ2, BK423, BK424, HB⟩ := hcut
  cases kq with
  | zero => exact absurd HA.out (by simp [impl_Follows.j0])
  | succ kj2 =>
   have H := HA.out
   clear HA
   simp only [impl_Follows.j0] at H
   by_cases c17 : x14_2 = true
   ·subst c17
    have H1 : (some false) = some r := by rw [if_pos rfl] at H; exact H
    clear H
    have H := H1
    clear H1
    obtain rfl := Option.some.inj H
    go_wp2
    go_ret
    exact ⟨zE, zB HB⟩
   ·replace c17 := Bool.eq_false_iff.mpr c17
    subst c17
    have H1 : ((impl_FollowPairs.f kj2 a0_0 l0_1 l0_2 a1_0 l1_1 l1_2).bind fun t427 => (impl_Follows.l0 kj2 t427 (t427.length : Int) 0 a0_0 l0_1 l0_2 a1_0 l1_1 l1_2)) = some r := by rw [if_neg (show ¬ (false = true) by decide)] at H; exact H
    clear H
    have H := H1
    clear H1
    obtain ⟨t427, A18, H⟩ := bindS H
    have H' := Aside0.mk H
    clear H
    have hnb19 := NB423_424.out
    have hnc19 := NB424_423.out
    obtain ⟨hcz20_0, hcz20_1, hcz20_2, hfz20_0, hfz20_1, hfz20_2⟩ := bq3 BK423
    obtain ⟨hcz21_0, hcz21_1, hcz21_2, hfz21_0, hfz21_1, hfz21_2⟩ := bq3 BK424
    go_wp2_with (first | ((with_reducible refine gate_callee (f := 36) rfl ?_); refine goesL_ (some 17) rfl rfl Try.func36 (by kernel_rfl) rfl #[.agg #[.int .i64 a0_0, .slice A0_1 l0_1.length c0_1, .slice A0_2 l0_2.length c0_2], .agg #[.int .i64 a1_0, .slice A1_1 l1_1.length c1_1, .slice A1_2 l1_2.length c1_2]] rfl zG ?_; (with_reducible refine (impl_FollowPairs.calls kj2 a0_0 _ _ l0_1 _ _ l0_2 a1_0 _ _ l1_1 _ _ l1_2 t427 _ ?side1 ?side2 ?side3 ?side4 ?side5 ?side6 ?side7 ?side8 A18.out).mono ?_); (case side1 => exact cS HR0_1 HB); (case side2 => exact HC0_1.out); (case side3 => exact cS HR0_2 HB); (case side4 => exact HC0_2.out); (case side5 => exact cS HR1_1 HB); (case side6 => exact HC1_1.out); (case side7 => exact cS HR1_2 HB); (case side8 => exact HC1_2.out); rintro e w22 ⟨v428, rfl, ho0, hb⟩; refine ⟨_, rfl, ?_⟩; have HO429 := Aside0.mk (Kd.S_lower ho0 (below_size (zB HB))); replace BK423 := kB BK423 hb; replace BK424 := kB BK424 hb; replace HB := bS HB hb; (try clear hb); (try clear ho0); obtain ⟨Ao23, co23, eo23⟩ := Kd.S_slice HO429.out; subst eo23))
    go_loopg [19] kj2 (fun kq v19 w' => ∃ (x19_2 : Int), v19 = .int .i64 x19_2 ∧ Aside0 (impl_Follows.l0 kq t427 (t427.length : Int) x19_2 a0_0 l0_1 l0_2 a1_0 l1_1 l1_2 = some r) ∧ Aside0 (kq ≤ kj2) ∧ Aside0 (Kd.S (Kd.slice 3 (Kd.int .i64)) 31 w' w.heap.size (fun _ => True) (.slice Ao23 t427.length co23) t427) ∧ Aside0 (w'.heap[gb423]? = some (.cells #[.int .i64 a0_0, (.slice A0_1 l0_1.length c0_1), (.slice A0_2 l0_2.length c0_2)] 27 (0, 0))) ∧ Aside0 (w'.heap[gb424]? = some (.cells #[.int .i64 a1_0, (.slice A1_1 l1_1.length c1_1), (.slice A1_2 l1_2.length c1_2)] 27 (0, 0))) ∧ Aside0 (Below w.heap.size w w'))
    case atStart => exact ⟨(0), zF, H', ⟨Nat.le_refl _⟩, ⟨zS HO429⟩, ⟨zK BK423⟩, ⟨zK BK424⟩, ⟨zB HB⟩⟩
    case round =>
     clear H'
     try clear c1
     try clear p2
     try clear c3
     try clear c7
     try clear c9
     try clear c10
     try clear c14
     try clear c17
     try clear c18
     try clear c19
     try clear hcz10_0
     try clear hcz10_1
     try clear hcz10_2
     try clear hcz12_0
     try clear hcz12_1
     try clear hcz12_2
     try clear hcz15_0
     try clear hcz15_1
     try clear hcz15_2
     try clear hcz20_0
     try clear hcz20_1
     try clear hcz20_2
     try clear hcz21_0
     try clear hcz21_1
     try clear hcz21_2
     try clear hfz10_0
     try clear hfz10_1
     try clear hfz10_2
     try clear hfz12_0
     try clear hfz12_1
     try clear hfz12_2
     try clear hfz15_0
     try clear hfz15_1
     try clear hfz15_2
     try clear hfz20_0
     try clear hfz20_1
     try clear hfz20_2
     try clear hfz21_0
     try clear hfz21_1
     try clear hfz21_2
     try clear p2
     obtain ⟨x19_2, rfl, HA, HK2, HO_17, BK423, BK424, HB⟩ := hrel
     cases gk with
     | zero => exact absurd HA.out (by simp [impl_Follows.l0])
     | succ k2 =>
      have H := HA.out
      clear HA
      simp only [impl_Follows.l0] at H
      by_cases c24 : x19_2 < (t427.length : Int)
      ·rw [if_pos c24] at H
       have c24b0 : decide (x19_2 < (t427.length : Int)) = true := decide_eq_true c24
       clear c24
       obtain ⟨c25, H⟩ := ifS H
       have c25b0 : decide (0 ≤ x19_2) = true := decide_eq_true c25
       clear c25
       obtain ⟨c26, H⟩ := ifS H
       have c26b0 : decide (x19_2 < (t427.length : Int)) = true := decide_eq_true c26
       clear c26
       obtain ⟨c27, H⟩ := ifS H
       have c27b0 : decide (0 < ((rd_L7 t427 x19_2).length : Int)) = true := decide_eq_true c27
       have c27b1 : decide (0 < (rd_L7 t427 x19_2).length) = true := decide_eq_true (by omega)
       clear c27
       obtain ⟨c28, H⟩ := ifS H
       have c28b0 : decide (1 < ((rd_L7 t427 x19_2).length : Int)) = true := decide_eq_true c28
       have c28b1 : decide (1 < (rd_L7 t427 x19_2).length) = true := decide_eq_true (by omega)
       clear c28
       obtain ⟨t433, A29, H⟩ := bindS H
       by_cases c30 : t433 = true
       ·subst c30
        have H1 : (impl_Follows.l0 k2 t427 (t427.length : Int) (wrap64 (x19_2 + 1)) a0_0 l0_1 l0_2 a1_0 l1_1 l1_2) = some r := by rw [if_pos rfl] at H; exact H
        clear H
        have H := H1
        clear H1
        have H' := Aside0.mk H
        clear H
        have p430 : 0 ≤ (x19_2 : Int) := zD
        have q430 : x19_2 < (t427.length : Int) := zD
        obtain ⟨ad430, A430_0, c430_0, e430, hx430_0, hl430_0, hi430_0⟩ := at_L7 (Kd.S_reads' HO_17.out).2.2 x19_2 p430 q430
        cases e430
        obtain ⟨ce430, hce430, hMe430, hcc430⟩ := Kd.S_get HO_17.out [] x19_2 p430 (by first | exact q430 | exact zD | (have e_ := (Kd.S_reads' HO_17.out).1; omega))
        obtain ⟨ve430_0, rfl, ge430_0⟩ := hMe430
        have hv430_0 := hcc430 0 _ rfl
        rw [Nat.add_zero, show ((Kd.slice 3 (Kd.int .i64))).sz = 1 from rfl, Nat.mul_one] at hv430_0
        replace hv430_0 := Option.some.inj (hv430_0.symm.trans hx430_0)
        rw [hv430_0] at ge430_0
        have HL430_0 := Aside0.mk (show Kd.R (Kd.int .i64) 3 _ _ _ _ (rd_L7 t427 x19_2) from ge430_0)
        clear hv430_0 ge430_0
        clear hcc430 hce430
        have HR430_0 := Aside0.mk hi430_0
        have HC430_0 := Aside0.mk hl430_0
        clear hi430_0 hl430_0
        replace p430 := eq_true p430
        replace q430 := eq_true q430
        try go_wp2
        replace HO_17 := Aside0.mk (Kd.S_drew HO_17.out)
        replace HL430_0 := Aside0.mk (Kd.R_drew HL430_0.out)
        replace BK423 := Aside0.mk (blk_drew BK423.out)
        replace BK424 := Aside0.mk (blk_drew BK424.out)
        replace HR430_0 := Aside0.mk (Kd.C_drew HR430_0.out)
        replace HB := Aside0.mk (below_drew1 HB.out)
        have p431 : 0 ≤ (0 : Int) := (by omega)
        have q431 : 0 < ((rd_L7 t427 x19_2).length : Int) := zD
        obtain ⟨ad431, e431, hx431_0⟩ := Kd.at_int (by repeat (first | (with_reducible exact HR430_0.out) | (with_reducible refine Kd.C_alloc ?_ _) | (with_reducible refine Kd.C_drewN ?_ _) | (with_reducible refine Kd.C_drew ?_) | exact HR430_0.out)) 0 p431 q431
        cases e431
        have qi431 : (0 < (rd_L7 t427 x19_2).length) = True := eq_true (by omega)
        (try rw [show ((0 : Int)).toNat = 0 from rfl] at hx431_0)
        (try rw [Addr.add_zero'] at hx431_0)
        replace p431 := eq_true p431
        replace q431 := eq_true q431
        have p432 : 0 ≤ (1 : Int) := (by omega)
        have q432 : 1 < ((rd_L7 t427 x19_2).length : Int) := zD
        obtain ⟨ad432, e432, hx432_0⟩ := Kd.at_int (by repeat (first | (with_reducible exact HR430_0.out) | (with_reducible refine Kd.C_alloc ?_ _) | (with_reducible refine Kd.C_drewN ?_ _) | (with_reducible refine Kd.C_drew ?_) | exact HR430_0.out)) 1 p432 q432
        obtain rfl : ad431 = ad432 := (by injection e432)
        (try simp only [show (1 : Int).toNat = 1 from rfl, Nat.reduceMul, Nat.reduceEqDiff, Go.Addr.add, ↓reduceIte] at hx432_0)
        have qi432 : (1 < (rd_L7 t427 x19_2).length) = True := eq_true (by omega)
        (try rw [show ((1 : Int)).toNat = 1 from rfl] at hx432_0)
        replace p432 := eq_true p432
        replace q432 := eq_true q432
        refine start_ (n := 10) (S := fun w' => w'.cell? ⟨gb423, 0, none⟩ = some (.int .i64 a0_0) ∧ w'.cell? ⟨gb423, 1, none⟩ = some (.slice A0_1 l0_1.length c0_1) ∧ w'.cell? ⟨gb423, 2, none⟩ = some (.slice A0_2 l0_2.length c0_2) ∧ w'.cell? ⟨gb424, 0, none⟩ = some (.int .i64 a1_0) ∧ w'.cell? ⟨gb424, 1, none⟩ = some (.slice A1_1 l1_1.length c1_1) ∧ w'.cell? ⟨gb424, 2, none⟩ = some (.slice A1_2 l1_2.length c1_2) ∧ w'.cell? ad431 = some (.int .i64 (rd (rd_L7 t427 x19_2) 0)) ∧ w'.cell? ⟨ad431.block, ad431.off + 1, none⟩ = some (.int .i64 (rd (rd_L7 t427 x19_2) 1))) (ds := []) (bm 10 0) (by kernel_rfl) rfl (bm0 _) ⟨bc0 BK423, bc1 BK423, bc2 BK423, bc0 BK424, bc1 BK424, bc2 BK424, hx431_0, hx432_0⟩ (fun hHeld => ?_); refine with_tabW impl_Follows.tab6 impl_Follows.bits6 (fun HT_ HW_ => ?_)
        generalize wr.drew = w31 at HO_17 HL430_0 BK423 BK424 HR430_0 HB hx431_0 hx432_0 hHeld ⊢
        refine pU 2 (some 25) (bm 10 4) HT_ rfl rfl ?_
        refine pU 3 (some 26) (bm 10 12) HT_ rfl rfl ?_
        refine pU 5 (some 28) (bm 10 44) HT_ rfl rfl ?_
        refine pU 6 (some 29) (bm 10 108) HT_ rfl rfl ?_
        refine tU 0 (some 23) (bm 10 109) HT_ HW_ rfl rfl hHeld ?_
        refine tU 1 (some 24) (bm 10 111) HT_ HW_ rfl rfl hHeld ?_
        refine tU 4 (some 27) (bm 10 127) HT_ HW_ rfl rfl hHeld ?_
        refine tU 7 (some 30) (bm 10 255) HT_ HW_ rfl rfl hHeld ?_
        refine one_ (i := 8) (N := some 31) (bm 10 511) rfl rfl (one_of HT_.out (by kernel_rfl)) (by decide) (fun K hK => ?_)
        refine goes_ Try.func37 (by kernel_rfl) rfl #[.agg #[.int .i64 a0_0, .slice A0_1 l0_1.length c0_1, .slice A0_2 l0_2.length c0_2], .agg #[.int .i64 a1_0, .slice A1_1 l1_1.length c1_1, .slice A1_2 l1_2.length c1_2], .int .i64 (rd (rd_L7 t427 x19_2) 0), .int .i64 (rd (rd_L7 t427 x19_2) 1)] (by rfl) rfl rfl zG ?_
        with_reducible refine (impl_FollowsAt.calls k2 a0_0 _ _ l0_1 _ _ l0_2 a1_0 _ _ l1_1 _ _ l1_2 (rd (rd_L7 t427 x19_2) 0) (rd (rd_L7 t427 x19_2) 1) true _ ?side1 ?side2 ?side3 ?side4 ?side5 ?side6 ?side7 ?side8 A29.out).mono ?_
        (case side1 => exact cS HR0_1 HB)
        (case side2 => exact HC0_1.out)
        (case side3 => exact cS HR0_2 HB)
        (case side4 => exact HC0_2.out)
        (case side5 => exact cS HR1_1 HB)
        (case side6 => exact HC1_1.out)
        (case side7 => exact cS HR1_2 HB)
        (case side8 => exact HC1_2.out)
        rintro e w32 ⟨rfl, hb⟩
        have HS6_ := (hb.cell (World.block_lt_of_cell? _ _ (hHeld.2.2.2.2.2.2.1))).trans (hHeld.2.2.2.2.2.2.1)
        have HS7_ := (hb.cell (World.block_lt_of_cell? _ _ (hHeld.2.2.2.2.2.2.2))).trans (hHeld.2.2.2.2.2.2.2)
        refine ⟨_, rfl, ?_⟩
        replace HO_17 := Aside0.mk (Kd.S_below (zS HO_17) hb)
        replace HL430_0 := Aside0.mk (Kd.R_below (zR HL430_0) hb)
        replace BK423 := kB BK423 hb
        replace BK424 := kB BK424 hb
        replace HR430_0 := Aside0.mk (Kd.C_below (by repeat (first | (with_reducible exact HR430_0.out) | (with_reducible refine Kd.C_alloc ?_ _) | (with_reducible refine Kd.C_drewN ?_ _) | (with_reducible refine Kd.C_drew ?_) | exact HR430_0.out)) hb)
        replace HB := bS HB hb
        (try clear hb); (try clear hb2); (try clear hk); (try clear hi)
        refine hK.out _ _ ⟨bc0 BK423, bc1 BK423, bc2 BK423, bc0 BK424, bc1 BK424, bc2 BK424, HS6_, HS7_⟩ (fun hHeld => ?_)
        clear hK K
        refine nU 31 ?_
        refine pU 9 (some 32) (bm 10 1023) HT_ rfl rfl ?_
        refine done_ (done_of HT_.out (by kernel_rfl)) ?_
        try clear hHeld
        try go_wp2
        go_roundg k2
        case measure => have := HJ2.out; have := HK2.out; omega
        case rel => exact ⟨(wrap64 (x19_2 + 1)), zF, H', ⟨by have := HJ2.out; have := HK2.out; omega⟩, ⟨zS HO_17⟩, ⟨zK BK423⟩, ⟨zK BK424⟩, ⟨zB HB⟩⟩
       ·replace c30 := Bool.eq_false_iff.mpr c30
        subst c30
        have H1 : (some false) = some r := by rw [if_neg (show ¬ (false = true) by decide)] at H; exact H
        clear H
        have H := H1
        clear H1
        obtain rfl := Option.some.inj H
        have p430 : 0 ≤ (x19_2 : Int) := zD
        have q430 : x19_2 < (t427.length : Int) := zD
        obtain ⟨ad430, A430_0, c430_0, e430, hx430_0, hl430_0, hi430_0⟩ := at_L7 (Kd.S_reads' HO_17.out).2.2 x19_2 p430 q430
        cases e430
        obtain ⟨ce430, hce430, hMe430, hcc430⟩ := Kd.S_get HO_17.out [] x19_2 p430 (by first | exact q430 | exact zD | (have e_ := (Kd.S_reads' HO_17.out).1; omega))
        obtain ⟨ve430_0, rfl, ge430_0⟩ := hMe430
        have hv430_0 := hcc430 0 _ rfl
        rw [Nat.add_zero, show ((Kd.slice 3 (Kd.int .i64))).sz = 1 from rfl, Nat.mul_one] at hv430_0
        replace hv430_0 := Option.some.inj (hv430_0.symm.trans hx430_0)
        rw [hv430_0] at ge430_0
        have HL430_0 := Aside0.mk (show Kd.R (Kd.int .i64) 3 _ _ _ _ (rd_L7 t427 x19_2) from ge430_0)
        clear hv430_0 ge430_0
        clear hcc430 hce430
        have HR430_0 := Aside0.mk hi430_0
        have HC430_0 := Aside0.mk hl430_0
        clear hi430_0 hl430_0
        replace p430 := eq_true p430
        replace q430 := eq_true q430
        try go_wp2
        replace HO_17 := Aside0.mk (Kd.S_drew HO_17.out)
        replace HL430_0 := Aside0.mk (Kd.R_drew HL430_0.out)
        replace BK423 := Aside0.mk (blk_drew BK423.out)
        replace BK424 := Aside0.mk (blk_drew BK424.out)
        replace HR430_0 := Aside0.mk (Kd.C_drew HR430_0.out)
        replace HB := Aside0.mk (below_drew1 HB.out)
        have p431 : 0 ≤ (0 : Int) := (by omega)
        have q431 : 0 < ((rd_L7 t427 x19_2).length : Int) := zD
        obtain ⟨ad431, e431, hx431_0⟩ := Kd.at_int (by repeat (first | (with_reducible exact HR430_0.out) | (with_reducible refine Kd.C_alloc ?_ _) | (with_reducible refine Kd.C_drewN ?_ _) | (with_reducible refine Kd.C_drew ?_) | exact HR430_0.out)) 0 p431 q431
        cases e431
        have qi431 : (0 < (rd_L7 t427 x19_2).length) = True := eq_true (by omega)
        (try rw [show ((0 : Int)).toNat = 0 from rfl] at hx431_0)
        (try rw [Addr.add_zero'] at hx431_0)
        replace p431 := eq_true p431
        replace q431 := eq_true q431
        have p432 : 0 ≤ (1 : Int) := (by omega)
        have q432 : 1 < ((rd_L7 t427 x19_2).length : Int) := zD
        obtain ⟨ad432, e432, hx432_0⟩ := Kd.at_int (by repeat (first | (with_reducible exact HR430_0.out) | (with_reducible refine Kd.C_alloc ?_ _) | (with_reducible refine Kd.C_drewN ?_ _) | (with_reducible refine Kd.C_drew ?_) | exact HR430_0.out)) 1 p432 q432
        obtain rfl : ad431 = ad432 := (by injection e432)
        (try simp only [show (1 : Int).toNat = 1 from rfl, Nat.reduceMul, Nat.reduceEqDiff, Go.Addr.add, ↓reduceIte] at hx432_0)
        have qi432 : (1 < (rd_L7 t427 x19_2).length) = True := eq_true (by omega)
        (try rw [show ((1 : Int)).toNat = 1 from rfl] at hx432_0)
        replace p432 := eq_true p432
        replace q432 := eq_true q432
        refine start_ (n := 10) (S := fun w' => w'.cell? ⟨gb423, 0, none⟩ = some (.int .i64 a0_0) ∧ w'.cell? ⟨gb423, 1, none⟩ = some (.slice A0_1 l0_1.length c0_1) ∧ w'.cell? ⟨gb423, 2, none⟩ = some (.slice A0_2 l0_2.length c0_2) ∧ w'.cell? ⟨gb424, 0, none⟩ = some (.int .i64 a1_0) ∧ w'.cell? ⟨gb424, 1, none⟩ = some (.slice A1_1 l1_1.length c1_1) ∧ w'.cell? ⟨gb424, 2, none⟩ = some (.slice A1_2 l1_2.length c1_2) ∧ w'.cell? ad431 = some (.int .i64 (rd (rd_L7 t427 x19_2) 0)) ∧ w'.cell? ⟨ad431.block, ad431.off + 1, none⟩ = some (.int .i64 (rd (rd_L7 t427 x19_2) 1))) (ds := []) (bm 10 0) (by kernel_rfl) rfl (bm0 _) ⟨bc0 BK423, bc1 BK423, bc2 BK423, bc0 BK424, bc1 BK424, bc2 BK424, hx431_0, hx432_0⟩ (fun hHeld => ?_); refine with_tabW impl_Follows.tab6 impl_Follows.bits6 (fun HT_ HW_ => ?_)
        generalize wr.drew = w33 at HO_17 HL430_0 BK423 BK424 HR430_0 HB hx431_0 hx432_0 hHeld ⊢
        refine pU 2 (some 25) (bm 10 4) HT_ rfl rfl ?_
        refine pU 3 (some 26) (bm 10 12) HT_ rfl rfl ?_
        refine pU 5 (some 28) (bm 10 44) HT_ rfl rfl ?_
        refine pU 6 (some 29) (bm 10 108) HT_ rfl rfl ?_
        refine tU 0 (some 23) (bm 10 109) HT_ HW_ rfl rfl hHeld ?_
        refine tU 1 (some 24) (bm 10 111) HT_ HW_ rfl rfl hHeld ?_
        refine tU 4 (some 27) (bm 10 127) HT_ HW_ rfl rfl hHeld ?_
        refine tU 7 (some 30) (bm 10 255) HT_ HW_ rfl rfl hHeld ?_
        refine one_ (i := 8) (N := some 31) (bm 10 511) rfl rfl (one_of HT_.out (by kernel_rfl)) (by decide) (fun K hK => ?_)
        refine goes_ Try.func37 (by kernel_rfl) rfl #[.agg #[.int .i64 a0_0, .slice A0_1 l0_1.length c0_1, .slice A0_2 l0_2.length c0_2], .agg #[.int .i64 a1_0, .slice A1_1 l1_1.length c1_1, .slice A1_2 l1_2.length c1_2], .int .i64 (rd (rd_L7 t427 x19_2) 0), .int .i64 (rd (rd_L7 t427 x19_2) 1)] (by rfl) rfl rfl zG ?_
        with_reducible refine (impl_FollowsAt.calls k2 a0_0 _ _ l0_1 _ _ l0_2 a1_0 _ _ l1_1 _ _ l1_2 (rd (rd_L7 t427 x19_2) 0) (rd (rd_L7 t427 x19_2) 1) false _ ?side1 ?side2 ?side3 ?side4 ?side5 ?side6 ?side7 ?side8 A29.out).mono ?_
        (case side1 => exact cS HR0_1 HB)
        (case side2 => exact HC0_1.out)
        (case side3 => exact cS HR0_2 HB)
        (case side4 => exact HC0_2.out)
        (case side5 => exact cS HR1_1 HB)
        (case side6 => exact HC1_1.out)
        (case side7 => exact cS HR1_2 HB)
        (case side8 => exact HC1_2.out)
        rintro e w34 ⟨rfl, hb⟩
        have HS6_ := (hb.cell (World.block_lt_of_cell? _ _ (hHeld.2.2.2.2.2.2.1))).trans (hHeld.2.2.2.2.2.2.1)
        have HS7_ := (hb.cell (World.block_lt_of_cell? _ _ (hHeld.2.2.2.2.2.2.2))).trans (hHeld.2.2.2.2.2.2.2)
        refine ⟨_, rfl, ?_⟩
        replace HO_17 := Aside0.mk (Kd.S_below (zS HO_17) hb)
        replace HL430_0 := Aside0.mk (Kd.R_below (zR HL430_0) hb)
        replace BK423 := kB BK423 hb
        replace BK424 := kB BK424 hb
        replace HR430_0 := Aside0.mk (Kd.C_below (by repeat (first | (with_reducible exact HR430_0.out) | (with_reducible refine Kd.C_alloc ?_ _) | (with_reducible refine Kd.C_drewN ?_ _) | (with_reducible refine Kd.C_drew ?_) | exact HR430_0.out)) hb)
        replace HB := bS HB hb
        (try clear hb); (try clear hb2); (try clear hk); (try clear hi)
        refine hK.out _ _ ⟨bc0 BK423, bc1 BK423, bc2 BK423, bc0 BK424, bc1 BK424, bc2 BK424, HS6_, HS7_⟩ (fun hHeld => ?_)
        clear hK K
        refine nU 31 ?_
        refine pU 9 (some 32) (bm 10 1023) HT_ rfl rfl ?_
        refine done_ (done_of HT_.out (by kernel_rfl)) ?_
        try clear hHeld
        try go_wp2
        go_ret
        exact ⟨zE, zB HB⟩
      ·rw [if_neg c24] at H
       have c24b0 : decide (x19_2 < (t427.length : Int)) = false := decide_eq_false c24
       clear c24
       obtain rfl := Option.some.inj H
       go_wp2
       go_ret
       exact ⟨zE, zB HB⟩

/-! ### impl_ChainFollows: function 16 -/
def impl_ChainFollows.l0 : Nat → List (S27) → Int → Option (Bool)
 | 0, _, _ => none
 | k + 1, x0, x3 => if x3 < (x0.length : Int) then (if 0 ≤ x3 then (if 0 ≤ (wrap64 (x3 - 1)) then (if (wrap64 (x3 - 1)) < (x0.length : Int) then ((impl_Follows.f k ((rd_T27 x0 x3).f0) ((rd_T27 x0 x3).f1) ((rd_T27 x0 x3).f2) ((rd_T27 x0 (wrap64 (x3 - 1))).f0) ((rd_T27 x0 (wrap64 (x3 - 1))).f1) ((rd_T27 x0 (wrap64 (x3 - 1))).f2)).bind fun t436 => (if t436 = true then (impl_ChainFollows.l0 k x0 (wrap64 (x3 + 1))) else (some false))) else (none)) else (none)) else (none)) else (if (x0.length : Int) > 0 then (if 0 < (x0.length : Int) then ((impl_IsMachine.f k ((rd_T27 x0 0).f0) ((rd_T27 x0 0).f1) ((rd_T27 x0 0).f2)).bind fun t438 => (some t438)) else (none)) else (some false))
def impl_ChainFollows.f (k : Nat) (l0 : List (S27)) : Option (Bool) := impl_ChainFollows.l0 k l0 1
theorem impl_ChainFollows.mono_l : ∀ k, (∀ y0 y1, LeO (impl_ChainFollows.l0 k y0 y1) (impl_ChainFollows.l0 (k + 1) y0 y1))
 | 0 => fun _ _ r h => by simp [impl_ChainFollows.l0] at h
 | k + 1 => by
  have ih0 := impl_ChainFollows.mono_l k
  ·intro y0 y1
   unfold impl_ChainFollows.l0
   repeat' first
   | (with_reducible exact ih0 _ _)
   | (with_reducible exact impl_Follows.mono _ _ _ _ _ _ _)
   | (with_reducible exact impl_IsMachine.mono _ _ _ _)
   | (with_reducible exact LeO.refl _)
   | (with_reducible exact LeO.none _)
   | (with_reducible refine LeO.ite ?_ ?_)
   | (with_reducible refine LeO.bind ?_ (fun _ => ?_))
   | exact ih0 _ _
   | exact impl_Follows.mono _ _ _ _ _ _ _
   | exact impl_IsMachine.mono _ _ _ _
   | exact LeO.none _
   | refine LeO.ite ?_ ?_
   | refine LeO.bind ?_ (fun _ => ?_)
theorem impl_ChainFollows.mono : ∀ a0 k, LeO (impl_ChainFollows.f k a0) (impl_ChainFollows.f (k + 1) a0) := by
 intro a0 k
 have ih0 := impl_ChainFollows.mono_l k
 unfold impl_ChainFollows.f
 repeat' first
   | (with_reducible exact ih0 _ _)
   | (with_reducible exact impl_Follows.mono _ _ _ _ _ _ _)
   | (with_reducible exact impl_IsMachine.mono _ _ _ _)
   | (with_reducible exact LeO.refl _)
   | (with_reducible exact LeO.none _)
   | (with_reducible refine LeO.ite ?_ ?_)
   | (with_reducible refine LeO.bind ?_ (fun _ => ?_))
   | exact ih0 _ _
   | exact impl_Follows.mono _ _ _ _ _ _ _
   | exact impl_IsMachine.mono _ _ _ _
   | exact LeO.none _
   | refine LeO.ite ?_ ?_
   | refine LeO.bind ?_ (fun _ => ?_)
def impl_ChainFollows.T4 : Bool × List (List Nat × List Nat) := (true, [([], []), ([], []), ([0, 1], [0, 1]), ([2], [2]), ([], []), ([], []), ([5], [5]), ([4, 6], [4, 6]), ([7], [7]), ([3, 8], [3, 8]), ([9], [9])])
def impl_ChainFollows.B4 : List Nat := [0, 0, 3, 7, 0, 0, 32, 112, 240, 511, 1023]
theorem impl_ChainFollows.tab4 : rtab .any (opsOf Try.f16 4) = impl_ChainFollows.T4 := by kernel_rfl
theorem impl_ChainFollows.bits4 : waitsOk impl_ChainFollows.T4.2 impl_ChainFollows.B4 = true := by kernel_rfl
set_option maxHeartbeats 8000000 in
set_option maxRecDepth 100000 in
theorem impl_ChainFollows.calls (k : Nat) (A0 : Option Addr) (c0 : Nat) (l0 : List (S27)) (r : Bool) (w : World) (hr0 : Kd.C k27 w A0 l0.length l0) (hc0 : l0.length ≤ c0) (h : impl_ChainFollows.f k l0 = some r) :
  Calls Try.prog 16 #[.slice A0 l0.length c0] w fun e w' => e = .returned (.bool r) ∧ Below w.heap.size w w' := by
 have hu27 := Try.underlying27
 have HR0 := Aside0.mk hr0
 have HC0 := Aside0.mk hc0
 clear hr0 hc0
 have HB := Aside0.mk (Below.refl w.heap.size w)
 have H : (impl_ChainFollows.l0 k l0 1) = some r := h
 clear h
 have H' := Aside0.mk H
 clear H
 go_enter Try.func16, Try.ntmps16
 go_wp2
 go_loopg [3] k (fun kq v3 w' => ∃ (x3_1 : Int), v3 = .int .i64 x3_1 ∧ Aside0 (impl_ChainFollows.l0 kq l0 x3_1 = some r) ∧ Aside0 (kq ≤ k) ∧ Aside0 (Below w.heap.size w w'))
 case atStart => exact ⟨(1), zF, H', ⟨Nat.le_refl _⟩, ⟨zB HB⟩⟩
 case round =>
  clear H'
  try clear c1
  obtain ⟨x3_1, rfl, HA, HK1, HB⟩ := hrel
  cases gk with
  | zero => exact absurd HA.out (by simp [impl_ChainFollows.l0])
  | succ k1 =>
   have H := HA.out
   clear HA
   simp only [impl_ChainFollows.l0] at H
   by_cases c2 : x3_1 < (l0.length : Int)
   ·rw [if_pos c2] at H
    have c2b0 : decide (x3_1 < (l0.length : Int)) = true := decide_eq_true c2
    clear c2
    obtain ⟨c3, H⟩ := ifS H
    have c3b0 : decide (0 ≤ x3_1) = true := decide_eq_true c3
    clear c3
    obtain ⟨ji4, hji4⟩ : ∃ j_ : Int, (wrap64 (x3_1 - 1)) = j_ := ⟨_, rfl⟩
    replace H : (if 0 ≤ (ji4) then (if (ji4) < (l0.length : Int) then ((impl_Follows.f k1 ((rd_T27 l0 x3_1).f0) ((rd_T27 l0 x3_1).f1) ((rd_T27 l0 x3_1).f2) ((rd_T27 l0 (ji4)).f0) ((rd_T27 l0 (ji4)).f1) ((rd_T27 l0 (ji4)).f2)).bind fun t436 => (if t436 = true then (impl_ChainFollows.l0 k1 l0 (wrap64 (x3_1 + 1))) else (some false))) else (none)) else (none)) = some r := by first | (rw [hji4] at H; exact H) | (simp only [hji4] at H ⊢; exact H)
    have hji4w : (IntKind.i64.wrap (x3_1 - 1)) = ji4 := (i64_w _).trans hji4
    obtain ⟨c5, H⟩ := ifS H
    have c5b0 : decide (0 ≤ (ji4)) = true := decide_eq_true c5
    clear c5
    obtain ⟨c6, H⟩ := ifS H
    have c6b0 : decide ((ji4) < (l0.length : Int)) = true := decide_eq_true c6
    clear c6
    obtain ⟨t436, A7, H⟩ := bindS H
    by_cases c8 : t436 = true
    ·subst c8
     have H1 : (impl_ChainFollows.l0 k1 l0 (wrap64 (x3_1 + 1))) = some r := by rw [if_pos rfl] at H; exact H
     clear H
     have H := H1
     clear H1
     have H' := Aside0.mk H
     clear H
     try go_wp2
     replace HB := Aside0.mk (below_drew1 HB.out)
     have p434 : 0 ≤ (x3_1 : Int) := zD
     have q434 : x3_1 < (l0.length : Int) := zD
     obtain ⟨ad434, A434_1, c434_1, A434_2, c434_2, e434, hx434_0, hx434_1, hx434_2, hl434_1, hi434_1, hl434_2, hi434_2⟩ := at_T27 HR0.out x3_1 p434 q434
     have hw434_2 := hx434_2
     have hw434_1 := hx434_1
     have hw434_0 := hx434_0
     cases e434
     replace hx434_0 := hL HB hx434_0
     replace hx434_1 := hL HB hx434_1
     replace hx434_2 := hL HB hx434_2
     have HR434_1 := Aside0.mk hi434_1
     have HC434_1 := Aside0.mk hl434_1
     clear hi434_1 hl434_1
     have HR434_2 := Aside0.mk hi434_2
     have HC434_2 := Aside0.mk hl434_2
     clear hi434_2 hl434_2
     replace p434 := eq_true p434
     replace q434 := eq_true q434
     have p435 : 0 ≤ ((ji4) : Int) := zD
     have q435 : (ji4) < (l0.length : Int) := zD
     obtain ⟨ad435, A435_1, c435_1, A435_2, c435_2, e435, hx435_0, hx435_1, hx435_2, hl435_1, hi435_1, hl435_2, hi435_2⟩ := at_T27 HR0.out (ji4) p435 q435
     have hw435_2 := hx435_2
     have hw435_1 := hx435_1
     have hw435_0 := hx435_0
     obtain rfl : ad434 = ad435 := (by injection e435)
     replace hx435_0 := hL HB hx435_0
     replace hx435_1 := hL HB hx435_1
     replace hx435_2 := hL HB hx435_2
     have HR435_1 := Aside0.mk hi435_1
     have HC435_1 := Aside0.mk hl435_1
     clear hi435_1 hl435_1
     have HR435_2 := Aside0.mk hi435_2
     have HC435_2 := Aside0.mk hl435_2
     clear hi435_2 hl435_2
     replace p435 := eq_true p435
     replace q435 := eq_true q435
     refine start_ (n := 11) (S := fun w' => w'.cell? (ad434.add ((x3_1).toNat * 3)) = some (.int .i64 ((rd_T27 l0 x3_1).f0)) ∧ w'.cell? ⟨(ad434.add ((x3_1).toNat * 3)).block, (ad434.add ((x3_1).toNat * 3)).off + 1, none⟩ = some (.slice A434_1 ((rd_T27 l0 x3_1).f1).length c434_1) ∧ w'.cell? ⟨(ad434.add ((x3_1).toNat * 3)).block, (ad434.add ((x3_1).toNat * 3)).off + 2, none⟩ = some (.slice A434_2 ((rd_T27 l0 x3_1).f2).length c434_2) ∧ w'.cell? (ad434.add (((ji4)).toNat * 3)) = some (.int .i64 ((rd_T27 l0 (ji4)).f0)) ∧ w'.cell? ⟨(ad434.add (((ji4)).toNat * 3)).block, (ad434.add (((ji4)).toNat * 3)).off + 1, none⟩ = some (.slice A435_1 ((rd_T27 l0 (ji4)).f1).length c435_1) ∧ w'.cell? ⟨(ad434.add (((ji4)).toNat * 3)).block, (ad434.add (((ji4)).toNat * 3)).off + 2, none⟩ = some (.slice A435_2 ((rd_T27 l0 (ji4)).f2).length c435_2)) (ds := []) (bm 11 0) (by kernel_rfl) rfl (bm0 _) ⟨(hL HB hw434_0), (hL HB hw434_1), (hL HB hw434_2), (hL HB hw435_0), (hL HB hw435_1), (hL HB hw435_2)⟩ (fun hHeld => ?_); refine with_tabW impl_ChainFollows.tab4 impl_ChainFollows.bits4 (fun HT_ HW_ => ?_)
     generalize wr.drew = w9 at HB HR434_1 HR434_2 HR435_1 HR435_2 hx434_0 hx434_1 hx434_2 hx435_0 hx435_1 hx435_2 hHeld ⊢
     refine pU 0 (some 10) (bm 11 1) HT_ rfl rfl ?_
     refine pU 1 (some 11) (bm 11 3) HT_ rfl rfl ?_
     refine pU 2 (some 12) (bm 11 7) HT_ rfl rfl ?_
     refine pU 4 (some 14) (bm 11 23) HT_ rfl rfl ?_
     refine pU 5 (some 15) (bm 11 55) HT_ rfl rfl ?_
     refine pU 6 (some 16) (bm 11 119) HT_ rfl rfl ?_
     refine pU 7 (some 17) (bm 11 247) HT_ rfl rfl ?_
     refine tU 3 (some 13) (bm 11 255) HT_ HW_ rfl rfl hHeld ?_
     refine tU 8 (some 18) (bm 11 511) HT_ HW_ rfl rfl hHeld ?_
     refine one_ (i := 9) (N := some 19) (bm 11 1023) rfl rfl (one_of HT_.out (by kernel_rfl)) (by decide) (fun K hK => ?_)
     refine goes_ Try.func18 (by kernel_rfl) rfl #[.agg #[.int .i64 ((rd_T27 l0 x3_1).f0), .slice A434_1 ((rd_T27 l0 x3_1).f1).length c434_1, .slice A434_2 ((rd_T27 l0 x3_1).f2).length c434_2], .agg #[.int .i64 ((rd_T27 l0 (ji4)).f0), .slice A435_1 ((rd_T27 l0 (ji4)).f1).length c435_1, .slice A435_2 ((rd_T27 l0 (ji4)).f2).length c435_2]] (by rfl) rfl rfl (by (try simp only [List.map_toArray, List.map_cons, List.map_nil]); first | done | (simp only [hji4]; rfl) | rfl | (simp only [List.length_drop, List.length_take]; rfl)) ?_
     with_reducible refine (impl_Follows.calls k1 ((rd_T27 l0 x3_1).f0) _ _ ((rd_T27 l0 x3_1).f1) _ _ ((rd_T27 l0 x3_1).f2) ((rd_T27 l0 (ji4)).f0) _ _ ((rd_T27 l0 (ji4)).f1) _ _ ((rd_T27 l0 (ji4)).f2) true _ ?side1 ?side2 ?side3 ?side4 ?side5 ?side6 ?side7 ?side8 A7.out).mono ?_
     (case side1 => exact cS HR434_1 HB)
     (case side2 => exact HC434_1.out)
     (case side3 => exact cS HR434_2 HB)
     (case side4 => exact HC434_2.out)
     (case side5 => exact cS HR435_1 HB)
     (case side6 => exact HC435_1.out)
     (case side7 => exact cS HR435_2 HB)
     (case side8 => exact HC435_2.out)
     rintro e w10 ⟨rfl, hb⟩
     refine ⟨_, rfl, ?_⟩
     replace HB := bS HB hb
     (try clear hb); (try clear hb2); (try clear hk); (try clear hi)
     refine hK.out _ _ ⟨(hL HB hw434_0), (hL HB hw434_1), (hL HB hw434_2), (hL HB hw435_0), (hL HB hw435_1), (hL HB hw435_2)⟩ (fun hHeld => ?_)
     clear hK K
     refine nU 19 ?_
     refine pU 10 (some 20) (bm 11 2047) HT_ rfl rfl ?_
     refine done_ (done_of HT_.out (by kernel_rfl)) ?_
     try clear hHeld
     try go_wp2
     go_roundg k1
     case measure => have := HK1.out; omega
     case rel => exact ⟨(wrap64 (x3_1 + 1)), zF, H', ⟨by have := HK1.out; omega⟩, ⟨zB HB⟩⟩
    ·replace c8 := Bool.eq_false_iff.mpr c8
     subst c8
     have H1 : (some false) = some r := by rw [if_neg (show ¬ (false = true) by decide)] at H; exact H
     clear H
     have H := H1
     clear H1
     obtain rfl := Option.some.inj H
     try go_wp2
     replace HB := Aside0.mk (below_drew1 HB.out)
     have p434 : 0 ≤ (x3_1 : Int) := zD
     have q434 : x3_1 < (l0.length : Int) := zD
     obtain ⟨ad434, A434_1, c434_1, A434_2, c434_2, e434, hx434_0, hx434_1, hx434_2, hl434_1, hi434_1, hl434_2, hi434_2⟩ := at_T27 HR0.out x3_1 p434 q434
     have hw434_2 := hx434_2
     have hw434_1 := hx434_1
     have hw434_0 := hx434_0
     cases e434
     replace hx434_0 := hL HB hx434_0
     replace hx434_1 := hL HB hx434_1
     replace hx434_2 := hL HB hx434_2
     have HR434_1 := Aside0.mk hi434_1
     have HC434_1 := Aside0.mk hl434_1
     clear hi434_1 hl434_1
     have HR434_2 := Aside0.mk hi434_2
     have HC434_2 := Aside0.mk hl434_2
     clear hi434_2 hl434_2
     replace p434 := eq_true p434
     replace q434 := eq_true q434
     have p435 : 0 ≤ ((ji4) : Int) := zD
     have q435 : (ji4) < (l0.length : Int) := zD
     obtain ⟨ad435, A435_1, c435_1, A435_2, c435_2, e435, hx435_0, hx435_1, hx435_2, hl435_1, hi435_1, hl435_2, hi435_2⟩ := at_T27 HR0.out (ji4) p435 q435
     have hw435_2 := hx435_2
     have hw435_1 := hx435_1
     have hw435_0 := hx435_0
     obtain rfl : ad434 = ad435 := (by injection e435)
     replace hx435_0 := hL HB hx435_0
     replace hx435_1 := hL HB hx435_1
     replace hx435_2 := hL HB hx435_2
     have HR435_1 := Aside0.mk hi435_1
     have HC435_1 := Aside0.mk hl435_1
     clear hi435_1 hl435_1
     have HR435_2 := Aside0.mk hi435_2
     have HC435_2 := Aside0.mk hl435_2
     clear hi435_2 hl435_2
     replace p435 := eq_true p435
     replace q435 := eq_true q435
     refine start_ (n := 11) (S := fun w' => w'.cell? (ad434.add ((x3_1).toNat * 3)) = some (.int .i64 ((rd_T27 l0 x3_1).f0)) ∧ w'.cell? ⟨(ad434.add ((x3_1).toNat * 3)).block, (ad434.add ((x3_1).toNat * 3)).off + 1, none⟩ = some (.slice A434_1 ((rd_T27 l0 x3_1).f1).length c434_1) ∧ w'.cell? ⟨(ad434.add ((x3_1).toNat * 3)).block, (ad434.add ((x3_1).toNat * 3)).off + 2, none⟩ = some (.slice A434_2 ((rd_T27 l0 x3_1).f2).length c434_2) ∧ w'.cell? (ad434.add (((ji4)).toNat * 3)) = some (.int .i64 ((rd_T27 l0 (ji4)).f0)) ∧ w'.cell? ⟨(ad434.add (((ji4)).toNat * 3)).block, (ad434.add (((ji4)).toNat * 3)).off + 1, none⟩ = some (.slice A435_1 ((rd_T27 l0 (ji4)).f1).length c435_1) ∧ w'.cell? ⟨(ad434.add (((ji4)).toNat * 3)).block, (ad434.add (((ji4)).toNat * 3)).off + 2, none⟩ = some (.slice A435_2 ((rd_T27 l0 (ji4)).f2).length c435_2)) (ds := []) (bm 11 0) (by kernel_rfl) rfl (bm0 _) ⟨(hL HB hw434_0), (hL HB hw434_1), (hL HB hw434_2), (hL HB hw435_0), (hL HB hw435_1), (hL HB hw435_2)⟩ (fun hHeld => ?_); refine with_tabW impl_ChainFollows.tab4 impl_ChainFollows.bits4 (fun HT_ HW_ => ?_)
     generalize wr.drew = w11 at HB HR434_1 HR434_2 HR435_1 HR435_2 hx434_0 hx434_1 hx434_2 hx435_0 hx435_1 hx435_2 hHeld ⊢
     refine pU 0 (some 10) (bm 11 1) HT_ rfl rfl ?_
     refine pU 1 (some 11) (bm 11 3) HT_ rfl rfl ?_
     refine pU 2 (some 12) (bm 11 7) HT_ rfl rfl ?_
     refine pU 4 (some 14) (bm 11 23) HT_ rfl rfl ?_
     refine pU 5 (some 15) (bm 11 55) HT_ rfl rfl ?_
     refine pU 6 (some 16) (bm 11 119) HT_ rfl rfl ?_
     refine pU 7 (some 17) (bm 11 247) HT_ rfl rfl ?_
     refine tU 3 (some 13) (bm 11 255) HT_ HW_ rfl rfl hHeld ?_
     refine tU 8 (some 18) (bm 11 511) HT_ HW_ rfl rfl hHeld ?_
     refine one_ (i := 9) (N := some 19) (bm 11 1023) rfl rfl (one_of HT_.out (by kernel_rfl)) (by decide) (fun K hK => ?_)
     refine goes_ Try.func18 (by kernel_rfl) rfl #[.agg #[.int .i64 ((rd_T27 l0 x3_1).f0), .slice A434_1 ((rd_T27 l0 x3_1).f1).length c434_1, .slice A434_2 ((rd_T27 l0 x3_1).f2).length c434_2], .agg #[.int .i64 ((rd_T27 l0 (ji4)).f0), .slice A435_1 ((rd_T27 l0 (ji4)).f1).length c435_1, .slice A435_2 ((rd_T27 l0 (ji4)).f2).length c435_2]] (by rfl) rfl rfl (by (try simp only [List.map_toArray, List.map_cons, List.map_nil]); first | done | (simp only [hji4]; rfl) | rfl | (simp only [List.length_drop, List.length_take]; rfl)) ?_
     with_reducible refine (impl_Follows.calls k1 ((rd_T27 l0 x3_1).f0) _ _ ((rd_T27 l0 x3_1).f1) _ _ ((rd_T27 l0 x3_1).f2) ((rd_T27 l0 (ji4)).f0) _ _ ((rd_T27 l0 (ji4)).f1) _ _ ((rd_T27 l0 (ji4)).f2) false _ ?side1 ?side2 ?side3 ?side4 ?side5 ?side6 ?side7 ?side8 A7.out).mono ?_
     (case side1 => exact cS HR434_1 HB)
     (case side2 => exact HC434_1.out)
     (case side3 => exact cS HR434_2 HB)
     (case side4 => exact HC434_2.out)
     (case side5 => exact cS HR435_1 HB)
     (case side6 => exact HC435_1.out)
     (case side7 => exact cS HR435_2 HB)
     (case side8 => exact HC435_2.out)
     rintro e w12 ⟨rfl, hb⟩
     refine ⟨_, rfl, ?_⟩
     replace HB := bS HB hb
     (try clear hb); (try clear hb2); (try clear hk); (try clear hi)
     refine hK.out _ _ ⟨(hL HB hw434_0), (hL HB hw434_1), (hL HB hw434_2), (hL HB hw435_0), (hL HB hw435_1), (hL HB hw435_2)⟩ (fun hHeld => ?_)
     clear hK K
     refine nU 19 ?_
     refine pU 10 (some 20) (bm 11 2047) HT_ rfl rfl ?_
     refine done_ (done_of HT_.out (by kernel_rfl)) ?_
     try clear hHeld
     try go_wp2
     go_ret
     exact ⟨by first | rfl | (simp [errW_none, errW_some] <;> rfl) | (simp only [← hji4]; first | rfl | (simp [errW_none, errW_some] <;> rfl)) | (simp [*, errW_none, errW_some] <;> rfl), zB HB⟩
   ·rw [if_neg c2] at H
    have c2b0 : decide (x3_1 < (l0.length : Int)) = false := decide_eq_false c2
    clear c2
    by_cases c13 : (l0.length : Int) > 0
    ·rw [if_pos c13] at H
     have c13b0 : decide (0 < (l0.length : Int)) = true := decide_eq_true c13
     have c13b1 : decide (0 < l0.length) = true := decide_eq_true (by omega)
     clear c13
     obtain ⟨c14, H⟩ := ifS H
     have c14b0 : decide (0 < (l0.length : Int)) = true := decide_eq_true c14
     have c14b1 : decide (0 < l0.length) = true := decide_eq_true (by omega)
     clear c14
     obtain ⟨t438, A15, H⟩ := bindS H
     obtain rfl := Option.some.inj H
     have p437 : 0 ≤ (0 : Int) := (by omega)
     have q437 : 0 < (l0.length : Int) := zD
     obtain ⟨ad437, A437_1, c437_1, A437_2, c437_2, e437, hx437_0, hx437_1, hx437_2, hl437_1, hi437_1, hl437_2, hi437_2⟩ := at_T27 HR0.out 0 p437 q437
     cases e437
     have qi437 : (0 < l0.length) = True := eq_true (by omega)
     (try rw [show ((0 : Int)).toNat = 0 from rfl] at hx437_0)
     (try rw [show 0 * 3 = 0 from rfl] at hx437_0)
     (try rw [Addr.add_zero'] at hx437_0)
     (try rw [show ((0 : Int)).toNat = 0 from rfl] at hx437_1)
     (try rw [show 0 * 3 = 0 from rfl] at hx437_1)
     (try rw [Addr.add_zero'] at hx437_1)
     (try rw [show ((0 : Int)).toNat = 0 from rfl] at hx437_2)
     (try rw [show 0 * 3 = 0 from rfl] at hx437_2)
     (try rw [Addr.add_zero'] at hx437_2)
     replace hx437_0 := hL HB hx437_0
     replace hx437_1 := hL HB hx437_1
     replace hx437_2 := hL HB hx437_2
     have HR437_1 := Aside0.mk hi437_1
     have HC437_1 := Aside0.mk hl437_1
     clear hi437_1 hl437_1
     have HR437_2 := Aside0.mk hi437_2
     have HC437_2 := Aside0.mk hl437_2
     clear hi437_2 hl437_2
     replace p437 := eq_true p437
     replace q437 := eq_true q437
     go_wp2_with (first | (go_at_call 10; (with_reducible refine (impl_IsMachine.calls k1 ((rd_T27 l0 0).f0) _ _ ((rd_T27 l0 0).f1) _ _ ((rd_T27 l0 0).f2) t438 _ ?side1 ?side2 ?side3 ?side4 A15.out).mono ?_); (case side1 => exact cS HR437_1 HB); (case side2 => exact HC437_1.out); (case side3 => exact cS HR437_2 HB); (case side4 => exact HC437_2.out); rintro e w16 ⟨rfl, hb⟩; replace HB := bS HB hb; (try clear hb)))
     go_ret
     exact ⟨zE, zB HB⟩
    ·rw [if_neg c13] at H
     have c13b0 : decide (0 < (l0.length : Int)) = false := decide_eq_false c13
     have c13b1 : decide (0 < l0.length) = false := decide_eq_false (by omega)
     clear c13
     obtain rfl := Option.some.inj H
     go_wp2
     go_ret
     exact ⟨zE, zB HB⟩

/-! ### spec_l1In: function 23 -/
def spec_l1In.f (a0 : Int) (a1 : Int) (a2 : Int) : Option (Bool) := if a0 ≥ a1 then (some (decide (a0 ≤ a2))) else (some false)
set_option maxHeartbeats 8000000 in
set_option maxRecDepth 100000 in
theorem spec_l1In.calls (a0 : Int) (a1 : Int) (a2 : Int) (r : Bool) (w : World) (h : spec_l1In.f a0 a1 a2 = some r) :
  Calls Try.prog 23 #[.int .i64 a0, .int .i64 a1, .int .i64 a2] w fun e w' => e = .returned (.bool r) ∧ Drawn0 w w' := by
 have H : (if a0 ≥ a1 then (some (decide (a0 ≤ a2))) else (some false)) = some r := h
 clear h
 by_cases c4 : a0 ≥ a1
 ·rw [if_pos c4] at H
  have c4b0 : decide (a1 ≤ a0) = true := decide_eq_true c4
  clear c4
  obtain rfl := Option.some.inj H
  go_enter Try.func23, Try.ntmps23
  go_wp2
  go_ret
  exact ⟨by first | rfl | (simp; done) | (simp [*]; done), by repeat (first | exact Drawn0.refl _ | apply Drawn0.step)⟩
 ·rw [if_neg c4] at H
  have c4b0 : decide (a1 ≤ a0) = false := decide_eq_false c4
  clear c4
  obtain rfl := Option.some.inj H
  go_enter Try.func23, Try.ntmps23
  go_wp2
  go_ret
  exact ⟨by first | rfl | (simp; done) | (simp [*]; done), by repeat (first | exact Drawn0.refl _ | apply Drawn0.step)⟩

end Go.Proofs.Ytfibjclnaeocbaa.PFnChain
