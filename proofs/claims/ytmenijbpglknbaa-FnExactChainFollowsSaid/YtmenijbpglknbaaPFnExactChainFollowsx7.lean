-- WRITTEN by pp.py, this session's own wrapper around the print; not trusted: Lean checks it
import Derived.Test.YtmenijbpglknbaaPFnExactChainFollowsx0
import Derived.Test.YtmenijbpglknbaaPFnExactChainFollowsx3
import Derived.Test.YtmenijbpglknbaaPFnExactChainFollowsx5
import Derived.Test.YtmenijbpglknbaaPFnExactChainFollowsx6
namespace Go.Proofs.Ytmenijbpglknbaa.PFnExactChainFollows
open Go.RowKit Go.Proofs.Ytmenijbpglknbaa.Hw Go.Proofs.YtmenijbpglknbaaW.PrintWords Go.Proofs.YtmenijbpglknbaaW.PrintLast Go.Proofs.YtmenijbpglknbaaW.PrintMore
attribute [local go_sem] max2_int min2_int max_two min_two max_three min_three max_four min_four   -- for this text's walks alone
set_option linter.unusedVariables false
set_option linter.unusedSimpArgs false
set_option linter.unusedSectionVars false

/-! ### spec_Follows: function 27 -/
mutual
def spec_Follows.j0 : Nat → Bool → Int → List Bool → List (S64) → Int → List Bool → List (S64) → Option (Bool)
 | 0, _, _, _, _, _, _, _ => none
 | k + 1, x14, x237000, x237001, x237002, x238000, x238001, x238002 => if x14 = true then (some false) else ((spec_FollowPairs.f k x237000 x237001 x237002 x238000 x238001 x238002).bind fun t240 => (spec_Follows.l0 k t240 0 x237000 x237001 x237002 x238000 x238001 x238002))
def spec_Follows.l0 : Nat → List (List Int) → Int → Int → List Bool → List (S64) → Int → List Bool → List (S64) → Option (Bool)
 | 0, _, _, _, _, _, _, _, _ => none
 | k + 1, x5, x6, x237000, x237001, x237002, x238000, x238001, x238002 => if x6 < (x5.length : Int) then (if 0 ≤ x6 then (if 0 < ((rd_L7 x5 x6).length : Int) then (if 1 < ((rd_L7 x5 x6).length : Int) then ((spec_FollowsAt.f k x237000 x237001 x237002 x238000 x238001 x238002 (rd (rd_L7 x5 x6) 0) (rd (rd_L7 x5 x6) 1)).bind fun t247 => (if t247 = true then (spec_Follows.l0 k x5 (wrap64 (x6 + 1)) x237000 x237001 x237002 x238000 x238001 x238002) else (some false))) else (none)) else (none)) else (none)) else (some true)
end
def spec_Follows.f (k : Nat) (a0_0 : Int) (l0_1 : List Bool) (l0_2 : List (S64)) (a1_0 : Int) (l1_1 : List Bool) (l1_2 : List (S64)) : Option (Bool) := (spec_IsMachine.f k a0_0 l0_1 l0_2).bind fun t238 => (if t238 = true then ((spec_IsMachine.f k a1_0 l1_1 l1_2).bind fun t239 => (spec_Follows.j0 k (!t239) a0_0 l0_1 l0_2 a1_0 l1_1 l1_2)) else (spec_Follows.j0 k true a0_0 l0_1 l0_2 a1_0 l1_1 l1_2))
theorem spec_Follows.mono_l : ∀ k, (∀ y0 y1 y2 y3 y4 y5 y6, LeO (spec_Follows.j0 k y0 y1 y2 y3 y4 y5 y6) (spec_Follows.j0 (k + 1) y0 y1 y2 y3 y4 y5 y6)) ∧ (∀ y0 y1 y2 y3 y4 y5 y6 y7, LeO (spec_Follows.l0 k y0 y1 y2 y3 y4 y5 y6 y7) (spec_Follows.l0 (k + 1) y0 y1 y2 y3 y4 y5 y6 y7))
 | 0 => ⟨fun _ _ _ _ _ _ _ r h => by simp [spec_Follows.j0] at h, fun _ _ _ _ _ _ _ _ r h => by simp [spec_Follows.l0] at h⟩
 | k + 1 => by
  obtain ⟨ih0, ih1⟩ := spec_Follows.mono_l k
  refine ⟨?_, ?_⟩
  ·intro y0 y1 y2 y3 y4 y5 y6
   unfold spec_Follows.j0
   repeat' first
   | (with_reducible exact ih0 _ _ _ _ _ _ _)
   | (with_reducible exact ih1 _ _ _ _ _ _ _ _)
   | (with_reducible exact spec_FollowPairs.mono _ _ _ _ _ _ _)
   | (with_reducible exact spec_FollowsAt.mono _ _ _ _ _ _ _ _ _)
   | (with_reducible exact spec_IsMachine.mono _ _ _ _)
   | (with_reducible exact LeO.refl _)
   | (with_reducible exact LeO.none _)
   | (with_reducible refine LeO.ite ?_ ?_)
   | (with_reducible refine LeO.bind ?_ (fun _ => ?_))
   | exact ih0 _ _ _ _ _ _ _
   | exact ih1 _ _ _ _ _ _ _ _
   | exact spec_FollowPairs.mono _ _ _ _ _ _ _
   | exact spec_FollowsAt.mono _ _ _ _ _ _ _ _ _
   | exact spec_IsMachine.mono _ _ _ _
   | exact LeO.none _
   | refine LeO.ite ?_ ?_
   | refine LeO.bind ?_ (fun _ => ?_)
  ·intro y0 y1 y2 y3 y4 y5 y6 y7
   unfold spec_Follows.l0
   repeat' first
   | (with_reducible exact ih0 _ _ _ _ _ _ _)
   | (with_reducible exact ih1 _ _ _ _ _ _ _ _)
   | (with_reducible exact spec_FollowPairs.mono _ _ _ _ _ _ _)
   | (with_reducible exact spec_FollowsAt.mono _ _ _ _ _ _ _ _ _)
   | (with_reducible exact spec_IsMachine.mono _ _ _ _)
   | (with_reducible exact LeO.refl _)
   | (with_reducible exact LeO.none _)
   | (with_reducible refine LeO.ite ?_ ?_)
   | (with_reducible refine LeO.bind ?_ (fun _ => ?_))
   | exact ih0 _ _ _ _ _ _ _
   | exact ih1 _ _ _ _ _ _ _ _
   | exact spec_FollowPairs.mono _ _ _ _ _ _ _
   | exact spec_FollowsAt.mono _ _ _ _ _ _ _ _ _
   | exact spec_IsMachine.mono _ _ _ _
   | exact LeO.none _
   | refine LeO.ite ?_ ?_
   | refine LeO.bind ?_ (fun _ => ?_)
theorem spec_Follows.mono : ∀ a0 a1 a2 a3 a4 a5 k, LeO (spec_Follows.f k a0 a1 a2 a3 a4 a5) (spec_Follows.f (k + 1) a0 a1 a2 a3 a4 a5) := by
 intro a0 a1 a2 a3 a4 a5 k
 obtain ⟨ih0, ih1⟩ := spec_Follows.mono_l k
 unfold spec_Follows.f
 repeat' first
   | (with_reducible exact ih0 _ _ _ _ _ _ _)
   | (with_reducible exact ih1 _ _ _ _ _ _ _ _)
   | (with_reducible exact spec_FollowPairs.mono _ _ _ _ _ _ _)
   | (with_reducible exact spec_FollowsAt.mono _ _ _ _ _ _ _ _ _)
   | (with_reducible exact spec_IsMachine.mono _ _ _ _)
   | (with_reducible exact LeO.refl _)
   | (with_reducible exact LeO.none _)
   | (with_reducible refine LeO.ite ?_ ?_)
   | (with_reducible refine LeO.bind ?_ (fun _ => ?_))
   | exact ih0 _ _ _ _ _ _ _
   | exact ih1 _ _ _ _ _ _ _ _
   | exact spec_FollowPairs.mono _ _ _ _ _ _ _
   | exact spec_FollowsAt.mono _ _ _ _ _ _ _ _ _
   | exact spec_IsMachine.mono _ _ _ _
   | exact LeO.none _
   | refine LeO.ite ?_ ?_
   | refine LeO.bind ?_ (fun _ => ?_)
def spec_Follows.T7 : Bool × List (List Nat × List Nat) := (true, [([], []), ([], []), ([], []), ([], []), ([2, 3], [2, 3]), ([4], [4]), ([5], [5]), ([6], [6]), ([], []), ([], []), ([8, 9], [8, 9]), ([10], [10]), ([11], [11]), ([12], [12]), ([0, 1, 7, 13], [0, 1, 7, 13]), ([14], [14])])
def spec_Follows.B7 : List Nat := [0, 0, 0, 0, 12, 28, 60, 124, 0, 0, 768, 1792, 3840, 7936, 16383, 32767]
theorem spec_Follows.tab7 : rtab .any (opsOf Try.f27 7) = spec_Follows.T7 := by kernel_rfl
theorem spec_Follows.bits7 : waitsOk spec_Follows.T7.2 spec_Follows.B7 = true := by kernel_rfl
set_option maxHeartbeats 8000000 in
set_option maxRecDepth 100000 in
theorem spec_Follows.calls (k : Nat) (a0_0 : Int) (A0_1 : Option Addr) (c0_1 : Nat) (l0_1 : List Bool) (A0_2 : Option Addr) (c0_2 : Nat) (l0_2 : List (S64)) (a1_0 : Int) (A1_1 : Option Addr) (c1_1 : Nat) (l1_1 : List Bool) (A1_2 : Option Addr) (c1_2 : Nat) (l1_2 : List (S64)) (r : Bool) (w : World) (hr0_1 : Kd.C Kd.bool w A0_1 l0_1.length l0_1) (hc0_1 : l0_1.length ≤ c0_1) (hr0_2 : Kd.C k64 w A0_2 l0_2.length l0_2) (hc0_2 : l0_2.length ≤ c0_2) (hr1_1 : Kd.C Kd.bool w A1_1 l1_1.length l1_1) (hc1_1 : l1_1.length ≤ c1_1) (hr1_2 : Kd.C k64 w A1_2 l1_2.length l1_2) (hc1_2 : l1_2.length ≤ c1_2) (h : spec_Follows.f k a0_0 l0_1 l0_2 a1_0 l1_1 l1_2 = some r) :
  Calls Try.prog 27 #[.agg #[.int .i64 a0_0, .slice A0_1 l0_1.length c0_1, .slice A0_2 l0_2.length c0_2], .agg #[.int .i64 a1_0, .slice A1_1 l1_1.length c1_1, .slice A1_2 l1_2.length c1_2]] w fun e w' => e = .returned (.bool r) ∧ Below w.heap.size w w' := by
 have hu31 := Try.underlying31
 have HR0_1 := Aside0.mk hr0_1
 have HC0_1 := Aside0.mk hc0_1
 clear hr0_1 hc0_1
 have HR0_2 := Aside0.mk hr0_2
 have HC0_2 := Aside0.mk hc0_2
 clear hr0_2 hc0_2
 have HR1_1 := Aside0.mk hr1_1
 have HC1_1 := Aside0.mk hc1_1
 clear hr1_1 hc1_1
 have HR1_2 := Aside0.mk hr1_2
 have HC1_2 := Aside0.mk hc1_2
 clear hr1_2 hc1_2
 have HB := Aside0.mk (Below.refl w.heap.size w)
 have H : ((spec_IsMachine.f k a0_0 l0_1 l0_2).bind fun t238 => (if t238 = true then ((spec_IsMachine.f k a1_0 l1_1 l1_2).bind fun t239 => (spec_Follows.j0 k (!t239) a0_0 l0_1 l0_2 a1_0 l1_1 l1_2)) else (spec_Follows.j0 k true a0_0 l0_1 l0_2 a1_0 l1_1 l1_2))) = some r := h
 clear h
 have HC3 := Aside0.mk H
 clear H
 go_enter Try.func27, Try.ntmps27
 go_upto_region 1 with (first | ((with_reducible refine gate_dst (N := 2) rfl ?_); refine box_event ?hg (N := 2) ?hd (cs := #[.int .i64 a0_0, .slice A0_1 l0_1.length c0_1, .slice A0_2 l0_2.length c0_2]) (t := 31) ?hr ?_; (case hd => rfl); (case hg => rfl); (case hr => first | (go_simp; done) | (go_simp; rfl)); intro gb236 hg w4 hbox hb; have BK236 := Aside0.mk (hbox); have GW236 := gS HB hg; have GE236 := gS HB hg; replace HB := bS HB hb; clear hb hbox hg) | ((with_reducible refine gate_dst (N := 3) rfl ?_); refine box_event ?hg (N := 3) ?hd (cs := #[.int .i64 a1_0, .slice A1_1 l1_1.length c1_1, .slice A1_2 l1_2.length c1_2]) (t := 31) ?hr ?_; (case hd => rfl); (case hg => rfl); (case hr => first | (go_simp; done) | (go_simp; rfl)); intro gb237 hg w5 hbox hb; have BK237 := Aside0.mk (hbox); have GW237 := gS HB hg; have GE237 := gS HB hg; replace HB := bS HB hb; have NB236_237 := nL BK236 hg; have NB237_236 := nR BK236 hg; replace BK236 := kB BK236 hb; clear hb hbox hg))
 (try simp only [Act.put, List.setIfInBounds_toArray, List.set_cons_zero, List.set_cons_succ])
 go_cut [14] (fun v14 wc => ∃ (kq : Nat) (x14_2 : Bool), v14 = .bool x14_2 ∧ Aside0 (spec_Follows.j0 kq x14_2 a0_0 l0_1 l0_2 a1_0 l1_1 l1_2 = some r) ∧ Aside0 (kq ≤ k) ∧ Aside0 (wc.heap[gb236]? = some (.cells #[.int .i64 a0_0, (.slice A0_1 l0_1.length c0_1), (.slice A0_2 l0_2.length c0_2)] 31 (0, 0))) ∧ Aside0 (wc.heap[gb237]? = some (.cells #[.int .i64 a1_0, (.slice A1_1 l1_1.length c1_1), (.slice A1_2 l1_2.length c1_2)] 31 (0, 0))) ∧ Aside0 (Below w.heap.size w wc))
 case first =>
  have H := HC3.out
  clear HC3
  obtain ⟨t238, A6, H⟩ := bindS H
  by_cases c7 : t238 = true
  ·subst c7
   have H1 : ((spec_IsMachine.f k a1_0 l1_1 l1_2).bind fun t239 => (spec_Follows.j0 k (!t239) a0_0 l0_1 l0_2 a1_0 l1_1 l1_2)) = some r := by rw [if_pos rfl] at H; exact H
   clear H
   have H := H1
   clear H1
   obtain ⟨t239, A8, H⟩ := bindS H
   have H' := Aside0.mk H
   clear H
   have hnb9 := NB236_237.out
   have hnc9 := NB237_236.out
   have hcz10_0 := bc0 BK236
   have hcz10_1 := bc1 BK236
   have hcz10_2 := bc2 BK236
   have hfz10_0 := bf BK236 0
   have hfz10_1 := bf BK236 1
   have hfz10_2 := bf BK236 2
   go_wp2_with (first | ((with_reducible refine gate_callee (f := 36) rfl ?_); refine goesL_ (some 8) rfl rfl Try.func36 (by kernel_rfl) rfl #[.agg #[.int .i64 a0_0, .slice A0_1 l0_1.length c0_1, .slice A0_2 l0_2.length c0_2]] rfl zG ?_; (with_reducible refine (spec_IsMachine.calls k a0_0 _ _ l0_1 _ _ l0_2 true _ ?side1 ?side2 ?side3 ?side4 A6.out).mono ?_); (case side1 => exact cS HR0_1 HB); (case side2 => exact HC0_1.out); (case side3 => exact cS HR0_2 HB); (case side4 => exact HC0_2.out); rintro e w11 ⟨rfl, hb⟩; refine ⟨_, rfl, ?_⟩; replace BK236 := kB BK236 hb; replace BK237 := kB BK237 hb; replace HB := bS HB hb; (try clear hb); have hcz12_0 := bc0 BK237; have hcz12_1 := bc1 BK237; have hcz12_2 := bc2 BK237; have hfz12_0 := bf BK237 0; have hfz12_1 := bf BK237 1; have hfz12_2 := bf BK237 2) | (go_at_call 36; (with_reducible refine (spec_IsMachine.calls k a1_0 _ _ l1_1 _ _ l1_2 t239 _ ?side1 ?side2 ?side3 ?side4 A8.out).mono ?_); (case side1 => exact cS HR1_1 HB); (case side2 => exact HC1_1.out); (case side3 => exact cS HR1_2 HB); (case side4 => exact HC1_2.out); rintro e w13 ⟨rfl, hb⟩; replace BK236 := kB BK236 hb; replace BK237 := kB BK237 hb; replace HB := bS HB hb; (try clear hb)))
   go_meet
   case rel => exact ⟨_, (!t239), zF, H', ⟨by first | omega | exact Nat.le_refl _⟩, ⟨zK BK236⟩, ⟨zK BK237⟩, ⟨zB HB⟩⟩
  ·replace c7 := Bool.eq_false_iff.mpr c7
   subst c7
   have H1 : (spec_Follows.j0 k true a0_0 l0_1 l0_2 a1_0 l1_1 l1_2) = some r := by rw [if_neg (show ¬ (false = true) by decide)] at H; exact H
   clear H
   have H := H1
   clear H1
   have H' := Aside0.mk H
   clear H
   have hnb14 := NB236_237.out
   have hnc14 := NB237_236.out
   have hcz15_0 := bc0 BK236
   have hcz15_1 := bc1 BK236
   have hcz15_2 := bc2 BK236
   have hfz15_0 := bf BK236 0
   have hfz15_1 := bf BK236 1
   have hfz15_2 := bf BK236 2
   go_wp2_with (first | ((with_reducible refine gate_callee (f := 36) rfl ?_); refine goesL_ (some 8) rfl rfl Try.func36 (by kernel_rfl) rfl #[.agg #[.int .i64 a0_0, .slice A0_1 l0_1.length c0_1, .slice A0_2 l0_2.length c0_2]] rfl zG ?_; (with_reducible refine (spec_IsMachine.calls k a0_0 _ _ l0_1 _ _ l0_2 false _ ?side1 ?side2 ?side3 ?side4 A6.out).mono ?_); (case side1 => exact cS HR0_1 HB); (case side2 => exact HC0_1.out); (case side3 => exact cS HR0_2 HB); (case side4 => exact HC0_2.out); rintro e w16 ⟨rfl, hb⟩; refine ⟨_, rfl, ?_⟩; replace BK236 := kB BK236 hb; replace BK237 := kB BK237 hb; replace HB := bS HB hb; (try clear hb)))
   go_meet
   case rel => exact ⟨_, (true), zF, H', ⟨by first | omega | exact Nat.le_refl _⟩, ⟨zK BK236⟩, ⟨zK BK237⟩, ⟨zB HB⟩⟩
 case rest =>
  clear HC3
  try clear c1
  try clear c2
  try clear p2
  try clear c3
  try clear c7
  try clear c9
  try clear c14
  try clear hcz10_0
  try clear hcz10_1
  try clear hcz10_2
  try clear hcz12_0
  try clear hcz12_1
  try clear hcz12_2
  try clear hcz15_0
  try clear hcz15_1
  try clear hcz15_2
  try clear hfz10_0
  try clear hfz10_1
  try clear hfz10_2
  try clear hfz12_0
  try clear hfz12_1
  try clear hfz12_2
  try clear hfz15_0
  try clear hfz15_1
  try clear hfz15_2
  obtain ⟨kq, x14_2, rfl, HA, HJ2, BK236, BK237, HB⟩ := hcut
  cases kq with
  | zero => exact absurd HA.out (by simp [spec_Follows.j0])
  | succ kj2 =>
   have H := HA.out
   clear HA
   simp only [spec_Follows.j0] at H
   by_cases c17 : x14_2 = true
   ·subst c17
    have H1 : (some false) = some r := by rw [if_pos rfl] at H; exact H
    clear H
    have H := H1
    clear H1
    obtain rfl := Option.some.inj H
    go_wp2
    go_ret
    exact ⟨zE, zB HB⟩
   ·replace c17 := Bool.eq_false_iff.mpr c17
    subst c17
    have H1 : ((spec_FollowPairs.f kj2 a0_0 l0_1 l0_2 a1_0 l1_1 l1_2).bind fun t240 => (spec_Follows.l0 kj2 t240 0 a0_0 l0_1 l0_2 a1_0 l1_1 l1_2)) = some r := by rw [if_neg (show ¬ (false = true) by decide)] at H; exact H
    clear H
    have H := H1
    clear H1
    obtain ⟨t240, A18, H⟩ := bindS H
    have H' := Aside0.mk H
    clear H
    have hnb19 := NB236_237.out
    have hnc19 := NB237_236.out
    have hcz20_0 := bc0 BK236
    have hcz20_1 := bc1 BK236
    have hcz20_2 := bc2 BK236
    have hfz20_0 := bf BK236 0
    have hfz20_1 := bf BK236 1
    have hfz20_2 := bf BK236 2
    have hcz21_0 := bc0 BK237
    have hcz21_1 := bc1 BK237
    have hcz21_2 := bc2 BK237
    have hfz21_0 := bf BK237 0
    have hfz21_1 := bf BK237 1
    have hfz21_2 := bf BK237 2
    go_wp2_with (first | ((with_reducible refine gate_callee (f := 18) rfl ?_); refine goesL_ (some 17) rfl rfl Try.func18 (by kernel_rfl) rfl #[.agg #[.int .i64 a0_0, .slice A0_1 l0_1.length c0_1, .slice A0_2 l0_2.length c0_2], .agg #[.int .i64 a1_0, .slice A1_1 l1_1.length c1_1, .slice A1_2 l1_2.length c1_2]] rfl zG ?_; (with_reducible refine (spec_FollowPairs.calls kj2 a0_0 _ _ l0_1 _ _ l0_2 a1_0 _ _ l1_1 _ _ l1_2 t240 _ ?side1 ?side2 ?side3 ?side4 ?side5 ?side6 ?side7 ?side8 A18.out).mono ?_); (case side1 => exact cS HR0_1 HB); (case side2 => exact HC0_1.out); (case side3 => exact cS HR0_2 HB); (case side4 => exact HC0_2.out); (case side5 => exact cS HR1_1 HB); (case side6 => exact HC1_1.out); (case side7 => exact cS HR1_2 HB); (case side8 => exact HC1_2.out); rintro e w22 ⟨v241, rfl, ho0, hb⟩; refine ⟨_, rfl, ?_⟩; have HO242 := Aside0.mk (Kd.S_lower ho0 (below_size (zB HB))); replace BK236 := kB BK236 hb; replace BK237 := kB BK237 hb; replace HB := bS HB hb; (try clear hb); (try clear ho0)))
    go_loopg [6] kj2 (fun kq v6 w' => ∃ (x6_2 : Int), v6 = .int .i64 x6_2 ∧ Aside0 (spec_Follows.l0 kq t240 x6_2 a0_0 l0_1 l0_2 a1_0 l1_1 l1_2 = some r) ∧ Aside0 (kq ≤ kj2) ∧ Aside0 (Kd.S (Kd.slice 3 (Kd.int .i64)) 38 w' w.heap.size (fun _ => True) v241 t240) ∧ Aside0 (w'.heap[gb236]? = some (.cells #[.int .i64 a0_0, (.slice A0_1 l0_1.length c0_1), (.slice A0_2 l0_2.length c0_2)] 31 (0, 0))) ∧ Aside0 (w'.heap[gb237]? = some (.cells #[.int .i64 a1_0, (.slice A1_1 l1_1.length c1_1), (.slice A1_2 l1_2.length c1_2)] 31 (0, 0))) ∧ Aside0 (Below w.heap.size w w'))
    case atStart => exact ⟨(0), zF, H', ⟨Nat.le_refl _⟩, ⟨zS HO242⟩, ⟨zK BK236⟩, ⟨zK BK237⟩, ⟨zB HB⟩⟩
    case round =>
     clear H'
     try clear c1
     try clear c2
     try clear p2
     try clear c3
     try clear c7
     try clear c9
     try clear c14
     try clear c17
     try clear c18
     try clear c19
     try clear hcz10_0
     try clear hcz10_1
     try clear hcz10_2
     try clear hcz12_0
     try clear hcz12_1
     try clear hcz12_2
     try clear hcz15_0
     try clear hcz15_1
     try clear hcz15_2
     try clear hcz20_0
     try clear hcz20_1
     try clear hcz20_2
     try clear hcz21_0
     try clear hcz21_1
     try clear hcz21_2
     try clear hfz10_0
     try clear hfz10_1
     try clear hfz10_2
     try clear hfz12_0
     try clear hfz12_1
     try clear hfz12_2
     try clear hfz15_0
     try clear hfz15_1
     try clear hfz15_2
     try clear hfz20_0
     try clear hfz20_1
     try clear hfz20_2
     try clear hfz21_0
     try clear hfz21_1
     try clear hfz21_2
     try clear p2
     obtain ⟨x6_2, rfl, HA, HK2, HO_5, BK236, BK237, HB⟩ := hrel
     cases gk with
     | zero => exact absurd HA.out (by simp [spec_Follows.l0])
     | succ k2 =>
      have H := HA.out
      clear HA
      simp only [spec_Follows.l0] at H
      by_cases c23 : x6_2 < (t240.length : Int)
      ·rw [if_pos c23] at H
       have c23b0 : decide (x6_2 < (t240.length : Int)) = true := decide_eq_true c23
       clear c23
       obtain ⟨c24, H⟩ := ifS H
       have c24b0 : decide (0 ≤ x6_2) = true := decide_eq_true c24
       clear c24
       obtain ⟨c25, H⟩ := ifS H
       have c25b0 : decide (0 < ((rd_L7 t240 x6_2).length : Int)) = true := decide_eq_true c25
       have c25b1 : decide (0 < (rd_L7 t240 x6_2).length) = true := decide_eq_true (by omega)
       clear c25
       obtain ⟨c26, H⟩ := ifS H
       have c26b0 : decide (1 < ((rd_L7 t240 x6_2).length : Int)) = true := decide_eq_true c26
       have c26b1 : decide (1 < (rd_L7 t240 x6_2).length) = true := decide_eq_true (by omega)
       clear c26
       obtain ⟨t247, A27, H⟩ := bindS H
       by_cases c28 : t247 = true
       ·subst c28
        have H1 : (spec_Follows.l0 k2 t240 (wrap64 (x6_2 + 1)) a0_0 l0_1 l0_2 a1_0 l1_1 l1_2) = some r := by rw [if_pos rfl] at H; exact H
        clear H
        have H := H1
        clear H1
        have H' := Aside0.mk H
        clear H
        obtain ⟨Ao29, co29, eo29⟩ := Kd.S_slice HO_5.out
        subst eo29
        try go_wp2
        replace HO_5 := Aside0.mk (Kd.S_drew HO_5.out)
        replace BK236 := Aside0.mk (blk_drew BK236.out)
        replace BK237 := Aside0.mk (blk_drew BK237.out)
        replace HB := Aside0.mk (below_drew1 HB.out)
        have p243 : 0 ≤ (x6_2 : Int) := zD
        have q243 : x6_2 < (t240.length : Int) := zD
        obtain ⟨ad243, A243_0, c243_0, e243, hx243_0, hl243_0, hi243_0⟩ := at_L7 (Kd.S_reads' HO_5.out).2.2 x6_2 p243 q243
        cases e243
        obtain ⟨ce243, hce243, hMe243, hcc243⟩ := Kd.S_get HO_5.out [] x6_2 p243 (by first | exact q243 | exact zD | (have e_ := (Kd.S_reads' HO_5.out).1; omega))
        obtain ⟨ve243_0, rfl, ge243_0⟩ := hMe243
        have hv243_0 := hcc243 0 _ rfl
        rw [Nat.add_zero, show ((Kd.slice 3 (Kd.int .i64))).sz = 1 from rfl, Nat.mul_one] at hv243_0
        replace hv243_0 := Option.some.inj (hv243_0.symm.trans hx243_0)
        rw [hv243_0] at ge243_0
        have HL243_0 := Aside0.mk (show Kd.R (Kd.int .i64) 3 _ _ _ _ (rd_L7 t240 x6_2) from ge243_0)
        clear hv243_0 ge243_0
        clear hcc243 hce243
        have HR243_0 := Aside0.mk hi243_0
        have HC243_0 := Aside0.mk hl243_0
        clear hi243_0 hl243_0
        replace p243 := eq_true p243
        replace q243 := eq_true q243
        have p244 : 0 ≤ (0 : Int) := (by omega)
        have q244 : 0 < ((rd_L7 t240 x6_2).length : Int) := zD
        obtain ⟨ad244, e244, hx244_0⟩ := Kd.at_int (by repeat (first | (with_reducible exact HR243_0.out) | (with_reducible refine Kd.C_alloc ?_ _) | (with_reducible refine Kd.C_drewN ?_ _) | (with_reducible refine Kd.C_drew ?_) | exact HR243_0.out)) 0 p244 q244
        cases e244
        have qi244 : (0 < (rd_L7 t240 x6_2).length) = True := eq_true (by omega)
        (try rw [show ((0 : Int)).toNat = 0 from rfl] at hx244_0)
        (try rw [Addr.add_zero'] at hx244_0)
        replace p244 := eq_true p244
        replace q244 := eq_true q244
        have p245 : 0 ≤ (x6_2 : Int) := zD
        have q245 : x6_2 < (t240.length : Int) := zD
        obtain ⟨ad245, A245_0, c245_0, e245, hx245_0, hl245_0, hi245_0⟩ := at_L7 (Kd.S_reads' HO_5.out).2.2 x6_2 p245 q245
        obtain rfl : ad243 = ad245 := (by injection e245)
        obtain ⟨ce245, hce245, hMe245, hcc245⟩ := Kd.S_get HO_5.out [] x6_2 p245 (by first | exact q245 | exact zD | (have e_ := (Kd.S_reads' HO_5.out).1; omega))
        obtain ⟨ve245_0, rfl, ge245_0⟩ := hMe245
        have hv245_0 := hcc245 0 _ rfl
        rw [Nat.add_zero, show ((Kd.slice 3 (Kd.int .i64))).sz = 1 from rfl, Nat.mul_one] at hv245_0
        replace hv245_0 := Option.some.inj (hv245_0.symm.trans hx245_0)
        rw [hv245_0] at ge245_0
        have HL245_0 := Aside0.mk (show Kd.R (Kd.int .i64) 3 _ _ _ _ (rd_L7 t240 x6_2) from ge245_0)
        clear hv245_0 ge245_0
        clear hcc245 hce245
        have HR245_0 := Aside0.mk hi245_0
        have HC245_0 := Aside0.mk hl245_0
        clear hi245_0 hl245_0
        replace p245 := eq_true p245
        replace q245 := eq_true q245
        have ea_ := Option.some.inj (hx243_0.symm.trans hx245_0)
        injection ea_ with ea_ en_ ec_
        subst ea_
        subst ec_
        clear en_
        have p246 : 0 ≤ (1 : Int) := (by omega)
        have q246 : 1 < ((rd_L7 t240 x6_2).length : Int) := zD
        obtain ⟨ad246, e246, hx246_0⟩ := Kd.at_int (by repeat (first | (with_reducible exact HR245_0.out) | (with_reducible refine Kd.C_alloc ?_ _) | (with_reducible refine Kd.C_drewN ?_ _) | (with_reducible refine Kd.C_drew ?_) | exact HR245_0.out)) 1 p246 q246
        cases e246
        (try simp only [show (1 : Int).toNat = 1 from rfl, Nat.reduceMul, Nat.reduceEqDiff, Go.Addr.add, ↓reduceIte] at hx246_0)
        have qi246 : (1 < (rd_L7 t240 x6_2).length) = True := eq_true (by omega)
        (try rw [show ((1 : Int)).toNat = 1 from rfl] at hx246_0)
        replace p246 := eq_true p246
        replace q246 := eq_true q246
        refine start_ (n := 16) (S := fun w' => w'.cell? ⟨gb236, 0, none⟩ = some (.int .i64 a0_0) ∧ w'.cell? ⟨gb236, 1, none⟩ = some (.slice A0_1 l0_1.length c0_1) ∧ w'.cell? ⟨gb236, 2, none⟩ = some (.slice A0_2 l0_2.length c0_2) ∧ w'.cell? ⟨gb237, 0, none⟩ = some (.int .i64 a1_0) ∧ w'.cell? ⟨gb237, 1, none⟩ = some (.slice A1_1 l1_1.length c1_1) ∧ w'.cell? ⟨gb237, 2, none⟩ = some (.slice A1_2 l1_2.length c1_2) ∧ w'.cell? (ad243.add (x6_2).toNat) = some (.slice (some ad244) (rd_L7 t240 x6_2).length c243_0) ∧ w'.cell? ad244 = some (.int .i64 (rd (rd_L7 t240 x6_2) 0)) ∧ w'.cell? (ad243.add (x6_2).toNat) = some (.slice (some ad244) (rd_L7 t240 x6_2).length c243_0) ∧ w'.cell? ⟨ad244.block, ad244.off + 1, none⟩ = some (.int .i64 (rd (rd_L7 t240 x6_2) 1))) (ds := []) (bm 16 0) (by kernel_rfl) rfl (bm0 _) ⟨bc0 BK236, bc1 BK236, bc2 BK236, bc0 BK237, bc1 BK237, bc2 BK237, hx243_0, hx244_0, hx245_0, hx246_0⟩ (fun hHeld => ?_); refine with_tabW spec_Follows.tab7 spec_Follows.bits7 (fun HT_ HW_ => ?_)
        generalize wr.drew = w30 at HO_5 BK236 BK237 HB HL243_0 HL245_0 HR243_0 HR245_0 hx243_0 hx244_0 hx245_0 hx246_0 hHeld ⊢
        refine pU 2 (some 26) (bm 16 4) HT_ rfl rfl ?_
        refine pU 3 (some 27) (bm 16 12) HT_ rfl rfl ?_
        refine pU 4 (some 28) (bm 16 28) HT_ rfl rfl ?_
        refine pU 8 (some 32) (bm 16 284) HT_ rfl rfl ?_
        refine pU 9 (some 33) (bm 16 796) HT_ rfl rfl ?_
        refine pU 10 (some 34) (bm 16 1820) HT_ rfl rfl ?_
        refine tU 0 (some 24) (bm 16 1821) HT_ HW_ rfl rfl hHeld ?_
        refine tU 1 (some 25) (bm 16 1823) HT_ HW_ rfl rfl hHeld ?_
        refine tU 5 (some 29) (bm 16 1855) HT_ HW_ rfl rfl hHeld ?_
        refine pU 6 (some 30) (bm 16 1919) HT_ rfl rfl ?_
        refine tU 7 (some 31) (bm 16 2047) HT_ HW_ rfl rfl hHeld ?_
        refine tU 11 (some 35) (bm 16 4095) HT_ HW_ rfl rfl hHeld ?_
        refine pU 12 (some 36) (bm 16 8191) HT_ rfl rfl ?_
        refine tU 13 (some 37) (bm 16 16383) HT_ HW_ rfl rfl hHeld ?_
        refine one_ (i := 14) (N := some 38) (bm 16 32767) rfl rfl (one_of HT_.out (by kernel_rfl)) (by decide) (fun K hK => ?_)
        refine goes_ Try.func55 (by kernel_rfl) rfl #[.agg #[.int .i64 a0_0, .slice A0_1 l0_1.length c0_1, .slice A0_2 l0_2.length c0_2], .agg #[.int .i64 a1_0, .slice A1_1 l1_1.length c1_1, .slice A1_2 l1_2.length c1_2], .int .i64 (rd (rd_L7 t240 x6_2) 0), .int .i64 (rd (rd_L7 t240 x6_2) 1)] (by rfl) rfl rfl zG ?_
        with_reducible refine (spec_FollowsAt.calls k2 a0_0 _ _ l0_1 _ _ l0_2 a1_0 _ _ l1_1 _ _ l1_2 (rd (rd_L7 t240 x6_2) 0) (rd (rd_L7 t240 x6_2) 1) true _ ?side1 ?side2 ?side3 ?side4 ?side5 ?side6 ?side7 ?side8 A27.out).mono ?_
        (case side1 => exact cS HR0_1 HB)
        (case side2 => exact HC0_1.out)
        (case side3 => exact cS HR0_2 HB)
        (case side4 => exact HC0_2.out)
        (case side5 => exact cS HR1_1 HB)
        (case side6 => exact HC1_1.out)
        (case side7 => exact cS HR1_2 HB)
        (case side8 => exact HC1_2.out)
        rintro e w31 ⟨rfl, hb⟩
        have HS6_ := (hb.cell (World.block_lt_of_cell? _ _ (hHeld.2.2.2.2.2.2.1))).trans (hHeld.2.2.2.2.2.2.1)
        have HS7_ := (hb.cell (World.block_lt_of_cell? _ _ (hHeld.2.2.2.2.2.2.2.1))).trans (hHeld.2.2.2.2.2.2.2.1)
        have HS8_ := (hb.cell (World.block_lt_of_cell? _ _ (hHeld.2.2.2.2.2.2.2.2.1))).trans (hHeld.2.2.2.2.2.2.2.2.1)
        have HS9_ := (hb.cell (World.block_lt_of_cell? _ _ (hHeld.2.2.2.2.2.2.2.2.2))).trans (hHeld.2.2.2.2.2.2.2.2.2)
        refine ⟨_, rfl, ?_⟩
        replace HO_5 := Aside0.mk (Kd.S_below (zS HO_5) hb)
        replace HL243_0 := Aside0.mk (Kd.R_below (zR HL243_0) hb)
        replace HL245_0 := Aside0.mk (Kd.R_below (zR HL245_0) hb)
        replace BK236 := kB BK236 hb
        replace BK237 := kB BK237 hb
        replace HR243_0 := Aside0.mk (Kd.C_below (by repeat (first | (with_reducible exact HR243_0.out) | (with_reducible refine Kd.C_alloc ?_ _) | (with_reducible refine Kd.C_drewN ?_ _) | (with_reducible refine Kd.C_drew ?_) | exact HR243_0.out)) hb)
        replace HR245_0 := Aside0.mk (Kd.C_below (by repeat (first | (with_reducible exact HR245_0.out) | (with_reducible refine Kd.C_alloc ?_ _) | (with_reducible refine Kd.C_drewN ?_ _) | (with_reducible refine Kd.C_drew ?_) | exact HR245_0.out)) hb)
        replace HB := bS HB hb
        (try clear hb)
        (try clear hb2)
        (try clear hk)
        (try clear hi)
        refine hK.out _ _ ⟨bc0 BK236, bc1 BK236, bc2 BK236, bc0 BK237, bc1 BK237, bc2 BK237, HS6_, HS7_, HS8_, HS9_⟩ (fun hHeld => ?_)
        clear hK K
        refine norm_ (a' := ?_) ?_ ?_
        rotate_left
        ·show Act.put _ (some 38) _ = _
         simp only [Act.put, List.setIfInBounds_toArray, List.set_cons_zero, List.set_cons_succ, i64_w, i32_w]
         rfl
        refine pU 15 (some 39) (bm 16 65535) HT_ rfl rfl ?_
        refine done_ (done_of HT_.out (by kernel_rfl)) ?_
        try clear hHeld
        try go_wp2
        go_roundg k2
        case measure => have := HJ2.out; have := HK2.out; omega
        case rel => exact ⟨(wrap64 (x6_2 + 1)), zF, H', ⟨by have := HJ2.out; have := HK2.out; omega⟩, ⟨zS HO_5⟩, ⟨zK BK236⟩, ⟨zK BK237⟩, ⟨zB HB⟩⟩
       ·replace c28 := Bool.eq_false_iff.mpr c28
        subst c28
        have H1 : (some false) = some r := by rw [if_neg (show ¬ (false = true) by decide)] at H; exact H
        clear H
        have H := H1
        clear H1
        obtain rfl := Option.some.inj H
        obtain ⟨Ao32, co32, eo32⟩ := Kd.S_slice HO_5.out
        subst eo32
        try go_wp2
        replace HO_5 := Aside0.mk (Kd.S_drew HO_5.out)
        replace BK236 := Aside0.mk (blk_drew BK236.out)
        replace BK237 := Aside0.mk (blk_drew BK237.out)
        replace HB := Aside0.mk (below_drew1 HB.out)
        have p243 : 0 ≤ (x6_2 : Int) := zD
        have q243 : x6_2 < (t240.length : Int) := zD
        obtain ⟨ad243, A243_0, c243_0, e243, hx243_0, hl243_0, hi243_0⟩ := at_L7 (Kd.S_reads' HO_5.out).2.2 x6_2 p243 q243
        cases e243
        obtain ⟨ce243, hce243, hMe243, hcc243⟩ := Kd.S_get HO_5.out [] x6_2 p243 (by first | exact q243 | exact zD | (have e_ := (Kd.S_reads' HO_5.out).1; omega))
        obtain ⟨ve243_0, rfl, ge243_0⟩ := hMe243
        have hv243_0 := hcc243 0 _ rfl
        rw [Nat.add_zero, show ((Kd.slice 3 (Kd.int .i64))).sz = 1 from rfl, Nat.mul_one] at hv243_0
        replace hv243_0 := Option.some.inj (hv243_0.symm.trans hx243_0)
        rw [hv243_0] at ge243_0
        have HL243_0 := Aside0.mk (show Kd.R (Kd.int .i64) 3 _ _ _ _ (rd_L7 t240 x6_2) from ge243_0)
        clear hv243_0 ge243_0
        clear hcc243 hce243
        have HR243_0 := Aside0.mk hi243_0
        have HC243_0 := Aside0.mk hl243_0
        clear hi243_0 hl243_0
        replace p243 := eq_true p243
        replace q243 := eq_true q243
        have p244 : 0 ≤ (0 : Int) := (by omega)
        have q244 : 0 < ((rd_L7 t240 x6_2).length : Int) := zD
        obtain ⟨ad244, e244, hx244_0⟩ := Kd.at_int (by repeat (first | (with_reducible exact HR243_0.out) | (with_reducible refine Kd.C_alloc ?_ _) | (with_reducible refine Kd.C_drewN ?_ _) | (with_reducible refine Kd.C_drew ?_) | exact HR243_0.out)) 0 p244 q244
        cases e244
        have qi244 : (0 < (rd_L7 t240 x6_2).length) = True := eq_true (by omega)
        (try rw [show ((0 : Int)).toNat = 0 from rfl] at hx244_0)
        (try rw [Addr.add_zero'] at hx244_0)
        replace p244 := eq_true p244
        replace q244 := eq_true q244
        have p245 : 0 ≤ (x6_2 : Int) := zD
        have q245 : x6_2 < (t240.length : Int) := zD
        obtain ⟨ad245, A245_0, c245_0, e245, hx245_0, hl245_0, hi245_0⟩ := at_L7 (Kd.S_reads' HO_5.out).2.2 x6_2 p245 q245
        obtain rfl : ad243 = ad245 := (by injection e245)
        obtain ⟨ce245, hce245, hMe245, hcc245⟩ := Kd.S_get HO_5.out [] x6_2 p245 (by first | exact q245 | exact zD | (have e_ := (Kd.S_reads' HO_5.out).1; omega))
        obtain ⟨ve245_0, rfl, ge245_0⟩ := hMe245
        have hv245_0 := hcc245 0 _ rfl
        rw [Nat.add_zero, show ((Kd.slice 3 (Kd.int .i64))).sz = 1 from rfl, Nat.mul_one] at hv245_0
        replace hv245_0 := Option.some.inj (hv245_0.symm.trans hx245_0)
        rw [hv245_0] at ge245_0
        have HL245_0 := Aside0.mk (show Kd.R (Kd.int .i64) 3 _ _ _ _ (rd_L7 t240 x6_2) from ge245_0)
        clear hv245_0 ge245_0
        clear hcc245 hce245
        have HR245_0 := Aside0.mk hi245_0
        have HC245_0 := Aside0.mk hl245_0
        clear hi245_0 hl245_0
        replace p245 := eq_true p245
        replace q245 := eq_true q245
        have ea_ := Option.some.inj (hx243_0.symm.trans hx245_0)
        injection ea_ with ea_ en_ ec_
        subst ea_
        subst ec_
        clear en_
        have p246 : 0 ≤ (1 : Int) := (by omega)
        have q246 : 1 < ((rd_L7 t240 x6_2).length : Int) := zD
        obtain ⟨ad246, e246, hx246_0⟩ := Kd.at_int (by repeat (first | (with_reducible exact HR245_0.out) | (with_reducible refine Kd.C_alloc ?_ _) | (with_reducible refine Kd.C_drewN ?_ _) | (with_reducible refine Kd.C_drew ?_) | exact HR245_0.out)) 1 p246 q246
        cases e246
        (try simp only [show (1 : Int).toNat = 1 from rfl, Nat.reduceMul, Nat.reduceEqDiff, Go.Addr.add, ↓reduceIte] at hx246_0)
        have qi246 : (1 < (rd_L7 t240 x6_2).length) = True := eq_true (by omega)
        (try rw [show ((1 : Int)).toNat = 1 from rfl] at hx246_0)
        replace p246 := eq_true p246
        replace q246 := eq_true q246
        refine start_ (n := 16) (S := fun w' => w'.cell? ⟨gb236, 0, none⟩ = some (.int .i64 a0_0) ∧ w'.cell? ⟨gb236, 1, none⟩ = some (.slice A0_1 l0_1.length c0_1) ∧ w'.cell? ⟨gb236, 2, none⟩ = some (.slice A0_2 l0_2.length c0_2) ∧ w'.cell? ⟨gb237, 0, none⟩ = some (.int .i64 a1_0) ∧ w'.cell? ⟨gb237, 1, none⟩ = some (.slice A1_1 l1_1.length c1_1) ∧ w'.cell? ⟨gb237, 2, none⟩ = some (.slice A1_2 l1_2.length c1_2) ∧ w'.cell? (ad243.add (x6_2).toNat) = some (.slice (some ad244) (rd_L7 t240 x6_2).length c243_0) ∧ w'.cell? ad244 = some (.int .i64 (rd (rd_L7 t240 x6_2) 0)) ∧ w'.cell? (ad243.add (x6_2).toNat) = some (.slice (some ad244) (rd_L7 t240 x6_2).length c243_0) ∧ w'.cell? ⟨ad244.block, ad244.off + 1, none⟩ = some (.int .i64 (rd (rd_L7 t240 x6_2) 1))) (ds := []) (bm 16 0) (by kernel_rfl) rfl (bm0 _) ⟨bc0 BK236, bc1 BK236, bc2 BK236, bc0 BK237, bc1 BK237, bc2 BK237, hx243_0, hx244_0, hx245_0, hx246_0⟩ (fun hHeld => ?_); refine with_tabW spec_Follows.tab7 spec_Follows.bits7 (fun HT_ HW_ => ?_)
        generalize wr.drew = w33 at HO_5 BK236 BK237 HB HL243_0 HL245_0 HR243_0 HR245_0 hx243_0 hx244_0 hx245_0 hx246_0 hHeld ⊢
        refine pU 2 (some 26) (bm 16 4) HT_ rfl rfl ?_
        refine pU 3 (some 27) (bm 16 12) HT_ rfl rfl ?_
        refine pU 4 (some 28) (bm 16 28) HT_ rfl rfl ?_
        refine pU 8 (some 32) (bm 16 284) HT_ rfl rfl ?_
        refine pU 9 (some 33) (bm 16 796) HT_ rfl rfl ?_
        refine pU 10 (some 34) (bm 16 1820) HT_ rfl rfl ?_
        refine tU 0 (some 24) (bm 16 1821) HT_ HW_ rfl rfl hHeld ?_
        refine tU 1 (some 25) (bm 16 1823) HT_ HW_ rfl rfl hHeld ?_
        refine tU 5 (some 29) (bm 16 1855) HT_ HW_ rfl rfl hHeld ?_
        refine pU 6 (some 30) (bm 16 1919) HT_ rfl rfl ?_
        refine tU 7 (some 31) (bm 16 2047) HT_ HW_ rfl rfl hHeld ?_
        refine tU 11 (some 35) (bm 16 4095) HT_ HW_ rfl rfl hHeld ?_
        refine pU 12 (some 36) (bm 16 8191) HT_ rfl rfl ?_
        refine tU 13 (some 37) (bm 16 16383) HT_ HW_ rfl rfl hHeld ?_
        refine one_ (i := 14) (N := some 38) (bm 16 32767) rfl rfl (one_of HT_.out (by kernel_rfl)) (by decide) (fun K hK => ?_)
        refine goes_ Try.func55 (by kernel_rfl) rfl #[.agg #[.int .i64 a0_0, .slice A0_1 l0_1.length c0_1, .slice A0_2 l0_2.length c0_2], .agg #[.int .i64 a1_0, .slice A1_1 l1_1.length c1_1, .slice A1_2 l1_2.length c1_2], .int .i64 (rd (rd_L7 t240 x6_2) 0), .int .i64 (rd (rd_L7 t240 x6_2) 1)] (by rfl) rfl rfl zG ?_
        with_reducible refine (spec_FollowsAt.calls k2 a0_0 _ _ l0_1 _ _ l0_2 a1_0 _ _ l1_1 _ _ l1_2 (rd (rd_L7 t240 x6_2) 0) (rd (rd_L7 t240 x6_2) 1) false _ ?side1 ?side2 ?side3 ?side4 ?side5 ?side6 ?side7 ?side8 A27.out).mono ?_
        (case side1 => exact cS HR0_1 HB)
        (case side2 => exact HC0_1.out)
        (case side3 => exact cS HR0_2 HB)
        (case side4 => exact HC0_2.out)
        (case side5 => exact cS HR1_1 HB)
        (case side6 => exact HC1_1.out)
        (case side7 => exact cS HR1_2 HB)
        (case side8 => exact HC1_2.out)
        rintro e w34 ⟨rfl, hb⟩
        have HS6_ := (hb.cell (World.block_lt_of_cell? _ _ (hHeld.2.2.2.2.2.2.1))).trans (hHeld.2.2.2.2.2.2.1)
        have HS7_ := (hb.cell (World.block_lt_of_cell? _ _ (hHeld.2.2.2.2.2.2.2.1))).trans (hHeld.2.2.2.2.2.2.2.1)
        have HS8_ := (hb.cell (World.block_lt_of_cell? _ _ (hHeld.2.2.2.2.2.2.2.2.1))).trans (hHeld.2.2.2.2.2.2.2.2.1)
        have HS9_ := (hb.cell (World.block_lt_of_cell? _ _ (hHeld.2.2.2.2.2.2.2.2.2))).trans (hHeld.2.2.2.2.2.2.2.2.2)
        refine ⟨_, rfl, ?_⟩
        replace HO_5 := Aside0.mk (Kd.S_below (zS HO_5) hb)
        replace HL243_0 := Aside0.mk (Kd.R_below (zR HL243_0) hb)
        replace HL245_0 := Aside0.mk (Kd.R_below (zR HL245_0) hb)
        replace BK236 := kB BK236 hb
        replace BK237 := kB BK237 hb
        replace HR243_0 := Aside0.mk (Kd.C_below (by repeat (first | (with_reducible exact HR243_0.out) | (with_reducible refine Kd.C_alloc ?_ _) | (with_reducible refine Kd.C_drewN ?_ _) | (with_reducible refine Kd.C_drew ?_) | exact HR243_0.out)) hb)
        replace HR245_0 := Aside0.mk (Kd.C_below (by repeat (first | (with_reducible exact HR245_0.out) | (with_reducible refine Kd.C_alloc ?_ _) | (with_reducible refine Kd.C_drewN ?_ _) | (with_reducible refine Kd.C_drew ?_) | exact HR245_0.out)) hb)
        replace HB := bS HB hb
        (try clear hb)
        (try clear hb2)
        (try clear hk)
        (try clear hi)
        refine hK.out _ _ ⟨bc0 BK236, bc1 BK236, bc2 BK236, bc0 BK237, bc1 BK237, bc2 BK237, HS6_, HS7_, HS8_, HS9_⟩ (fun hHeld => ?_)
        clear hK K
        refine norm_ (a' := ?_) ?_ ?_
        rotate_left
        ·show Act.put _ (some 38) _ = _
         simp only [Act.put, List.setIfInBounds_toArray, List.set_cons_zero, List.set_cons_succ, i64_w, i32_w]
         rfl
        refine pU 15 (some 39) (bm 16 65535) HT_ rfl rfl ?_
        refine done_ (done_of HT_.out (by kernel_rfl)) ?_
        try clear hHeld
        try go_wp2
        go_ret
        exact ⟨zE, zB HB⟩
      ·rw [if_neg c23] at H
       have c23b0 : decide (x6_2 < (t240.length : Int)) = false := decide_eq_false c23
       clear c23
       obtain rfl := Option.some.inj H
       obtain ⟨Ao35, co35, eo35⟩ := Kd.S_slice HO_5.out
       subst eo35
       go_wp2
       go_ret
       exact ⟨zE, zB HB⟩

/-! ### spec_ChainFollows: function 30 -/
def spec_ChainFollows.l0 : Nat → List (S31) → Int → Option (Bool)
 | 0, _, _ => none
 | k + 1, x0, x3 => if x3 < (x0.length : Int) then (if 0 ≤ x3 then (if 0 ≤ (wrap64 (x3 - 1)) then (if (wrap64 (x3 - 1)) < (x0.length : Int) then ((spec_Follows.f k ((rd_T31 x0 x3).f0) ((rd_T31 x0 x3).f1) ((rd_T31 x0 x3).f2) ((rd_T31 x0 (wrap64 (x3 - 1))).f0) ((rd_T31 x0 (wrap64 (x3 - 1))).f1) ((rd_T31 x0 (wrap64 (x3 - 1))).f2)).bind fun t250 => (if t250 = true then (spec_ChainFollows.l0 k x0 (wrap64 (x3 + 1))) else (some false))) else (none)) else (none)) else (none)) else (if (x0.length : Int) > 0 then (if 0 < (x0.length : Int) then ((spec_IsMachine.f k ((rd_T31 x0 0).f0) ((rd_T31 x0 0).f1) ((rd_T31 x0 0).f2)).bind fun t252 => (some t252)) else (none)) else (some false))
def spec_ChainFollows.f (k : Nat) (l0 : List (S31)) : Option (Bool) := spec_ChainFollows.l0 k l0 1
theorem spec_ChainFollows.mono_l : ∀ k, (∀ y0 y1, LeO (spec_ChainFollows.l0 k y0 y1) (spec_ChainFollows.l0 (k + 1) y0 y1))
 | 0 => fun _ _ r h => by simp [spec_ChainFollows.l0] at h
 | k + 1 => by
  have ih0 := spec_ChainFollows.mono_l k
  ·intro y0 y1
   unfold spec_ChainFollows.l0
   repeat' first
   | (with_reducible exact ih0 _ _)
   | (with_reducible exact spec_Follows.mono _ _ _ _ _ _ _)
   | (with_reducible exact spec_IsMachine.mono _ _ _ _)
   | (with_reducible exact LeO.refl _)
   | (with_reducible exact LeO.none _)
   | (with_reducible refine LeO.ite ?_ ?_)
   | (with_reducible refine LeO.bind ?_ (fun _ => ?_))
   | exact ih0 _ _
   | exact spec_Follows.mono _ _ _ _ _ _ _
   | exact spec_IsMachine.mono _ _ _ _
   | exact LeO.none _
   | refine LeO.ite ?_ ?_
   | refine LeO.bind ?_ (fun _ => ?_)
theorem spec_ChainFollows.mono : ∀ a0 k, LeO (spec_ChainFollows.f k a0) (spec_ChainFollows.f (k + 1) a0) := by
 intro a0 k
 have ih0 := spec_ChainFollows.mono_l k
 unfold spec_ChainFollows.f
 repeat' first
   | (with_reducible exact ih0 _ _)
   | (with_reducible exact spec_Follows.mono _ _ _ _ _ _ _)
   | (with_reducible exact spec_IsMachine.mono _ _ _ _)
   | (with_reducible exact LeO.refl _)
   | (with_reducible exact LeO.none _)
   | (with_reducible refine LeO.ite ?_ ?_)
   | (with_reducible refine LeO.bind ?_ (fun _ => ?_))
   | exact ih0 _ _
   | exact spec_Follows.mono _ _ _ _ _ _ _
   | exact spec_IsMachine.mono _ _ _ _
   | exact LeO.none _
   | refine LeO.ite ?_ ?_
   | refine LeO.bind ?_ (fun _ => ?_)
def spec_ChainFollows.T4 : Bool × List (List Nat × List Nat) := (true, [([], []), ([], []), ([0, 1], [0, 1]), ([2], [2]), ([], []), ([], []), ([5], [5]), ([4, 6], [4, 6]), ([7], [7]), ([3, 8], [3, 8]), ([9], [9])])
def spec_ChainFollows.B4 : List Nat := [0, 0, 3, 7, 0, 0, 32, 112, 240, 511, 1023]
theorem spec_ChainFollows.tab4 : rtab .any (opsOf Try.f30 4) = spec_ChainFollows.T4 := by kernel_rfl
theorem spec_ChainFollows.bits4 : waitsOk spec_ChainFollows.T4.2 spec_ChainFollows.B4 = true := by kernel_rfl
set_option maxHeartbeats 8000000 in
set_option maxRecDepth 100000 in
theorem spec_ChainFollows.calls (k : Nat) (A0 : Option Addr) (c0 : Nat) (l0 : List (S31)) (r : Bool) (w : World) (hr0 : Kd.C k31 w A0 l0.length l0) (hc0 : l0.length ≤ c0) (h : spec_ChainFollows.f k l0 = some r) :
  Calls Try.prog 30 #[.slice A0 l0.length c0] w fun e w' => e = .returned (.bool r) ∧ Below w.heap.size w w' := by
 have hu31 := Try.underlying31
 have HR0 := Aside0.mk hr0
 have HC0 := Aside0.mk hc0
 clear hr0 hc0
 have HB := Aside0.mk (Below.refl w.heap.size w)
 have H : (spec_ChainFollows.l0 k l0 1) = some r := h
 clear h
 have H' := Aside0.mk H
 clear H
 go_enter Try.func30, Try.ntmps30
 go_wp2
 go_loopg [3] k (fun kq v3 w' => ∃ (x3_1 : Int), v3 = .int .i64 x3_1 ∧ Aside0 (spec_ChainFollows.l0 kq l0 x3_1 = some r) ∧ Aside0 (kq ≤ k) ∧ Aside0 (Below w.heap.size w w'))
 case atStart => exact ⟨(1), zF, H', ⟨Nat.le_refl _⟩, ⟨zB HB⟩⟩
 case round =>
  clear H'
  obtain ⟨x3_1, rfl, HA, HK1, HB⟩ := hrel
  cases gk with
  | zero => exact absurd HA.out (by simp [spec_ChainFollows.l0])
  | succ k1 =>
   have H := HA.out
   clear HA
   simp only [spec_ChainFollows.l0] at H
   by_cases c2 : x3_1 < (l0.length : Int)
   ·rw [if_pos c2] at H
    have c2b0 : decide (x3_1 < (l0.length : Int)) = true := decide_eq_true c2
    clear c2
    obtain ⟨c3, H⟩ := ifS H
    have c3b0 : decide (0 ≤ x3_1) = true := decide_eq_true c3
    clear c3
    obtain ⟨ji4, hji4⟩ : ∃ j_ : Int, (wrap64 (x3_1 - 1)) = j_ := ⟨_, rfl⟩
    replace H : (if 0 ≤ (ji4) then (if (ji4) < (l0.length : Int) then ((spec_Follows.f k1 ((rd_T31 l0 x3_1).f0) ((rd_T31 l0 x3_1).f1) ((rd_T31 l0 x3_1).f2) ((rd_T31 l0 (ji4)).f0) ((rd_T31 l0 (ji4)).f1) ((rd_T31 l0 (ji4)).f2)).bind fun t250 => (if t250 = true then (spec_ChainFollows.l0 k1 l0 (wrap64 (x3_1 + 1))) else (some false))) else (none)) else (none)) = some r := by first | (rw [hji4] at H; exact H) | (simp only [hji4] at H ⊢; exact H)
    have hji4w : (IntKind.i64.wrap (x3_1 - 1)) = ji4 := (i64_w _).trans hji4
    obtain ⟨c5, H⟩ := ifS H
    have c5b0 : decide (0 ≤ (ji4)) = true := decide_eq_true c5
    clear c5
    obtain ⟨c6, H⟩ := ifS H
    have c6b0 : decide ((ji4) < (l0.length : Int)) = true := decide_eq_true c6
    clear c6
    obtain ⟨t250, A7, H⟩ := bindS H
    by_cases c8 : t250 = true
    ·subst c8
     have H1 : (spec_ChainFollows.l0 k1 l0 (wrap64 (x3_1 + 1))) = some r := by rw [if_pos rfl] at H; exact H
     clear H
     have H := H1
     clear H1
     have H' := Aside0.mk H
     clear H
     try go_wp2
     replace HB := Aside0.mk (below_drew1 HB.out)
     have p248 : 0 ≤ (x3_1 : Int) := zD
     have q248 : x3_1 < (l0.length : Int) := zD
     obtain ⟨ad248, A248_1, c248_1, A248_2, c248_2, e248, hx248_0, hx248_1, hx248_2, hl248_1, hi248_1, hl248_2, hi248_2⟩ := at_T31 HR0.out x3_1 p248 q248
     have hw248_2 := hx248_2
     have hw248_1 := hx248_1
     have hw248_0 := hx248_0
     cases e248
     replace hx248_0 := hL HB hx248_0
     replace hx248_1 := hL HB hx248_1
     replace hx248_2 := hL HB hx248_2
     have HR248_1 := Aside0.mk hi248_1
     have HC248_1 := Aside0.mk hl248_1
     clear hi248_1 hl248_1
     have HR248_2 := Aside0.mk hi248_2
     have HC248_2 := Aside0.mk hl248_2
     clear hi248_2 hl248_2
     replace p248 := eq_true p248
     replace q248 := eq_true q248
     have p249 : 0 ≤ ((ji4) : Int) := zD
     have q249 : (ji4) < (l0.length : Int) := zD
     obtain ⟨ad249, A249_1, c249_1, A249_2, c249_2, e249, hx249_0, hx249_1, hx249_2, hl249_1, hi249_1, hl249_2, hi249_2⟩ := at_T31 HR0.out (ji4) p249 q249
     have hw249_2 := hx249_2
     have hw249_1 := hx249_1
     have hw249_0 := hx249_0
     obtain rfl : ad248 = ad249 := (by injection e249)
     replace hx249_0 := hL HB hx249_0
     replace hx249_1 := hL HB hx249_1
     replace hx249_2 := hL HB hx249_2
     have HR249_1 := Aside0.mk hi249_1
     have HC249_1 := Aside0.mk hl249_1
     clear hi249_1 hl249_1
     have HR249_2 := Aside0.mk hi249_2
     have HC249_2 := Aside0.mk hl249_2
     clear hi249_2 hl249_2
     replace p249 := eq_true p249
     replace q249 := eq_true q249
     refine start_ (n := 11) (S := fun w' => w'.cell? (ad248.add ((x3_1).toNat * 3)) = some (.int .i64 ((rd_T31 l0 x3_1).f0)) ∧ w'.cell? ⟨(ad248.add ((x3_1).toNat * 3)).block, (ad248.add ((x3_1).toNat * 3)).off + 1, none⟩ = some (.slice A248_1 ((rd_T31 l0 x3_1).f1).length c248_1) ∧ w'.cell? ⟨(ad248.add ((x3_1).toNat * 3)).block, (ad248.add ((x3_1).toNat * 3)).off + 2, none⟩ = some (.slice A248_2 ((rd_T31 l0 x3_1).f2).length c248_2) ∧ w'.cell? (ad248.add (((ji4)).toNat * 3)) = some (.int .i64 ((rd_T31 l0 (ji4)).f0)) ∧ w'.cell? ⟨(ad248.add (((ji4)).toNat * 3)).block, (ad248.add (((ji4)).toNat * 3)).off + 1, none⟩ = some (.slice A249_1 ((rd_T31 l0 (ji4)).f1).length c249_1) ∧ w'.cell? ⟨(ad248.add (((ji4)).toNat * 3)).block, (ad248.add (((ji4)).toNat * 3)).off + 2, none⟩ = some (.slice A249_2 ((rd_T31 l0 (ji4)).f2).length c249_2)) (ds := []) (bm 11 0) (by kernel_rfl) rfl (bm0 _) ⟨(hL HB hw248_0), (hL HB hw248_1), (hL HB hw248_2), (hL HB hw249_0), (hL HB hw249_1), (hL HB hw249_2)⟩ (fun hHeld => ?_); refine with_tabW spec_ChainFollows.tab4 spec_ChainFollows.bits4 (fun HT_ HW_ => ?_)
     generalize wr.drew = w9 at HB HR248_1 HR248_2 HR249_1 HR249_2 hx248_0 hx248_1 hx248_2 hx249_0 hx249_1 hx249_2 hHeld ⊢
     refine pU 0 (some 10) (bm 11 1) HT_ rfl rfl ?_
     refine pU 1 (some 11) (bm 11 3) HT_ rfl rfl ?_
     refine pU 2 (some 12) (bm 11 7) HT_ rfl rfl ?_
     refine pU 4 (some 14) (bm 11 23) HT_ rfl rfl ?_
     refine pU 5 (some 15) (bm 11 55) HT_ rfl rfl ?_
     refine pU 6 (some 16) (bm 11 119) HT_ rfl rfl ?_
     refine pU 7 (some 17) (bm 11 247) HT_ rfl rfl ?_
     refine tU 3 (some 13) (bm 11 255) HT_ HW_ rfl rfl hHeld ?_
     refine tU 8 (some 18) (bm 11 511) HT_ HW_ rfl rfl hHeld ?_
     refine one_ (i := 9) (N := some 19) (bm 11 1023) rfl rfl (one_of HT_.out (by kernel_rfl)) (by decide) (fun K hK => ?_)
     refine goes_ Try.func27 (by kernel_rfl) rfl #[.agg #[.int .i64 ((rd_T31 l0 x3_1).f0), .slice A248_1 ((rd_T31 l0 x3_1).f1).length c248_1, .slice A248_2 ((rd_T31 l0 x3_1).f2).length c248_2], .agg #[.int .i64 ((rd_T31 l0 (ji4)).f0), .slice A249_1 ((rd_T31 l0 (ji4)).f1).length c249_1, .slice A249_2 ((rd_T31 l0 (ji4)).f2).length c249_2]] (by rfl) rfl rfl (by (try simp only [List.map_toArray, List.map_cons, List.map_nil]); first | done | (simp only [hji4]; rfl) | rfl | (simp only [List.length_drop, List.length_take]; rfl)) ?_
     with_reducible refine (spec_Follows.calls k1 ((rd_T31 l0 x3_1).f0) _ _ ((rd_T31 l0 x3_1).f1) _ _ ((rd_T31 l0 x3_1).f2) ((rd_T31 l0 (ji4)).f0) _ _ ((rd_T31 l0 (ji4)).f1) _ _ ((rd_T31 l0 (ji4)).f2) true _ ?side1 ?side2 ?side3 ?side4 ?side5 ?side6 ?side7 ?side8 A7.out).mono ?_
     (case side1 => exact cS HR248_1 HB)
     (case side2 => exact HC248_1.out)
     (case side3 => exact cS HR248_2 HB)
     (case side4 => exact HC248_2.out)
     (case side5 => exact cS HR249_1 HB)
     (case side6 => exact HC249_1.out)
     (case side7 => exact cS HR249_2 HB)
     (case side8 => exact HC249_2.out)
     rintro e w10 ⟨rfl, hb⟩
     refine ⟨_, rfl, ?_⟩
     replace HB := bS HB hb
     (try clear hb)
     (try clear hb2)
     (try clear hk)
     (try clear hi)
     refine hK.out _ _ ⟨(hL HB hw248_0), (hL HB hw248_1), (hL HB hw248_2), (hL HB hw249_0), (hL HB hw249_1), (hL HB hw249_2)⟩ (fun hHeld => ?_)
     clear hK K
     refine norm_ (a' := ?_) ?_ ?_
     rotate_left
     ·show Act.put _ (some 19) _ = _
      simp only [Act.put, List.setIfInBounds_toArray, List.set_cons_zero, List.set_cons_succ, i64_w, i32_w]
      rfl
     refine pU 10 (some 20) (bm 11 2047) HT_ rfl rfl ?_
     refine done_ (done_of HT_.out (by kernel_rfl)) ?_
     try clear hHeld
     try go_wp2
     go_roundg k1
     case measure => have := HK1.out; omega
     case rel => exact ⟨(wrap64 (x3_1 + 1)), zF, H', ⟨by have := HK1.out; omega⟩, ⟨zB HB⟩⟩
    ·replace c8 := Bool.eq_false_iff.mpr c8
     subst c8
     have H1 : (some false) = some r := by rw [if_neg (show ¬ (false = true) by decide)] at H; exact H
     clear H
     have H := H1
     clear H1
     obtain rfl := Option.some.inj H
     try go_wp2
     replace HB := Aside0.mk (below_drew1 HB.out)
     have p248 : 0 ≤ (x3_1 : Int) := zD
     have q248 : x3_1 < (l0.length : Int) := zD
     obtain ⟨ad248, A248_1, c248_1, A248_2, c248_2, e248, hx248_0, hx248_1, hx248_2, hl248_1, hi248_1, hl248_2, hi248_2⟩ := at_T31 HR0.out x3_1 p248 q248
     have hw248_2 := hx248_2
     have hw248_1 := hx248_1
     have hw248_0 := hx248_0
     cases e248
     replace hx248_0 := hL HB hx248_0
     replace hx248_1 := hL HB hx248_1
     replace hx248_2 := hL HB hx248_2
     have HR248_1 := Aside0.mk hi248_1
     have HC248_1 := Aside0.mk hl248_1
     clear hi248_1 hl248_1
     have HR248_2 := Aside0.mk hi248_2
     have HC248_2 := Aside0.mk hl248_2
     clear hi248_2 hl248_2
     replace p248 := eq_true p248
     replace q248 := eq_true q248
     have p249 : 0 ≤ ((ji4) : Int) := zD
     have q249 : (ji4) < (l0.length : Int) := zD
     obtain ⟨ad249, A249_1, c249_1, A249_2, c249_2, e249, hx249_0, hx249_1, hx249_2, hl249_1, hi249_1, hl249_2, hi249_2⟩ := at_T31 HR0.out (ji4) p249 q249
     have hw249_2 := hx249_2
     have hw249_1 := hx249_1
     have hw249_0 := hx249_0
     obtain rfl : ad248 = ad249 := (by injection e249)
     replace hx249_0 := hL HB hx249_0
     replace hx249_1 := hL HB hx249_1
     replace hx249_2 := hL HB hx249_2
     have HR249_1 := Aside0.mk hi249_1
     have HC249_1 := Aside0.mk hl249_1
     clear hi249_1 hl249_1
     have HR249_2 := Aside0.mk hi249_2
     have HC249_2 := Aside0.mk hl249_2
     clear hi249_2 hl249_2
     replace p249 := eq_true p249
     replace q249 := eq_true q249
     refine start_ (n := 11) (S := fun w' => w'.cell? (ad248.add ((x3_1).toNat * 3)) = some (.int .i64 ((rd_T31 l0 x3_1).f0)) ∧ w'.cell? ⟨(ad248.add ((x3_1).toNat * 3)).block, (ad248.add ((x3_1).toNat * 3)).off + 1, none⟩ = some (.slice A248_1 ((rd_T31 l0 x3_1).f1).length c248_1) ∧ w'.cell? ⟨(ad248.add ((x3_1).toNat * 3)).block, (ad248.add ((x3_1).toNat * 3)).off + 2, none⟩ = some (.slice A248_2 ((rd_T31 l0 x3_1).f2).length c248_2) ∧ w'.cell? (ad248.add (((ji4)).toNat * 3)) = some (.int .i64 ((rd_T31 l0 (ji4)).f0)) ∧ w'.cell? ⟨(ad248.add (((ji4)).toNat * 3)).block, (ad248.add (((ji4)).toNat * 3)).off + 1, none⟩ = some (.slice A249_1 ((rd_T31 l0 (ji4)).f1).length c249_1) ∧ w'.cell? ⟨(ad248.add (((ji4)).toNat * 3)).block, (ad248.add (((ji4)).toNat * 3)).off + 2, none⟩ = some (.slice A249_2 ((rd_T31 l0 (ji4)).f2).length c249_2)) (ds := []) (bm 11 0) (by kernel_rfl) rfl (bm0 _) ⟨(hL HB hw248_0), (hL HB hw248_1), (hL HB hw248_2), (hL HB hw249_0), (hL HB hw249_1), (hL HB hw249_2)⟩ (fun hHeld => ?_); refine with_tabW spec_ChainFollows.tab4 spec_ChainFollows.bits4 (fun HT_ HW_ => ?_)
     generalize wr.drew = w11 at HB HR248_1 HR248_2 HR249_1 HR249_2 hx248_0 hx248_1 hx248_2 hx249_0 hx249_1 hx249_2 hHeld ⊢
     refine pU 0 (some 10) (bm 11 1) HT_ rfl rfl ?_
     refine pU 1 (some 11) (bm 11 3) HT_ rfl rfl ?_
     refine pU 2 (some 12) (bm 11 7) HT_ rfl rfl ?_
     refine pU 4 (some 14) (bm 11 23) HT_ rfl rfl ?_
     refine pU 5 (some 15) (bm 11 55) HT_ rfl rfl ?_
     refine pU 6 (some 16) (bm 11 119) HT_ rfl rfl ?_
     refine pU 7 (some 17) (bm 11 247) HT_ rfl rfl ?_
     refine tU 3 (some 13) (bm 11 255) HT_ HW_ rfl rfl hHeld ?_
     refine tU 8 (some 18) (bm 11 511) HT_ HW_ rfl rfl hHeld ?_
     refine one_ (i := 9) (N := some 19) (bm 11 1023) rfl rfl (one_of HT_.out (by kernel_rfl)) (by decide) (fun K hK => ?_)
     refine goes_ Try.func27 (by kernel_rfl) rfl #[.agg #[.int .i64 ((rd_T31 l0 x3_1).f0), .slice A248_1 ((rd_T31 l0 x3_1).f1).length c248_1, .slice A248_2 ((rd_T31 l0 x3_1).f2).length c248_2], .agg #[.int .i64 ((rd_T31 l0 (ji4)).f0), .slice A249_1 ((rd_T31 l0 (ji4)).f1).length c249_1, .slice A249_2 ((rd_T31 l0 (ji4)).f2).length c249_2]] (by rfl) rfl rfl (by (try simp only [List.map_toArray, List.map_cons, List.map_nil]); first | done | (simp only [hji4]; rfl) | rfl | (simp only [List.length_drop, List.length_take]; rfl)) ?_
     with_reducible refine (spec_Follows.calls k1 ((rd_T31 l0 x3_1).f0) _ _ ((rd_T31 l0 x3_1).f1) _ _ ((rd_T31 l0 x3_1).f2) ((rd_T31 l0 (ji4)).f0) _ _ ((rd_T31 l0 (ji4)).f1) _ _ ((rd_T31 l0 (ji4)).f2) false _ ?side1 ?side2 ?side3 ?side4 ?side5 ?side6 ?side7 ?side8 A7.out).mono ?_
     (case side1 => exact cS HR248_1 HB)
     (case side2 => exact HC248_1.out)
     (case side3 => exact cS HR248_2 HB)
     (case side4 => exact HC248_2.out)
     (case side5 => exact cS HR249_1 HB)
     (case side6 => exact HC249_1.out)
     (case side7 => exact cS HR249_2 HB)
     (case side8 => exact HC249_2.out)
     rintro e w12 ⟨rfl, hb⟩
     refine ⟨_, rfl, ?_⟩
     replace HB := bS HB hb
     (try clear hb)
     (try clear hb2)
     (try clear hk)
     (try clear hi)
     refine hK.out _ _ ⟨(hL HB hw248_0), (hL HB hw248_1), (hL HB hw248_2), (hL HB hw249_0), (hL HB hw249_1), (hL HB hw249_2)⟩ (fun hHeld => ?_)
     clear hK K
     refine norm_ (a' := ?_) ?_ ?_
     rotate_left
     ·show Act.put _ (some 19) _ = _
      simp only [Act.put, List.setIfInBounds_toArray, List.set_cons_zero, List.set_cons_succ, i64_w, i32_w]
      rfl
     refine pU 10 (some 20) (bm 11 2047) HT_ rfl rfl ?_
     refine done_ (done_of HT_.out (by kernel_rfl)) ?_
     try clear hHeld
     try go_wp2
     go_ret
     exact ⟨by first | rfl | (simp [errW_none, errW_some] <;> rfl) | (simp only [← hji4]; first | rfl | (simp [errW_none, errW_some] <;> rfl)) | (simp [*, errW_none, errW_some] <;> rfl), zB HB⟩
   ·rw [if_neg c2] at H
    have c2b0 : decide (x3_1 < (l0.length : Int)) = false := decide_eq_false c2
    clear c2
    by_cases c13 : (l0.length : Int) > 0
    ·rw [if_pos c13] at H
     have c13b0 : decide (0 < (l0.length : Int)) = true := decide_eq_true c13
     have c13b1 : decide (0 < l0.length) = true := decide_eq_true (by omega)
     clear c13
     obtain ⟨c14, H⟩ := ifS H
     have c14b0 : decide (0 < (l0.length : Int)) = true := decide_eq_true c14
     have c14b1 : decide (0 < l0.length) = true := decide_eq_true (by omega)
     clear c14
     obtain ⟨t252, A15, H⟩ := bindS H
     obtain rfl := Option.some.inj H
     have p251 : 0 ≤ (0 : Int) := (by omega)
     have q251 : 0 < (l0.length : Int) := zD
     obtain ⟨ad251, A251_1, c251_1, A251_2, c251_2, e251, hx251_0, hx251_1, hx251_2, hl251_1, hi251_1, hl251_2, hi251_2⟩ := at_T31 HR0.out 0 p251 q251
     cases e251
     have qi251 : (0 < l0.length) = True := eq_true (by omega)
     (try rw [show ((0 : Int)).toNat = 0 from rfl] at hx251_0)
     (try rw [show 0 * 3 = 0 from rfl] at hx251_0)
     (try rw [Addr.add_zero'] at hx251_0)
     (try rw [show ((0 : Int)).toNat = 0 from rfl] at hx251_1)
     (try rw [show 0 * 3 = 0 from rfl] at hx251_1)
     (try rw [Addr.add_zero'] at hx251_1)
     (try rw [show ((0 : Int)).toNat = 0 from rfl] at hx251_2)
     (try rw [show 0 * 3 = 0 from rfl] at hx251_2)
     (try rw [Addr.add_zero'] at hx251_2)
     replace hx251_0 := hL HB hx251_0
     replace hx251_1 := hL HB hx251_1
     replace hx251_2 := hL HB hx251_2
     have HR251_1 := Aside0.mk hi251_1
     have HC251_1 := Aside0.mk hl251_1
     clear hi251_1 hl251_1
     have HR251_2 := Aside0.mk hi251_2
     have HC251_2 := Aside0.mk hl251_2
     clear hi251_2 hl251_2
     replace p251 := eq_true p251
     replace q251 := eq_true q251
     go_wp2_with (first | (go_at_call 36; (with_reducible refine (spec_IsMachine.calls k1 ((rd_T31 l0 0).f0) _ _ ((rd_T31 l0 0).f1) _ _ ((rd_T31 l0 0).f2) t252 _ ?side1 ?side2 ?side3 ?side4 A15.out).mono ?_); (case side1 => exact cS HR251_1 HB); (case side2 => exact HC251_1.out); (case side3 => exact cS HR251_2 HB); (case side4 => exact HC251_2.out); rintro e w16 ⟨rfl, hb⟩; replace HB := bS HB hb; (try clear hb)))
     go_ret
     exact ⟨zE, zB HB⟩
    ·rw [if_neg c13] at H
     have c13b0 : decide (0 < (l0.length : Int)) = false := decide_eq_false c13
     have c13b1 : decide (0 < l0.length) = false := decide_eq_false (by omega)
     clear c13
     obtain rfl := Option.some.inj H
     go_wp2
     go_ret
     exact ⟨zE, zB HB⟩

end Go.Proofs.Ytmenijbpglknbaa.PFnExactChainFollows
