-- WRITTEN by pp.py, this session's own wrapper around the print; not trusted: Lean checks it
import Derived.Test.YtmenijbpglknbaaPFnExactChainFollowsx0
import Derived.Test.YtmenijbpglknbaaPFnExactChainFollowsx9
import Derived.Test.YtmenijbpglknbaaPFnExactChainFollowsx12
namespace Go.Proofs.Ytmenijbpglknbaa.PFnExactChainFollows
open Go.RowKit Go.Proofs.Ytmenijbpglknbaa.Hw Go.Proofs.YtmenijbpglknbaaW.PrintWords Go.Proofs.YtmenijbpglknbaaW.PrintLast Go.Proofs.YtmenijbpglknbaaW.PrintMore
attribute [local go_sem] max2_int min2_int max_two min_two max_three min_three max_four min_four   -- for this text's walks alone
set_option linter.unusedVariables false
set_option linter.unusedSimpArgs false
set_option linter.unusedSectionVars false

/-! ### impl_Follows: function 28 -/
mutual
def impl_Follows.j0 : Nat → Bool → Int → List Bool → List (S64) → Int → List Bool → List (S64) → Option (Bool)
 | 0, _, _, _, _, _, _, _ => none
 | k + 1, x14, x393000, x393001, x393002, x394000, x394001, x394002 => if x14 = true then (some false) else ((impl_FollowPairs.f k x393000 x393001 x393002 x394000 x394001 x394002).bind fun t396 => (impl_Follows.l0 k t396 (t396.length : Int) 0 x393000 x393001 x393002 x394000 x394001 x394002))
def impl_Follows.l0 : Nat → List (List Int) → Int → Int → Int → List Bool → List (S64) → Int → List Bool → List (S64) → Option (Bool)
 | 0, _, _, _, _, _, _, _, _, _ => none
 | k + 1, x17, x18, x19, x393000, x393001, x393002, x394000, x394001, x394002 => if x19 < x18 then (if 0 ≤ x19 then (if x19 < (x17.length : Int) then (if 0 < ((rd_L7 x17 x19).length : Int) then (if 1 < ((rd_L7 x17 x19).length : Int) then ((impl_FollowsAt.f k x393000 x393001 x393002 x394000 x394001 x394002 (rd (rd_L7 x17 x19) 0) (rd (rd_L7 x17 x19) 1)).bind fun t402 => (if t402 = true then (impl_Follows.l0 k x17 x18 (wrap64 (x19 + 1)) x393000 x393001 x393002 x394000 x394001 x394002) else (some false))) else (none)) else (none)) else (none)) else (none)) else (some true)
end
def impl_Follows.f (k : Nat) (a0_0 : Int) (l0_1 : List Bool) (l0_2 : List (S64)) (a1_0 : Int) (l1_1 : List Bool) (l1_2 : List (S64)) : Option (Bool) := (impl_IsMachine.f k a0_0 l0_1 l0_2).bind fun t394 => (if t394 = true then ((impl_IsMachine.f k a1_0 l1_1 l1_2).bind fun t395 => (impl_Follows.j0 k (!t395) a0_0 l0_1 l0_2 a1_0 l1_1 l1_2)) else (impl_Follows.j0 k true a0_0 l0_1 l0_2 a1_0 l1_1 l1_2))
theorem impl_Follows.mono_l : ∀ k, (∀ y0 y1 y2 y3 y4 y5 y6, LeO (impl_Follows.j0 k y0 y1 y2 y3 y4 y5 y6) (impl_Follows.j0 (k + 1) y0 y1 y2 y3 y4 y5 y6)) ∧ (∀ y0 y1 y2 y3 y4 y5 y6 y7 y8, LeO (impl_Follows.l0 k y0 y1 y2 y3 y4 y5 y6 y7 y8) (impl_Follows.l0 (k + 1) y0 y1 y2 y3 y4 y5 y6 y7 y8))
 | 0 => ⟨fun _ _ _ _ _ _ _ r h => by simp [impl_Follows.j0] at h, fun _ _ _ _ _ _ _ _ _ r h => by simp [impl_Follows.l0] at h⟩
 | k + 1 => by
  obtain ⟨ih0, ih1⟩ := impl_Follows.mono_l k
  refine ⟨?_, ?_⟩
  ·intro y0 y1 y2 y3 y4 y5 y6
   unfold impl_Follows.j0
   repeat' first
   | (with_reducible exact ih0 _ _ _ _ _ _ _)
   | (with_reducible exact ih1 _ _ _ _ _ _ _ _ _)
   | (with_reducible exact impl_FollowPairs.mono _ _ _ _ _ _ _)
   | (with_reducible exact impl_FollowsAt.mono _ _ _ _ _ _ _ _ _)
   | (with_reducible exact impl_IsMachine.mono _ _ _ _)
   | (with_reducible exact LeO.refl _)
   | (with_reducible exact LeO.none _)
   | (with_reducible refine LeO.ite ?_ ?_)
   | (with_reducible refine LeO.bind ?_ (fun _ => ?_))
   | exact ih0 _ _ _ _ _ _ _
   | exact ih1 _ _ _ _ _ _ _ _ _
   | exact impl_FollowPairs.mono _ _ _ _ _ _ _
   | exact impl_FollowsAt.mono _ _ _ _ _ _ _ _ _
   | exact impl_IsMachine.mono _ _ _ _
   | exact LeO.none _
   | refine LeO.ite ?_ ?_
   | refine LeO.bind ?_ (fun _ => ?_)
  ·intro y0 y1 y2 y3 y4 y5 y6 y7 y8
   unfold impl_Follows.l0
   repeat' first
   | (with_reducible exact ih0 _ _ _ _ _ _ _)
   | (with_reducible exact ih1 _ _ _ _ _ _ _ _ _)
   | (with_reducible exact impl_FollowPairs.mono _ _ _ _ _ _ _)
   | (with_reducible exact impl_FollowsAt.mono _ _ _ _ _ _ _ _ _)
   | (with_reducible exact impl_IsMachine.mono _ _ _ _)
   | (with_reducible exact LeO.refl _)
   | (with_reducible exact LeO.none _)
   | (with_reducible refine LeO.ite ?_ ?_)
   | (with_reducible refine LeO.bind ?_ (fun _ => ?_))
   | exact ih0 _ _ _ _ _ _ _
   | exact ih1 _ _ _ _ _ _ _ _ _
   | exact impl_FollowPairs.mono _ _ _ _ _ _ _
   | exact impl_FollowsAt.mono _ _ _ _ _ _ _ _ _
   | exact impl_IsMachine.mono _ _ _ _
   | exact LeO.none _
   | refine LeO.ite ?_ ?_
   | refine LeO.bind ?_ (fun _ => ?_)
theorem impl_Follows.mono : ∀ a0 a1 a2 a3 a4 a5 k, LeO (impl_Follows.f k a0 a1 a2 a3 a4 a5) (impl_Follows.f (k + 1) a0 a1 a2 a3 a4 a5) := by
 intro a0 a1 a2 a3 a4 a5 k
 obtain ⟨ih0, ih1⟩ := impl_Follows.mono_l k
 unfold impl_Follows.f
 repeat' first
   | (with_reducible exact ih0 _ _ _ _ _ _ _)
   | (with_reducible exact ih1 _ _ _ _ _ _ _ _ _)
   | (with_reducible exact impl_FollowPairs.mono _ _ _ _ _ _ _)
   | (with_reducible exact impl_FollowsAt.mono _ _ _ _ _ _ _ _ _)
   | (with_reducible exact impl_IsMachine.mono _ _ _ _)
   | (with_reducible exact LeO.refl _)
   | (with_reducible exact LeO.none _)
   | (with_reducible refine LeO.ite ?_ ?_)
   | (with_reducible refine LeO.bind ?_ (fun _ => ?_))
   | exact ih0 _ _ _ _ _ _ _
   | exact ih1 _ _ _ _ _ _ _ _ _
   | exact impl_FollowPairs.mono _ _ _ _ _ _ _
   | exact impl_FollowsAt.mono _ _ _ _ _ _ _ _ _
   | exact impl_IsMachine.mono _ _ _ _
   | exact LeO.none _
   | refine LeO.ite ?_ ?_
   | refine LeO.bind ?_ (fun _ => ?_)
def impl_Follows.T6 : Bool × List (List Nat × List Nat) := (true, [([], []), ([], []), ([], []), ([2], [2]), ([3], [3]), ([], []), ([5], [5]), ([6], [6]), ([0, 1, 4, 7], [0, 1, 4, 7]), ([8], [8])])
def impl_Follows.B6 : List Nat := [0, 0, 0, 4, 12, 0, 32, 96, 255, 511]
theorem impl_Follows.tab6 : rtab .any (opsOf Try.f28 6) = impl_Follows.T6 := by kernel_rfl
theorem impl_Follows.bits6 : waitsOk impl_Follows.T6.2 impl_Follows.B6 = true := by kernel_rfl
set_option maxHeartbeats 8000000 in
set_option maxRecDepth 100000 in
theorem impl_Follows.calls (k : Nat) (a0_0 : Int) (A0_1 : Option Addr) (c0_1 : Nat) (l0_1 : List Bool) (A0_2 : Option Addr) (c0_2 : Nat) (l0_2 : List (S64)) (a1_0 : Int) (A1_1 : Option Addr) (c1_1 : Nat) (l1_1 : List Bool) (A1_2 : Option Addr) (c1_2 : Nat) (l1_2 : List (S64)) (r : Bool) (w : World) (hr0_1 : Kd.C Kd.bool w A0_1 l0_1.length l0_1) (hc0_1 : l0_1.length ≤ c0_1) (hr0_2 : Kd.C k64 w A0_2 l0_2.length l0_2) (hc0_2 : l0_2.length ≤ c0_2) (hr1_1 : Kd.C Kd.bool w A1_1 l1_1.length l1_1) (hc1_1 : l1_1.length ≤ c1_1) (hr1_2 : Kd.C k64 w A1_2 l1_2.length l1_2) (hc1_2 : l1_2.length ≤ c1_2) (h : impl_Follows.f k a0_0 l0_1 l0_2 a1_0 l1_1 l1_2 = some r) :
  Calls Try.prog 28 #[.agg #[.int .i64 a0_0, .slice A0_1 l0_1.length c0_1, .slice A0_2 l0_2.length c0_2], .agg #[.int .i64 a1_0, .slice A1_1 l1_1.length c1_1, .slice A1_2 l1_2.length c1_2]] w fun e w' => e = .returned (.bool r) ∧ Below w.heap.size w w' := by
 have hu31 := Try.underlying31
 have HR0_1 := Aside0.mk hr0_1
 have HC0_1 := Aside0.mk hc0_1
 clear hr0_1 hc0_1
 have HR0_2 := Aside0.mk hr0_2
 have HC0_2 := Aside0.mk hc0_2
 clear hr0_2 hc0_2
 have HR1_1 := Aside0.mk hr1_1
 have HC1_1 := Aside0.mk hc1_1
 clear hr1_1 hc1_1
 have HR1_2 := Aside0.mk hr1_2
 have HC1_2 := Aside0.mk hc1_2
 clear hr1_2 hc1_2
 have HB := Aside0.mk (Below.refl w.heap.size w)
 have H : ((impl_IsMachine.f k a0_0 l0_1 l0_2).bind fun t394 => (if t394 = true then ((impl_IsMachine.f k a1_0 l1_1 l1_2).bind fun t395 => (impl_Follows.j0 k (!t395) a0_0 l0_1 l0_2 a1_0 l1_1 l1_2)) else (impl_Follows.j0 k true a0_0 l0_1 l0_2 a1_0 l1_1 l1_2))) = some r := h
 clear h
 have HC3 := Aside0.mk H
 clear H
 go_enter Try.func28, Try.ntmps28
 go_upto_region 1 with (first | ((with_reducible refine gate_dst (N := 2) rfl ?_); refine box_event ?hg (N := 2) ?hd (cs := #[.int .i64 a0_0, .slice A0_1 l0_1.length c0_1, .slice A0_2 l0_2.length c0_2]) (t := 31) ?hr ?_; (case hd => rfl); (case hg => rfl); (case hr => first | (go_simp; done) | (go_simp; rfl)); intro gb392 hg w4 hbox hb; have BK392 := Aside0.mk (hbox); have GW392 := gS HB hg; have GE392 := gS HB hg; replace HB := bS HB hb; clear hb hbox hg) | ((with_reducible refine gate_dst (N := 3) rfl ?_); refine box_event ?hg (N := 3) ?hd (cs := #[.int .i64 a1_0, .slice A1_1 l1_1.length c1_1, .slice A1_2 l1_2.length c1_2]) (t := 31) ?hr ?_; (case hd => rfl); (case hg => rfl); (case hr => first | (go_simp; done) | (go_simp; rfl)); intro gb393 hg w5 hbox hb; have BK393 := Aside0.mk (hbox); have GW393 := gS HB hg; have GE393 := gS HB hg; replace HB := bS HB hb; have NB392_393 := nL BK392 hg; have NB393_392 := nR BK392 hg; replace BK392 := kB BK392 hb; clear hb hbox hg))
 (try simp only [Act.put, List.setIfInBounds_toArray, List.set_cons_zero, List.set_cons_succ])
 go_cut [14] (fun v14 wc => ∃ (kq : Nat) (x14_2 : Bool), v14 = .bool x14_2 ∧ Aside0 (impl_Follows.j0 kq x14_2 a0_0 l0_1 l0_2 a1_0 l1_1 l1_2 = some r) ∧ Aside0 (kq ≤ k) ∧ Aside0 (wc.heap[gb392]? = some (.cells #[.int .i64 a0_0, (.slice A0_1 l0_1.length c0_1), (.slice A0_2 l0_2.length c0_2)] 31 (0, 0))) ∧ Aside0 (wc.heap[gb393]? = some (.cells #[.int .i64 a1_0, (.slice A1_1 l1_1.length c1_1), (.slice A1_2 l1_2.length c1_2)] 31 (0, 0))) ∧ Aside0 (Below w.heap.size w wc))
 case first =>
  have H := HC3.out
  clear HC3
  obtain ⟨t394, A6, H⟩ := bindS H
  by_cases c7 : t394 = true
  ·subst c7
   have H1 : ((impl_IsMachine.f k a1_0 l1_1 l1_2).bind fun t395 => (impl_Follows.j0 k (!t395) a0_0 l0_1 l0_2 a1_0 l1_1 l1_2)) = some r := by rw [if_pos rfl] at H; exact H
   clear H
   have H := H1
   clear H1
   obtain ⟨t395, A8, H⟩ := bindS H
   have H' := Aside0.mk H
   clear H
   have hnb9 := NB392_393.out
   have hnc9 := NB393_392.out
   have hcz10_0 := bc0 BK392
   have hcz10_1 := bc1 BK392
   have hcz10_2 := bc2 BK392
   have hfz10_0 := bf BK392 0
   have hfz10_1 := bf BK392 1
   have hfz10_2 := bf BK392 2
   go_wp2_with (first | ((with_reducible refine gate_callee (f := 41) rfl ?_); refine goesL_ (some 8) rfl rfl Try.func41 (by kernel_rfl) rfl #[.agg #[.int .i64 a0_0, .slice A0_1 l0_1.length c0_1, .slice A0_2 l0_2.length c0_2]] rfl zG ?_; (with_reducible refine (impl_IsMachine.calls k a0_0 _ _ l0_1 _ _ l0_2 true _ ?side1 ?side2 ?side3 ?side4 A6.out).mono ?_); (case side1 => exact cS HR0_1 HB); (case side2 => exact HC0_1.out); (case side3 => exact cS HR0_2 HB); (case side4 => exact HC0_2.out); rintro e w11 ⟨rfl, hb⟩; refine ⟨_, rfl, ?_⟩; replace BK392 := kB BK392 hb; replace BK393 := kB BK393 hb; replace HB := bS HB hb; (try clear hb); have hcz12_0 := bc0 BK393; have hcz12_1 := bc1 BK393; have hcz12_2 := bc2 BK393; have hfz12_0 := bf BK393 0; have hfz12_1 := bf BK393 1; have hfz12_2 := bf BK393 2) | (go_at_call 41; (with_reducible refine (impl_IsMachine.calls k a1_0 _ _ l1_1 _ _ l1_2 t395 _ ?side1 ?side2 ?side3 ?side4 A8.out).mono ?_); (case side1 => exact cS HR1_1 HB); (case side2 => exact HC1_1.out); (case side3 => exact cS HR1_2 HB); (case side4 => exact HC1_2.out); rintro e w13 ⟨rfl, hb⟩; replace BK392 := kB BK392 hb; replace BK393 := kB BK393 hb; replace HB := bS HB hb; (try clear hb)))
   go_meet
   case rel => exact ⟨_, (!t395), zF, H', ⟨by first | omega | exact Nat.le_refl _⟩, ⟨zK BK392⟩, ⟨zK BK393⟩, ⟨zB HB⟩⟩
  ·replace c7 := Bool.eq_false_iff.mpr c7
   subst c7
   have H1 : (impl_Follows.j0 k true a0_0 l0_1 l0_2 a1_0 l1_1 l1_2) = some r := by rw [if_neg (show ¬ (false = true) by decide)] at H; exact H
   clear H
   have H := H1
   clear H1
   have H' := Aside0.mk H
   clear H
   have hnb14 := NB392_393.out
   have hnc14 := NB393_392.out
   have hcz15_0 := bc0 BK392
   have hcz15_1 := bc1 BK392
   have hcz15_2 := bc2 BK392
   have hfz15_0 := bf BK392 0
   have hfz15_1 := bf BK392 1
   have hfz15_2 := bf BK392 2
   go_wp2_with (first | ((with_reducible refine gate_callee (f := 41) rfl ?_); refine goesL_ (some 8) rfl rfl Try.func41 (by kernel_rfl) rfl #[.agg #[.int .i64 a0_0, .slice A0_1 l0_1.length c0_1, .slice A0_2 l0_2.length c0_2]] rfl zG ?_; (with_reducible refine (impl_IsMachine.calls k a0_0 _ _ l0_1 _ _ l0_2 false _ ?side1 ?side2 ?side3 ?side4 A6.out).mono ?_); (case side1 => exact cS HR0_1 HB); (case side2 => exact HC0_1.out); (case side3 => exact cS HR0_2 HB); (case side4 => exact HC0_2.out); rintro e w16 ⟨rfl, hb⟩; refine ⟨_, rfl, ?_⟩; replace BK392 := kB BK392 hb; replace BK393 := kB BK393 hb; replace HB := bS HB hb; (try clear hb)))
   go_meet
   case rel => exact ⟨_, (true), zF, H', ⟨by first | omega | exact Nat.le_refl _⟩, ⟨zK BK392⟩, ⟨zK BK393⟩, ⟨zB HB⟩⟩
 case rest =>
  clear HC3
  try clear c1
  try clear c2
  try clear p2
  try clear c4
  try clear c7
  try clear c9
  try clear c14
  try clear hcz10_0
  try clear hcz10_1
  try clear hcz10_2
  try clear hcz12_0
  try clear hcz12_1
  try clear hcz12_2
  try clear hcz15_0
  try clear hcz15_1
  try clear hcz15_2
  try clear hfz10_0
  try clear hfz10_1
  try clear hfz10_2
  try clear hfz12_0
  try clear hfz12_1
  try clear hfz12_2
  try clear hfz15_0
  try clear hfz15_1
  try clear hfz15_2
  obtain ⟨kq, x14_2, rfl, HA, HJ2, BK392, BK393, HB⟩ := hcut
  cases kq with
  | zero => exact absurd HA.out (by simp [impl_Follows.j0])
  | succ kj2 =>
   have H := HA.out
   clear HA
   simp only [impl_Follows.j0] at H
   by_cases c17 : x14_2 = true
   ·subst c17
    have H1 : (some false) = some r := by rw [if_pos rfl] at H; exact H
    clear H
    have H := H1
    clear H1
    obtain rfl := Option.some.inj H
    go_wp2
    go_ret
    exact ⟨zE, zB HB⟩
   ·replace c17 := Bool.eq_false_iff.mpr c17
    subst c17
    have H1 : ((impl_FollowPairs.f kj2 a0_0 l0_1 l0_2 a1_0 l1_1 l1_2).bind fun t396 => (impl_Follows.l0 kj2 t396 (t396.length : Int) 0 a0_0 l0_1 l0_2 a1_0 l1_1 l1_2)) = some r := by rw [if_neg (show ¬ (false = true) by decide)] at H; exact H
    clear H
    have H := H1
    clear H1
    obtain ⟨t396, A18, H⟩ := bindS H
    have H' := Aside0.mk H
    clear H
    have hnb19 := NB392_393.out
    have hnc19 := NB393_392.out
    have hcz20_0 := bc0 BK392
    have hcz20_1 := bc1 BK392
    have hcz20_2 := bc2 BK392
    have hfz20_0 := bf BK392 0
    have hfz20_1 := bf BK392 1
    have hfz20_2 := bf BK392 2
    have hcz21_0 := bc0 BK393
    have hcz21_1 := bc1 BK393
    have hcz21_2 := bc2 BK393
    have hfz21_0 := bf BK393 0
    have hfz21_1 := bf BK393 1
    have hfz21_2 := bf BK393 2
    go_wp2_with (first | ((with_reducible refine gate_callee (f := 19) rfl ?_); refine goesL_ (some 17) rfl rfl Try.func19 (by kernel_rfl) rfl #[.agg #[.int .i64 a0_0, .slice A0_1 l0_1.length c0_1, .slice A0_2 l0_2.length c0_2], .agg #[.int .i64 a1_0, .slice A1_1 l1_1.length c1_1, .slice A1_2 l1_2.length c1_2]] rfl zG ?_; (with_reducible refine (impl_FollowPairs.calls kj2 a0_0 _ _ l0_1 _ _ l0_2 a1_0 _ _ l1_1 _ _ l1_2 t396 _ ?side1 ?side2 ?side3 ?side4 ?side5 ?side6 ?side7 ?side8 A18.out).mono ?_); (case side1 => exact cS HR0_1 HB); (case side2 => exact HC0_1.out); (case side3 => exact cS HR0_2 HB); (case side4 => exact HC0_2.out); (case side5 => exact cS HR1_1 HB); (case side6 => exact HC1_1.out); (case side7 => exact cS HR1_2 HB); (case side8 => exact HC1_2.out); rintro e w22 ⟨v397, rfl, ho0, hb⟩; refine ⟨_, rfl, ?_⟩; have HO398 := Aside0.mk (Kd.S_lower ho0 (below_size (zB HB))); replace BK392 := kB BK392 hb; replace BK393 := kB BK393 hb; replace HB := bS HB hb; (try clear hb); (try clear ho0); obtain ⟨Ao23, co23, eo23⟩ := Kd.S_slice HO398.out; subst eo23))
    go_loopg [19] kj2 (fun kq v19 w' => ∃ (x19_2 : Int), v19 = .int .i64 x19_2 ∧ Aside0 (impl_Follows.l0 kq t396 (t396.length : Int) x19_2 a0_0 l0_1 l0_2 a1_0 l1_1 l1_2 = some r) ∧ Aside0 (kq ≤ kj2) ∧ Aside0 (Kd.S (Kd.slice 3 (Kd.int .i64)) 38 w' w.heap.size (fun _ => True) (.slice Ao23 t396.length co23) t396) ∧ Aside0 (w'.heap[gb392]? = some (.cells #[.int .i64 a0_0, (.slice A0_1 l0_1.length c0_1), (.slice A0_2 l0_2.length c0_2)] 31 (0, 0))) ∧ Aside0 (w'.heap[gb393]? = some (.cells #[.int .i64 a1_0, (.slice A1_1 l1_1.length c1_1), (.slice A1_2 l1_2.length c1_2)] 31 (0, 0))) ∧ Aside0 (Below w.heap.size w w'))
    case atStart => exact ⟨(0), zF, H', ⟨Nat.le_refl _⟩, ⟨zS HO398⟩, ⟨zK BK392⟩, ⟨zK BK393⟩, ⟨zB HB⟩⟩
    case round =>
     clear H'
     try clear c1
     try clear c2
     try clear p2
     try clear c4
     try clear c7
     try clear c9
     try clear c14
     try clear c17
     try clear c19
     try clear hcz10_0
     try clear hcz10_1
     try clear hcz10_2
     try clear hcz12_0
     try clear hcz12_1
     try clear hcz12_2
     try clear hcz15_0
     try clear hcz15_1
     try clear hcz15_2
     try clear hcz20_0
     try clear hcz20_1
     try clear hcz20_2
     try clear hcz21_0
     try clear hcz21_1
     try clear hcz21_2
     try clear hfz10_0
     try clear hfz10_1
     try clear hfz10_2
     try clear hfz12_0
     try clear hfz12_1
     try clear hfz12_2
     try clear hfz15_0
     try clear hfz15_1
     try clear hfz15_2
     try clear hfz20_0
     try clear hfz20_1
     try clear hfz20_2
     try clear hfz21_0
     try clear hfz21_1
     try clear hfz21_2
     try clear p2
     obtain ⟨x19_2, rfl, HA, HK2, HO_17, BK392, BK393, HB⟩ := hrel
     cases gk with
     | zero => exact absurd HA.out (by simp [impl_Follows.l0])
     | succ k2 =>
      have H := HA.out
      clear HA
      simp only [impl_Follows.l0] at H
      by_cases c24 : x19_2 < (t396.length : Int)
      ·rw [if_pos c24] at H
       have c24b0 : decide (x19_2 < (t396.length : Int)) = true := decide_eq_true c24
       clear c24
       obtain ⟨c25, H⟩ := ifS H
       have c25b0 : decide (0 ≤ x19_2) = true := decide_eq_true c25
       clear c25
       obtain ⟨c26, H⟩ := ifS H
       have c26b0 : decide (x19_2 < (t396.length : Int)) = true := decide_eq_true c26
       clear c26
       obtain ⟨c27, H⟩ := ifS H
       have c27b0 : decide (0 < ((rd_L7 t396 x19_2).length : Int)) = true := decide_eq_true c27
       have c27b1 : decide (0 < (rd_L7 t396 x19_2).length) = true := decide_eq_true (by omega)
       clear c27
       obtain ⟨c28, H⟩ := ifS H
       have c28b0 : decide (1 < ((rd_L7 t396 x19_2).length : Int)) = true := decide_eq_true c28
       have c28b1 : decide (1 < (rd_L7 t396 x19_2).length) = true := decide_eq_true (by omega)
       clear c28
       obtain ⟨t402, A29, H⟩ := bindS H
       by_cases c30 : t402 = true
       ·subst c30
        have H1 : (impl_Follows.l0 k2 t396 (t396.length : Int) (wrap64 (x19_2 + 1)) a0_0 l0_1 l0_2 a1_0 l1_1 l1_2) = some r := by rw [if_pos rfl] at H; exact H
        clear H
        have H := H1
        clear H1
        have H' := Aside0.mk H
        clear H
        have p399 : 0 ≤ (x19_2 : Int) := zD
        have q399 : x19_2 < (t396.length : Int) := zD
        obtain ⟨ad399, A399_0, c399_0, e399, hx399_0, hl399_0, hi399_0⟩ := at_L7 (Kd.S_reads' HO_17.out).2.2 x19_2 p399 q399
        cases e399
        obtain ⟨ce399, hce399, hMe399, hcc399⟩ := Kd.S_get HO_17.out [] x19_2 p399 (by first | exact q399 | exact zD | (have e_ := (Kd.S_reads' HO_17.out).1; omega))
        obtain ⟨ve399_0, rfl, ge399_0⟩ := hMe399
        have hv399_0 := hcc399 0 _ rfl
        rw [Nat.add_zero, show ((Kd.slice 3 (Kd.int .i64))).sz = 1 from rfl, Nat.mul_one] at hv399_0
        replace hv399_0 := Option.some.inj (hv399_0.symm.trans hx399_0)
        rw [hv399_0] at ge399_0
        have HL399_0 := Aside0.mk (show Kd.R (Kd.int .i64) 3 _ _ _ _ (rd_L7 t396 x19_2) from ge399_0)
        clear hv399_0 ge399_0
        clear hcc399 hce399
        have HR399_0 := Aside0.mk hi399_0
        have HC399_0 := Aside0.mk hl399_0
        clear hi399_0 hl399_0
        replace p399 := eq_true p399
        replace q399 := eq_true q399
        try go_wp2
        replace HO_17 := Aside0.mk (Kd.S_drew HO_17.out)
        replace HL399_0 := Aside0.mk (Kd.R_drew HL399_0.out)
        replace BK392 := Aside0.mk (blk_drew BK392.out)
        replace BK393 := Aside0.mk (blk_drew BK393.out)
        replace HR399_0 := Aside0.mk (Kd.C_drew HR399_0.out)
        replace HB := Aside0.mk (below_drew1 HB.out)
        have p400 : 0 ≤ (0 : Int) := (by omega)
        have q400 : 0 < ((rd_L7 t396 x19_2).length : Int) := zD
        obtain ⟨ad400, e400, hx400_0⟩ := Kd.at_int (by repeat (first | (with_reducible exact HR399_0.out) | (with_reducible refine Kd.C_alloc ?_ _) | (with_reducible refine Kd.C_drewN ?_ _) | (with_reducible refine Kd.C_drew ?_) | exact HR399_0.out)) 0 p400 q400
        cases e400
        have qi400 : (0 < (rd_L7 t396 x19_2).length) = True := eq_true (by omega)
        (try rw [show ((0 : Int)).toNat = 0 from rfl] at hx400_0)
        (try rw [Addr.add_zero'] at hx400_0)
        replace p400 := eq_true p400
        replace q400 := eq_true q400
        have p401 : 0 ≤ (1 : Int) := (by omega)
        have q401 : 1 < ((rd_L7 t396 x19_2).length : Int) := zD
        obtain ⟨ad401, e401, hx401_0⟩ := Kd.at_int (by repeat (first | (with_reducible exact HR399_0.out) | (with_reducible refine Kd.C_alloc ?_ _) | (with_reducible refine Kd.C_drewN ?_ _) | (with_reducible refine Kd.C_drew ?_) | exact HR399_0.out)) 1 p401 q401
        obtain rfl : ad400 = ad401 := (by injection e401)
        (try simp only [show (1 : Int).toNat = 1 from rfl, Nat.reduceMul, Nat.reduceEqDiff, Go.Addr.add, ↓reduceIte] at hx401_0)
        have qi401 : (1 < (rd_L7 t396 x19_2).length) = True := eq_true (by omega)
        (try rw [show ((1 : Int)).toNat = 1 from rfl] at hx401_0)
        replace p401 := eq_true p401
        replace q401 := eq_true q401
        refine start_ (n := 10) (S := fun w' => w'.cell? ⟨gb392, 0, none⟩ = some (.int .i64 a0_0) ∧ w'.cell? ⟨gb392, 1, none⟩ = some (.slice A0_1 l0_1.length c0_1) ∧ w'.cell? ⟨gb392, 2, none⟩ = some (.slice A0_2 l0_2.length c0_2) ∧ w'.cell? ⟨gb393, 0, none⟩ = some (.int .i64 a1_0) ∧ w'.cell? ⟨gb393, 1, none⟩ = some (.slice A1_1 l1_1.length c1_1) ∧ w'.cell? ⟨gb393, 2, none⟩ = some (.slice A1_2 l1_2.length c1_2) ∧ w'.cell? ad400 = some (.int .i64 (rd (rd_L7 t396 x19_2) 0)) ∧ w'.cell? ⟨ad400.block, ad400.off + 1, none⟩ = some (.int .i64 (rd (rd_L7 t396 x19_2) 1))) (ds := []) (bm 10 0) (by kernel_rfl) rfl (bm0 _) ⟨bc0 BK392, bc1 BK392, bc2 BK392, bc0 BK393, bc1 BK393, bc2 BK393, hx400_0, hx401_0⟩ (fun hHeld => ?_); refine with_tabW impl_Follows.tab6 impl_Follows.bits6 (fun HT_ HW_ => ?_)
        generalize wr.drew = w31 at HO_17 HL399_0 BK392 BK393 HR399_0 HB hx400_0 hx401_0 hHeld ⊢
        refine pU 2 (some 25) (bm 10 4) HT_ rfl rfl ?_
        refine pU 3 (some 26) (bm 10 12) HT_ rfl rfl ?_
        refine pU 5 (some 28) (bm 10 44) HT_ rfl rfl ?_
        refine pU 6 (some 29) (bm 10 108) HT_ rfl rfl ?_
        refine tU 0 (some 23) (bm 10 109) HT_ HW_ rfl rfl hHeld ?_
        refine tU 1 (some 24) (bm 10 111) HT_ HW_ rfl rfl hHeld ?_
        refine tU 4 (some 27) (bm 10 127) HT_ HW_ rfl rfl hHeld ?_
        refine tU 7 (some 30) (bm 10 255) HT_ HW_ rfl rfl hHeld ?_
        refine one_ (i := 8) (N := some 31) (bm 10 511) rfl rfl (one_of HT_.out (by kernel_rfl)) (by decide) (fun K hK => ?_)
        refine goes_ Try.func56 (by kernel_rfl) rfl #[.agg #[.int .i64 a0_0, .slice A0_1 l0_1.length c0_1, .slice A0_2 l0_2.length c0_2], .agg #[.int .i64 a1_0, .slice A1_1 l1_1.length c1_1, .slice A1_2 l1_2.length c1_2], .int .i64 (rd (rd_L7 t396 x19_2) 0), .int .i64 (rd (rd_L7 t396 x19_2) 1)] (by rfl) rfl rfl zG ?_
        with_reducible refine (impl_FollowsAt.calls k2 a0_0 _ _ l0_1 _ _ l0_2 a1_0 _ _ l1_1 _ _ l1_2 (rd (rd_L7 t396 x19_2) 0) (rd (rd_L7 t396 x19_2) 1) true _ ?side1 ?side2 ?side3 ?side4 ?side5 ?side6 ?side7 ?side8 A29.out).mono ?_
        (case side1 => exact cS HR0_1 HB)
        (case side2 => exact HC0_1.out)
        (case side3 => exact cS HR0_2 HB)
        (case side4 => exact HC0_2.out)
        (case side5 => exact cS HR1_1 HB)
        (case side6 => exact HC1_1.out)
        (case side7 => exact cS HR1_2 HB)
        (case side8 => exact HC1_2.out)
        rintro e w32 ⟨rfl, hb⟩
        have HS6_ := (hb.cell (World.block_lt_of_cell? _ _ (hHeld.2.2.2.2.2.2.1))).trans (hHeld.2.2.2.2.2.2.1)
        have HS7_ := (hb.cell (World.block_lt_of_cell? _ _ (hHeld.2.2.2.2.2.2.2))).trans (hHeld.2.2.2.2.2.2.2)
        refine ⟨_, rfl, ?_⟩
        replace HO_17 := Aside0.mk (Kd.S_below (zS HO_17) hb)
        replace HL399_0 := Aside0.mk (Kd.R_below (zR HL399_0) hb)
        replace BK392 := kB BK392 hb
        replace BK393 := kB BK393 hb
        replace HR399_0 := Aside0.mk (Kd.C_below (by repeat (first | (with_reducible exact HR399_0.out) | (with_reducible refine Kd.C_alloc ?_ _) | (with_reducible refine Kd.C_drewN ?_ _) | (with_reducible refine Kd.C_drew ?_) | exact HR399_0.out)) hb)
        replace HB := bS HB hb
        (try clear hb)
        (try clear hb2)
        (try clear hk)
        (try clear hi)
        refine hK.out _ _ ⟨bc0 BK392, bc1 BK392, bc2 BK392, bc0 BK393, bc1 BK393, bc2 BK393, HS6_, HS7_⟩ (fun hHeld => ?_)
        clear hK K
        refine norm_ (a' := ?_) ?_ ?_
        rotate_left
        ·show Act.put _ (some 31) _ = _
         simp only [Act.put, List.setIfInBounds_toArray, List.set_cons_zero, List.set_cons_succ, i64_w, i32_w]
         rfl
        refine pU 9 (some 32) (bm 10 1023) HT_ rfl rfl ?_
        refine done_ (done_of HT_.out (by kernel_rfl)) ?_
        try clear hHeld
        try go_wp2
        go_roundg k2
        case measure => have := HJ2.out; have := HK2.out; omega
        case rel => exact ⟨(wrap64 (x19_2 + 1)), zF, H', ⟨by have := HJ2.out; have := HK2.out; omega⟩, ⟨zS HO_17⟩, ⟨zK BK392⟩, ⟨zK BK393⟩, ⟨zB HB⟩⟩
       ·replace c30 := Bool.eq_false_iff.mpr c30
        subst c30
        have H1 : (some false) = some r := by rw [if_neg (show ¬ (false = true) by decide)] at H; exact H
        clear H
        have H := H1
        clear H1
        obtain rfl := Option.some.inj H
        have p399 : 0 ≤ (x19_2 : Int) := zD
        have q399 : x19_2 < (t396.length : Int) := zD
        obtain ⟨ad399, A399_0, c399_0, e399, hx399_0, hl399_0, hi399_0⟩ := at_L7 (Kd.S_reads' HO_17.out).2.2 x19_2 p399 q399
        cases e399
        obtain ⟨ce399, hce399, hMe399, hcc399⟩ := Kd.S_get HO_17.out [] x19_2 p399 (by first | exact q399 | exact zD | (have e_ := (Kd.S_reads' HO_17.out).1; omega))
        obtain ⟨ve399_0, rfl, ge399_0⟩ := hMe399
        have hv399_0 := hcc399 0 _ rfl
        rw [Nat.add_zero, show ((Kd.slice 3 (Kd.int .i64))).sz = 1 from rfl, Nat.mul_one] at hv399_0
        replace hv399_0 := Option.some.inj (hv399_0.symm.trans hx399_0)
        rw [hv399_0] at ge399_0
        have HL399_0 := Aside0.mk (show Kd.R (Kd.int .i64) 3 _ _ _ _ (rd_L7 t396 x19_2) from ge399_0)
        clear hv399_0 ge399_0
        clear hcc399 hce399
        have HR399_0 := Aside0.mk hi399_0
        have HC399_0 := Aside0.mk hl399_0
        clear hi399_0 hl399_0
        replace p399 := eq_true p399
        replace q399 := eq_true q399
        try go_wp2
        replace HO_17 := Aside0.mk (Kd.S_drew HO_17.out)
        replace HL399_0 := Aside0.mk (Kd.R_drew HL399_0.out)
        replace BK392 := Aside0.mk (blk_drew BK392.out)
        replace BK393 := Aside0.mk (blk_drew BK393.out)
        replace HR399_0 := Aside0.mk (Kd.C_drew HR399_0.out)
        replace HB := Aside0.mk (below_drew1 HB.out)
        have p400 : 0 ≤ (0 : Int) := (by omega)
        have q400 : 0 < ((rd_L7 t396 x19_2).length : Int) := zD
        obtain ⟨ad400, e400, hx400_0⟩ := Kd.at_int (by repeat (first | (with_reducible exact HR399_0.out) | (with_reducible refine Kd.C_alloc ?_ _) | (with_reducible refine Kd.C_drewN ?_ _) | (with_reducible refine Kd.C_drew ?_) | exact HR399_0.out)) 0 p400 q400
        cases e400
        have qi400 : (0 < (rd_L7 t396 x19_2).length) = True := eq_true (by omega)
        (try rw [show ((0 : Int)).toNat = 0 from rfl] at hx400_0)
        (try rw [Addr.add_zero'] at hx400_0)
        replace p400 := eq_true p400
        replace q400 := eq_true q400
        have p401 : 0 ≤ (1 : Int) := (by omega)
        have q401 : 1 < ((rd_L7 t396 x19_2).length : Int) := zD
        obtain ⟨ad401, e401, hx401_0⟩ := Kd.at_int (by repeat (first | (with_reducible exact HR399_0.out) | (with_reducible refine Kd.C_alloc ?_ _) | (with_reducible refine Kd.C_drewN ?_ _) | (with_reducible refine Kd.C_drew ?_) | exact HR399_0.out)) 1 p401 q401
        obtain rfl : ad400 = ad401 := (by injection e401)
        (try simp only [show (1 : Int).toNat = 1 from rfl, Nat.reduceMul, Nat.reduceEqDiff, Go.Addr.add, ↓reduceIte] at hx401_0)
        have qi401 : (1 < (rd_L7 t396 x19_2).length) = True := eq_true (by omega)
        (try rw [show ((1 : Int)).toNat = 1 from rfl] at hx401_0)
        replace p401 := eq_true p401
        replace q401 := eq_true q401
        refine start_ (n := 10) (S := fun w' => w'.cell? ⟨gb392, 0, none⟩ = some (.int .i64 a0_0) ∧ w'.cell? ⟨gb392, 1, none⟩ = some (.slice A0_1 l0_1.length c0_1) ∧ w'.cell? ⟨gb392, 2, none⟩ = some (.slice A0_2 l0_2.length c0_2) ∧ w'.cell? ⟨gb393, 0, none⟩ = some (.int .i64 a1_0) ∧ w'.cell? ⟨gb393, 1, none⟩ = some (.slice A1_1 l1_1.length c1_1) ∧ w'.cell? ⟨gb393, 2, none⟩ = some (.slice A1_2 l1_2.length c1_2) ∧ w'.cell? ad400 = some (.int .i64 (rd (rd_L7 t396 x19_2) 0)) ∧ w'.cell? ⟨ad400.block, ad400.off + 1, none⟩ = some (.int .i64 (rd (rd_L7 t396 x19_2) 1))) (ds := []) (bm 10 0) (by kernel_rfl) rfl (bm0 _) ⟨bc0 BK392, bc1 BK392, bc2 BK392, bc0 BK393, bc1 BK393, bc2 BK393, hx400_0, hx401_0⟩ (fun hHeld => ?_); refine with_tabW impl_Follows.tab6 impl_Follows.bits6 (fun HT_ HW_ => ?_)
        generalize wr.drew = w33 at HO_17 HL399_0 BK392 BK393 HR399_0 HB hx400_0 hx401_0 hHeld ⊢
        refine pU 2 (some 25) (bm 10 4) HT_ rfl rfl ?_
        refine pU 3 (some 26) (bm 10 12) HT_ rfl rfl ?_
        refine pU 5 (some 28) (bm 10 44) HT_ rfl rfl ?_
        refine pU 6 (some 29) (bm 10 108) HT_ rfl rfl ?_
        refine tU 0 (some 23) (bm 10 109) HT_ HW_ rfl rfl hHeld ?_
        refine tU 1 (some 24) (bm 10 111) HT_ HW_ rfl rfl hHeld ?_
        refine tU 4 (some 27) (bm 10 127) HT_ HW_ rfl rfl hHeld ?_
        refine tU 7 (some 30) (bm 10 255) HT_ HW_ rfl rfl hHeld ?_
        refine one_ (i := 8) (N := some 31) (bm 10 511) rfl rfl (one_of HT_.out (by kernel_rfl)) (by decide) (fun K hK => ?_)
        refine goes_ Try.func56 (by kernel_rfl) rfl #[.agg #[.int .i64 a0_0, .slice A0_1 l0_1.length c0_1, .slice A0_2 l0_2.length c0_2], .agg #[.int .i64 a1_0, .slice A1_1 l1_1.length c1_1, .slice A1_2 l1_2.length c1_2], .int .i64 (rd (rd_L7 t396 x19_2) 0), .int .i64 (rd (rd_L7 t396 x19_2) 1)] (by rfl) rfl rfl zG ?_
        with_reducible refine (impl_FollowsAt.calls k2 a0_0 _ _ l0_1 _ _ l0_2 a1_0 _ _ l1_1 _ _ l1_2 (rd (rd_L7 t396 x19_2) 0) (rd (rd_L7 t396 x19_2) 1) false _ ?side1 ?side2 ?side3 ?side4 ?side5 ?side6 ?side7 ?side8 A29.out).mono ?_
        (case side1 => exact cS HR0_1 HB)
        (case side2 => exact HC0_1.out)
        (case side3 => exact cS HR0_2 HB)
        (case side4 => exact HC0_2.out)
        (case side5 => exact cS HR1_1 HB)
        (case side6 => exact HC1_1.out)
        (case side7 => exact cS HR1_2 HB)
        (case side8 => exact HC1_2.out)
        rintro e w34 ⟨rfl, hb⟩
        have HS6_ := (hb.cell (World.block_lt_of_cell? _ _ (hHeld.2.2.2.2.2.2.1))).trans (hHeld.2.2.2.2.2.2.1)
        have HS7_ := (hb.cell (World.block_lt_of_cell? _ _ (hHeld.2.2.2.2.2.2.2))).trans (hHeld.2.2.2.2.2.2.2)
        refine ⟨_, rfl, ?_⟩
        replace HO_17 := Aside0.mk (Kd.S_below (zS HO_17) hb)
        replace HL399_0 := Aside0.mk (Kd.R_below (zR HL399_0) hb)
        replace BK392 := kB BK392 hb
        replace BK393 := kB BK393 hb
        replace HR399_0 := Aside0.mk (Kd.C_below (by repeat (first | (with_reducible exact HR399_0.out) | (with_reducible refine Kd.C_alloc ?_ _) | (with_reducible refine Kd.C_drewN ?_ _) | (with_reducible refine Kd.C_drew ?_) | exact HR399_0.out)) hb)
        replace HB := bS HB hb
        (try clear hb)
        (try clear hb2)
        (try clear hk)
        (try clear hi)
        refine hK.out _ _ ⟨bc0 BK392, bc1 BK392, bc2 BK392, bc0 BK393, bc1 BK393, bc2 BK393, HS6_, HS7_⟩ (fun hHeld => ?_)
        clear hK K
        refine norm_ (a' := ?_) ?_ ?_
        rotate_left
        ·show Act.put _ (some 31) _ = _
         simp only [Act.put, List.setIfInBounds_toArray, List.set_cons_zero, List.set_cons_succ, i64_w, i32_w]
         rfl
        refine pU 9 (some 32) (bm 10 1023) HT_ rfl rfl ?_
        refine done_ (done_of HT_.out (by kernel_rfl)) ?_
        try clear hHeld
        try go_wp2
        go_ret
        exact ⟨zE, zB HB⟩
      ·rw [if_neg c24] at H
       have c24b0 : decide (x19_2 < (t396.length : Int)) = false := decide_eq_false c24
       clear c24
       obtain rfl := Option.some.inj H
       go_wp2
       go_ret
       exact ⟨zE, zB HB⟩

/-! ### impl_ChainFollows: function 32 -/
def impl_ChainFollows.l0 : Nat → List (S31) → Int → Option (Bool)
 | 0, _, _ => none
 | k + 1, x0, x3 => if x3 < (x0.length : Int) then (if 0 ≤ x3 then (if 0 ≤ (wrap64 (x3 - 1)) then (if (wrap64 (x3 - 1)) < (x0.length : Int) then ((impl_Follows.f k ((rd_T31 x0 x3).f0) ((rd_T31 x0 x3).f1) ((rd_T31 x0 x3).f2) ((rd_T31 x0 (wrap64 (x3 - 1))).f0) ((rd_T31 x0 (wrap64 (x3 - 1))).f1) ((rd_T31 x0 (wrap64 (x3 - 1))).f2)).bind fun t405 => (if t405 = true then (impl_ChainFollows.l0 k x0 (wrap64 (x3 + 1))) else (some false))) else (none)) else (none)) else (none)) else (if (x0.length : Int) > 0 then (if 0 < (x0.length : Int) then ((impl_IsMachine.f k ((rd_T31 x0 0).f0) ((rd_T31 x0 0).f1) ((rd_T31 x0 0).f2)).bind fun t407 => (some t407)) else (none)) else (some false))
def impl_ChainFollows.f (k : Nat) (l0 : List (S31)) : Option (Bool) := impl_ChainFollows.l0 k l0 1
theorem impl_ChainFollows.mono_l : ∀ k, (∀ y0 y1, LeO (impl_ChainFollows.l0 k y0 y1) (impl_ChainFollows.l0 (k + 1) y0 y1))
 | 0 => fun _ _ r h => by simp [impl_ChainFollows.l0] at h
 | k + 1 => by
  have ih0 := impl_ChainFollows.mono_l k
  ·intro y0 y1
   unfold impl_ChainFollows.l0
   repeat' first
   | (with_reducible exact ih0 _ _)
   | (with_reducible exact impl_Follows.mono _ _ _ _ _ _ _)
   | (with_reducible exact impl_IsMachine.mono _ _ _ _)
   | (with_reducible exact LeO.refl _)
   | (with_reducible exact LeO.none _)
   | (with_reducible refine LeO.ite ?_ ?_)
   | (with_reducible refine LeO.bind ?_ (fun _ => ?_))
   | exact ih0 _ _
   | exact impl_Follows.mono _ _ _ _ _ _ _
   | exact impl_IsMachine.mono _ _ _ _
   | exact LeO.none _
   | refine LeO.ite ?_ ?_
   | refine LeO.bind ?_ (fun _ => ?_)
theorem impl_ChainFollows.mono : ∀ a0 k, LeO (impl_ChainFollows.f k a0) (impl_ChainFollows.f (k + 1) a0) := by
 intro a0 k
 have ih0 := impl_ChainFollows.mono_l k
 unfold impl_ChainFollows.f
 repeat' first
   | (with_reducible exact ih0 _ _)
   | (with_reducible exact impl_Follows.mono _ _ _ _ _ _ _)
   | (with_reducible exact impl_IsMachine.mono _ _ _ _)
   | (with_reducible exact LeO.refl _)
   | (with_reducible exact LeO.none _)
   | (with_reducible refine LeO.ite ?_ ?_)
   | (with_reducible refine LeO.bind ?_ (fun _ => ?_))
   | exact ih0 _ _
   | exact impl_Follows.mono _ _ _ _ _ _ _
   | exact impl_IsMachine.mono _ _ _ _
   | exact LeO.none _
   | refine LeO.ite ?_ ?_
   | refine LeO.bind ?_ (fun _ => ?_)
def impl_ChainFollows.T4 : Bool × List (List Nat × List Nat) := (true, [([], []), ([], []), ([0, 1], [0, 1]), ([2], [2]), ([], []), ([], []), ([5], [5]), ([4, 6], [4, 6]), ([7], [7]), ([3, 8], [3, 8]), ([9], [9])])
def impl_ChainFollows.B4 : List Nat := [0, 0, 3, 7, 0, 0, 32, 112, 240, 511, 1023]
theorem impl_ChainFollows.tab4 : rtab .any (opsOf Try.f32 4) = impl_ChainFollows.T4 := by kernel_rfl
theorem impl_ChainFollows.bits4 : waitsOk impl_ChainFollows.T4.2 impl_ChainFollows.B4 = true := by kernel_rfl
set_option maxHeartbeats 8000000 in
set_option maxRecDepth 100000 in
theorem impl_ChainFollows.calls (k : Nat) (A0 : Option Addr) (c0 : Nat) (l0 : List (S31)) (r : Bool) (w : World) (hr0 : Kd.C k31 w A0 l0.length l0) (hc0 : l0.length ≤ c0) (h : impl_ChainFollows.f k l0 = some r) :
  Calls Try.prog 32 #[.slice A0 l0.length c0] w fun e w' => e = .returned (.bool r) ∧ Below w.heap.size w w' := by
 have hu31 := Try.underlying31
 have HR0 := Aside0.mk hr0
 have HC0 := Aside0.mk hc0
 clear hr0 hc0
 have HB := Aside0.mk (Below.refl w.heap.size w)
 have H : (impl_ChainFollows.l0 k l0 1) = some r := h
 clear h
 have H' := Aside0.mk H
 clear H
 go_enter Try.func32, Try.ntmps32
 go_wp2
 go_loopg [3] k (fun kq v3 w' => ∃ (x3_1 : Int), v3 = .int .i64 x3_1 ∧ Aside0 (impl_ChainFollows.l0 kq l0 x3_1 = some r) ∧ Aside0 (kq ≤ k) ∧ Aside0 (Below w.heap.size w w'))
 case atStart => exact ⟨(1), zF, H', ⟨Nat.le_refl _⟩, ⟨zB HB⟩⟩
 case round =>
  clear H'
  obtain ⟨x3_1, rfl, HA, HK1, HB⟩ := hrel
  cases gk with
  | zero => exact absurd HA.out (by simp [impl_ChainFollows.l0])
  | succ k1 =>
   have H := HA.out
   clear HA
   simp only [impl_ChainFollows.l0] at H
   by_cases c2 : x3_1 < (l0.length : Int)
   ·rw [if_pos c2] at H
    have c2b0 : decide (x3_1 < (l0.length : Int)) = true := decide_eq_true c2
    clear c2
    obtain ⟨c3, H⟩ := ifS H
    have c3b0 : decide (0 ≤ x3_1) = true := decide_eq_true c3
    clear c3
    obtain ⟨ji4, hji4⟩ : ∃ j_ : Int, (wrap64 (x3_1 - 1)) = j_ := ⟨_, rfl⟩
    replace H : (if 0 ≤ (ji4) then (if (ji4) < (l0.length : Int) then ((impl_Follows.f k1 ((rd_T31 l0 x3_1).f0) ((rd_T31 l0 x3_1).f1) ((rd_T31 l0 x3_1).f2) ((rd_T31 l0 (ji4)).f0) ((rd_T31 l0 (ji4)).f1) ((rd_T31 l0 (ji4)).f2)).bind fun t405 => (if t405 = true then (impl_ChainFollows.l0 k1 l0 (wrap64 (x3_1 + 1))) else (some false))) else (none)) else (none)) = some r := by first | (rw [hji4] at H; exact H) | (simp only [hji4] at H ⊢; exact H)
    have hji4w : (IntKind.i64.wrap (x3_1 - 1)) = ji4 := (i64_w _).trans hji4
    obtain ⟨c5, H⟩ := ifS H
    have c5b0 : decide (0 ≤ (ji4)) = true := decide_eq_true c5
    clear c5
    obtain ⟨c6, H⟩ := ifS H
    have c6b0 : decide ((ji4) < (l0.length : Int)) = true := decide_eq_true c6
    clear c6
    obtain ⟨t405, A7, H⟩ := bindS H
    by_cases c8 : t405 = true
    ·subst c8
     have H1 : (impl_ChainFollows.l0 k1 l0 (wrap64 (x3_1 + 1))) = some r := by rw [if_pos rfl] at H; exact H
     clear H
     have H := H1
     clear H1
     have H' := Aside0.mk H
     clear H
     try go_wp2
     replace HB := Aside0.mk (below_drew1 HB.out)
     have p403 : 0 ≤ (x3_1 : Int) := zD
     have q403 : x3_1 < (l0.length : Int) := zD
     obtain ⟨ad403, A403_1, c403_1, A403_2, c403_2, e403, hx403_0, hx403_1, hx403_2, hl403_1, hi403_1, hl403_2, hi403_2⟩ := at_T31 HR0.out x3_1 p403 q403
     have hw403_2 := hx403_2
     have hw403_1 := hx403_1
     have hw403_0 := hx403_0
     cases e403
     replace hx403_0 := hL HB hx403_0
     replace hx403_1 := hL HB hx403_1
     replace hx403_2 := hL HB hx403_2
     have HR403_1 := Aside0.mk hi403_1
     have HC403_1 := Aside0.mk hl403_1
     clear hi403_1 hl403_1
     have HR403_2 := Aside0.mk hi403_2
     have HC403_2 := Aside0.mk hl403_2
     clear hi403_2 hl403_2
     replace p403 := eq_true p403
     replace q403 := eq_true q403
     have p404 : 0 ≤ ((ji4) : Int) := zD
     have q404 : (ji4) < (l0.length : Int) := zD
     obtain ⟨ad404, A404_1, c404_1, A404_2, c404_2, e404, hx404_0, hx404_1, hx404_2, hl404_1, hi404_1, hl404_2, hi404_2⟩ := at_T31 HR0.out (ji4) p404 q404
     have hw404_2 := hx404_2
     have hw404_1 := hx404_1
     have hw404_0 := hx404_0
     obtain rfl : ad403 = ad404 := (by injection e404)
     replace hx404_0 := hL HB hx404_0
     replace hx404_1 := hL HB hx404_1
     replace hx404_2 := hL HB hx404_2
     have HR404_1 := Aside0.mk hi404_1
     have HC404_1 := Aside0.mk hl404_1
     clear hi404_1 hl404_1
     have HR404_2 := Aside0.mk hi404_2
     have HC404_2 := Aside0.mk hl404_2
     clear hi404_2 hl404_2
     replace p404 := eq_true p404
     replace q404 := eq_true q404
     refine start_ (n := 11) (S := fun w' => w'.cell? (ad403.add ((x3_1).toNat * 3)) = some (.int .i64 ((rd_T31 l0 x3_1).f0)) ∧ w'.cell? ⟨(ad403.add ((x3_1).toNat * 3)).block, (ad403.add ((x3_1).toNat * 3)).off + 1, none⟩ = some (.slice A403_1 ((rd_T31 l0 x3_1).f1).length c403_1) ∧ w'.cell? ⟨(ad403.add ((x3_1).toNat * 3)).block, (ad403.add ((x3_1).toNat * 3)).off + 2, none⟩ = some (.slice A403_2 ((rd_T31 l0 x3_1).f2).length c403_2) ∧ w'.cell? (ad403.add (((ji4)).toNat * 3)) = some (.int .i64 ((rd_T31 l0 (ji4)).f0)) ∧ w'.cell? ⟨(ad403.add (((ji4)).toNat * 3)).block, (ad403.add (((ji4)).toNat * 3)).off + 1, none⟩ = some (.slice A404_1 ((rd_T31 l0 (ji4)).f1).length c404_1) ∧ w'.cell? ⟨(ad403.add (((ji4)).toNat * 3)).block, (ad403.add (((ji4)).toNat * 3)).off + 2, none⟩ = some (.slice A404_2 ((rd_T31 l0 (ji4)).f2).length c404_2)) (ds := []) (bm 11 0) (by kernel_rfl) rfl (bm0 _) ⟨(hL HB hw403_0), (hL HB hw403_1), (hL HB hw403_2), (hL HB hw404_0), (hL HB hw404_1), (hL HB hw404_2)⟩ (fun hHeld => ?_); refine with_tabW impl_ChainFollows.tab4 impl_ChainFollows.bits4 (fun HT_ HW_ => ?_)
     generalize wr.drew = w9 at HB HR403_1 HR403_2 HR404_1 HR404_2 hx403_0 hx403_1 hx403_2 hx404_0 hx404_1 hx404_2 hHeld ⊢
     refine pU 0 (some 10) (bm 11 1) HT_ rfl rfl ?_
     refine pU 1 (some 11) (bm 11 3) HT_ rfl rfl ?_
     refine pU 2 (some 12) (bm 11 7) HT_ rfl rfl ?_
     refine pU 4 (some 14) (bm 11 23) HT_ rfl rfl ?_
     refine pU 5 (some 15) (bm 11 55) HT_ rfl rfl ?_
     refine pU 6 (some 16) (bm 11 119) HT_ rfl rfl ?_
     refine pU 7 (some 17) (bm 11 247) HT_ rfl rfl ?_
     refine tU 3 (some 13) (bm 11 255) HT_ HW_ rfl rfl hHeld ?_
     refine tU 8 (some 18) (bm 11 511) HT_ HW_ rfl rfl hHeld ?_
     refine one_ (i := 9) (N := some 19) (bm 11 1023) rfl rfl (one_of HT_.out (by kernel_rfl)) (by decide) (fun K hK => ?_)
     refine goes_ Try.func28 (by kernel_rfl) rfl #[.agg #[.int .i64 ((rd_T31 l0 x3_1).f0), .slice A403_1 ((rd_T31 l0 x3_1).f1).length c403_1, .slice A403_2 ((rd_T31 l0 x3_1).f2).length c403_2], .agg #[.int .i64 ((rd_T31 l0 (ji4)).f0), .slice A404_1 ((rd_T31 l0 (ji4)).f1).length c404_1, .slice A404_2 ((rd_T31 l0 (ji4)).f2).length c404_2]] (by rfl) rfl rfl (by (try simp only [List.map_toArray, List.map_cons, List.map_nil]); first | done | (simp only [hji4]; rfl) | rfl | (simp only [List.length_drop, List.length_take]; rfl)) ?_
     with_reducible refine (impl_Follows.calls k1 ((rd_T31 l0 x3_1).f0) _ _ ((rd_T31 l0 x3_1).f1) _ _ ((rd_T31 l0 x3_1).f2) ((rd_T31 l0 (ji4)).f0) _ _ ((rd_T31 l0 (ji4)).f1) _ _ ((rd_T31 l0 (ji4)).f2) true _ ?side1 ?side2 ?side3 ?side4 ?side5 ?side6 ?side7 ?side8 A7.out).mono ?_
     (case side1 => exact cS HR403_1 HB)
     (case side2 => exact HC403_1.out)
     (case side3 => exact cS HR403_2 HB)
     (case side4 => exact HC403_2.out)
     (case side5 => exact cS HR404_1 HB)
     (case side6 => exact HC404_1.out)
     (case side7 => exact cS HR404_2 HB)
     (case side8 => exact HC404_2.out)
     rintro e w10 ⟨rfl, hb⟩
     refine ⟨_, rfl, ?_⟩
     replace HB := bS HB hb
     (try clear hb)
     (try clear hb2)
     (try clear hk)
     (try clear hi)
     refine hK.out _ _ ⟨(hL HB hw403_0), (hL HB hw403_1), (hL HB hw403_2), (hL HB hw404_0), (hL HB hw404_1), (hL HB hw404_2)⟩ (fun hHeld => ?_)
     clear hK K
     refine norm_ (a' := ?_) ?_ ?_
     rotate_left
     ·show Act.put _ (some 19) _ = _
      simp only [Act.put, List.setIfInBounds_toArray, List.set_cons_zero, List.set_cons_succ, i64_w, i32_w]
      rfl
     refine pU 10 (some 20) (bm 11 2047) HT_ rfl rfl ?_
     refine done_ (done_of HT_.out (by kernel_rfl)) ?_
     try clear hHeld
     try go_wp2
     go_roundg k1
     case measure => have := HK1.out; omega
     case rel => exact ⟨(wrap64 (x3_1 + 1)), zF, H', ⟨by have := HK1.out; omega⟩, ⟨zB HB⟩⟩
    ·replace c8 := Bool.eq_false_iff.mpr c8
     subst c8
     have H1 : (some false) = some r := by rw [if_neg (show ¬ (false = true) by decide)] at H; exact H
     clear H
     have H := H1
     clear H1
     obtain rfl := Option.some.inj H
     try go_wp2
     replace HB := Aside0.mk (below_drew1 HB.out)
     have p403 : 0 ≤ (x3_1 : Int) := zD
     have q403 : x3_1 < (l0.length : Int) := zD
     obtain ⟨ad403, A403_1, c403_1, A403_2, c403_2, e403, hx403_0, hx403_1, hx403_2, hl403_1, hi403_1, hl403_2, hi403_2⟩ := at_T31 HR0.out x3_1 p403 q403
     have hw403_2 := hx403_2
     have hw403_1 := hx403_1
     have hw403_0 := hx403_0
     cases e403
     replace hx403_0 := hL HB hx403_0
     replace hx403_1 := hL HB hx403_1
     replace hx403_2 := hL HB hx403_2
     have HR403_1 := Aside0.mk hi403_1
     have HC403_1 := Aside0.mk hl403_1
     clear hi403_1 hl403_1
     have HR403_2 := Aside0.mk hi403_2
     have HC403_2 := Aside0.mk hl403_2
     clear hi403_2 hl403_2
     replace p403 := eq_true p403
     replace q403 := eq_true q403
     have p404 : 0 ≤ ((ji4) : Int) := zD
     have q404 : (ji4) < (l0.length : Int) := zD
     obtain ⟨ad404, A404_1, c404_1, A404_2, c404_2, e404, hx404_0, hx404_1, hx404_2, hl404_1, hi404_1, hl404_2, hi404_2⟩ := at_T31 HR0.out (ji4) p404 q404
     have hw404_2 := hx404_2
     have hw404_1 := hx404_1
     have hw404_0 := hx404_0
     obtain rfl : ad403 = ad404 := (by injection e404)
     replace hx404_0 := hL HB hx404_0
     replace hx404_1 := hL HB hx404_1
     replace hx404_2 := hL HB hx404_2
     have HR404_1 := Aside0.mk hi404_1
     have HC404_1 := Aside0.mk hl404_1
     clear hi404_1 hl404_1
     have HR404_2 := Aside0.mk hi404_2
     have HC404_2 := Aside0.mk hl404_2
     clear hi404_2 hl404_2
     replace p404 := eq_true p404
     replace q404 := eq_true q404
     refine start_ (n := 11) (S := fun w' => w'.cell? (ad403.add ((x3_1).toNat * 3)) = some (.int .i64 ((rd_T31 l0 x3_1).f0)) ∧ w'.cell? ⟨(ad403.add ((x3_1).toNat * 3)).block, (ad403.add ((x3_1).toNat * 3)).off + 1, none⟩ = some (.slice A403_1 ((rd_T31 l0 x3_1).f1).length c403_1) ∧ w'.cell? ⟨(ad403.add ((x3_1).toNat * 3)).block, (ad403.add ((x3_1).toNat * 3)).off + 2, none⟩ = some (.slice A403_2 ((rd_T31 l0 x3_1).f2).length c403_2) ∧ w'.cell? (ad403.add (((ji4)).toNat * 3)) = some (.int .i64 ((rd_T31 l0 (ji4)).f0)) ∧ w'.cell? ⟨(ad403.add (((ji4)).toNat * 3)).block, (ad403.add (((ji4)).toNat * 3)).off + 1, none⟩ = some (.slice A404_1 ((rd_T31 l0 (ji4)).f1).length c404_1) ∧ w'.cell? ⟨(ad403.add (((ji4)).toNat * 3)).block, (ad403.add (((ji4)).toNat * 3)).off + 2, none⟩ = some (.slice A404_2 ((rd_T31 l0 (ji4)).f2).length c404_2)) (ds := []) (bm 11 0) (by kernel_rfl) rfl (bm0 _) ⟨(hL HB hw403_0), (hL HB hw403_1), (hL HB hw403_2), (hL HB hw404_0), (hL HB hw404_1), (hL HB hw404_2)⟩ (fun hHeld => ?_); refine with_tabW impl_ChainFollows.tab4 impl_ChainFollows.bits4 (fun HT_ HW_ => ?_)
     generalize wr.drew = w11 at HB HR403_1 HR403_2 HR404_1 HR404_2 hx403_0 hx403_1 hx403_2 hx404_0 hx404_1 hx404_2 hHeld ⊢
     refine pU 0 (some 10) (bm 11 1) HT_ rfl rfl ?_
     refine pU 1 (some 11) (bm 11 3) HT_ rfl rfl ?_
     refine pU 2 (some 12) (bm 11 7) HT_ rfl rfl ?_
     refine pU 4 (some 14) (bm 11 23) HT_ rfl rfl ?_
     refine pU 5 (some 15) (bm 11 55) HT_ rfl rfl ?_
     refine pU 6 (some 16) (bm 11 119) HT_ rfl rfl ?_
     refine pU 7 (some 17) (bm 11 247) HT_ rfl rfl ?_
     refine tU 3 (some 13) (bm 11 255) HT_ HW_ rfl rfl hHeld ?_
     refine tU 8 (some 18) (bm 11 511) HT_ HW_ rfl rfl hHeld ?_
     refine one_ (i := 9) (N := some 19) (bm 11 1023) rfl rfl (one_of HT_.out (by kernel_rfl)) (by decide) (fun K hK => ?_)
     refine goes_ Try.func28 (by kernel_rfl) rfl #[.agg #[.int .i64 ((rd_T31 l0 x3_1).f0), .slice A403_1 ((rd_T31 l0 x3_1).f1).length c403_1, .slice A403_2 ((rd_T31 l0 x3_1).f2).length c403_2], .agg #[.int .i64 ((rd_T31 l0 (ji4)).f0), .slice A404_1 ((rd_T31 l0 (ji4)).f1).length c404_1, .slice A404_2 ((rd_T31 l0 (ji4)).f2).length c404_2]] (by rfl) rfl rfl (by (try simp only [List.map_toArray, List.map_cons, List.map_nil]); first | done | (simp only [hji4]; rfl) | rfl | (simp only [List.length_drop, List.length_take]; rfl)) ?_
     with_reducible refine (impl_Follows.calls k1 ((rd_T31 l0 x3_1).f0) _ _ ((rd_T31 l0 x3_1).f1) _ _ ((rd_T31 l0 x3_1).f2) ((rd_T31 l0 (ji4)).f0) _ _ ((rd_T31 l0 (ji4)).f1) _ _ ((rd_T31 l0 (ji4)).f2) false _ ?side1 ?side2 ?side3 ?side4 ?side5 ?side6 ?side7 ?side8 A7.out).mono ?_
     (case side1 => exact cS HR403_1 HB)
     (case side2 => exact HC403_1.out)
     (case side3 => exact cS HR403_2 HB)
     (case side4 => exact HC403_2.out)
     (case side5 => exact cS HR404_1 HB)
     (case side6 => exact HC404_1.out)
     (case side7 => exact cS HR404_2 HB)
     (case side8 => exact HC404_2.out)
     rintro e w12 ⟨rfl, hb⟩
     refine ⟨_, rfl, ?_⟩
     replace HB := bS HB hb
     (try clear hb)
     (try clear hb2)
     (try clear hk)
     (try clear hi)
     refine hK.out _ _ ⟨(hL HB hw403_0), (hL HB hw403_1), (hL HB hw403_2), (hL HB hw404_0), (hL HB hw404_1), (hL HB hw404_2)⟩ (fun hHeld => ?_)
     clear hK K
     refine norm_ (a' := ?_) ?_ ?_
     rotate_left
     ·show Act.put _ (some 19) _ = _
      simp only [Act.put, List.setIfInBounds_toArray, List.set_cons_zero, List.set_cons_succ, i64_w, i32_w]
      rfl
     refine pU 10 (some 20) (bm 11 2047) HT_ rfl rfl ?_
     refine done_ (done_of HT_.out (by kernel_rfl)) ?_
     try clear hHeld
     try go_wp2
     go_ret
     exact ⟨by first | rfl | (simp [errW_none, errW_some] <;> rfl) | (simp only [← hji4]; first | rfl | (simp [errW_none, errW_some] <;> rfl)) | (simp [*, errW_none, errW_some] <;> rfl), zB HB⟩
   ·rw [if_neg c2] at H
    have c2b0 : decide (x3_1 < (l0.length : Int)) = false := decide_eq_false c2
    clear c2
    by_cases c13 : (l0.length : Int) > 0
    ·rw [if_pos c13] at H
     have c13b0 : decide (0 < (l0.length : Int)) = true := decide_eq_true c13
     have c13b1 : decide (0 < l0.length) = true := decide_eq_true (by omega)
     clear c13
     obtain ⟨c14, H⟩ := ifS H
     have c14b0 : decide (0 < (l0.length : Int)) = true := decide_eq_true c14
     have c14b1 : decide (0 < l0.length) = true := decide_eq_true (by omega)
     clear c14
     obtain ⟨t407, A15, H⟩ := bindS H
     obtain rfl := Option.some.inj H
     have p406 : 0 ≤ (0 : Int) := (by omega)
     have q406 : 0 < (l0.length : Int) := zD
     obtain ⟨ad406, A406_1, c406_1, A406_2, c406_2, e406, hx406_0, hx406_1, hx406_2, hl406_1, hi406_1, hl406_2, hi406_2⟩ := at_T31 HR0.out 0 p406 q406
     cases e406
     have qi406 : (0 < l0.length) = True := eq_true (by omega)
     (try rw [show ((0 : Int)).toNat = 0 from rfl] at hx406_0)
     (try rw [show 0 * 3 = 0 from rfl] at hx406_0)
     (try rw [Addr.add_zero'] at hx406_0)
     (try rw [show ((0 : Int)).toNat = 0 from rfl] at hx406_1)
     (try rw [show 0 * 3 = 0 from rfl] at hx406_1)
     (try rw [Addr.add_zero'] at hx406_1)
     (try rw [show ((0 : Int)).toNat = 0 from rfl] at hx406_2)
     (try rw [show 0 * 3 = 0 from rfl] at hx406_2)
     (try rw [Addr.add_zero'] at hx406_2)
     replace hx406_0 := hL HB hx406_0
     replace hx406_1 := hL HB hx406_1
     replace hx406_2 := hL HB hx406_2
     have HR406_1 := Aside0.mk hi406_1
     have HC406_1 := Aside0.mk hl406_1
     clear hi406_1 hl406_1
     have HR406_2 := Aside0.mk hi406_2
     have HC406_2 := Aside0.mk hl406_2
     clear hi406_2 hl406_2
     replace p406 := eq_true p406
     replace q406 := eq_true q406
     go_wp2_with (first | (go_at_call 41; (with_reducible refine (impl_IsMachine.calls k1 ((rd_T31 l0 0).f0) _ _ ((rd_T31 l0 0).f1) _ _ ((rd_T31 l0 0).f2) t407 _ ?side1 ?side2 ?side3 ?side4 A15.out).mono ?_); (case side1 => exact cS HR406_1 HB); (case side2 => exact HC406_1.out); (case side3 => exact cS HR406_2 HB); (case side4 => exact HC406_2.out); rintro e w16 ⟨rfl, hb⟩; replace HB := bS HB hb; (try clear hb)))
     go_ret
     exact ⟨zE, zB HB⟩
    ·rw [if_neg c13] at H
     have c13b0 : decide (0 < (l0.length : Int)) = false := decide_eq_false c13
     have c13b1 : decide (0 < l0.length) = false := decide_eq_false (by omega)
     clear c13
     obtain rfl := Option.some.inj H
     go_wp2
     go_ret
     exact ⟨zE, zB HB⟩

end Go.Proofs.Ytmenijbpglknbaa.PFnExactChainFollows
