-- WRITTEN by pp.py, this session's own wrapper around the print; not trusted: Lean checks it
import Derived.Test.YtmenijbpglknbaaPFnExactFirstTroublex0
import Derived.Test.YtmenijbpglknbaaPFnExactFirstTroublex4
import Derived.Test.YtmenijbpglknbaaPFnExactFirstTroublex5
namespace Go.Proofs.Ytmenijbpglknbaa.PFnExactFirstTrouble
open Go.RowKit Go.Proofs.Ytmenijbpglknbaa.Hw Go.Proofs.YtmenijbpglknbaaW.PrintWords Go.Proofs.YtmenijbpglknbaaW.PrintLast Go.Proofs.YtmenijbpglknbaaW.PrintMore
attribute [local go_sem] max2_int min2_int max_two min_two max_three min_three max_four min_four   -- for this text's walks alone
set_option linter.unusedVariables false
set_option linter.unusedSimpArgs false
set_option linter.unusedSectionVars false

/-! ### spec_l14Unread: function 68 -/
def spec_l14Unread.l0 : Nat → Int → List Int → Int → Int → List Bool → List (S64) → Option (Bool)
 | 0, _, _, _, _, _, _ => none
 | k + 1, x3, x9, x10, x284000, x284001, x284002 => if x10 < (x9.length : Int) then (if 0 ≤ x10 then ((spec_MoveOf.f k x284000 x284001 x284002 x3 false (rd x9 x10)).bind fun t288 => (if t288 < 0 then (some true) else (spec_l14Unread.l0 k x3 x9 (wrap64 (x10 + 1)) x284000 x284001 x284002))) else (none)) else (some false)
def spec_l14Unread.f (k : Nat) (a0_0 : Int) (l0_1 : List Bool) (l0_2 : List (S64)) (a1_0 : Int) (l1_1 : List Bool) (l1_2 : List (S64)) (a2 : Int) (a3 : Int) : Option (Bool) := (spec_MovesFrom.f k a0_0 l0_1 l0_2 a2 true).bind fun t284 => (spec_l14Unread.l0 k a3 t284 0 a1_0 l1_1 l1_2)
theorem spec_l14Unread.mono_l : ∀ k, (∀ y0 y1 y2 y3 y4 y5, LeO (spec_l14Unread.l0 k y0 y1 y2 y3 y4 y5) (spec_l14Unread.l0 (k + 1) y0 y1 y2 y3 y4 y5))
 | 0 => fun _ _ _ _ _ _ r h => by simp [spec_l14Unread.l0] at h
 | k + 1 => by
  have ih0 := spec_l14Unread.mono_l k
  ·intro y0 y1 y2 y3 y4 y5
   unfold spec_l14Unread.l0
   repeat' first
   | (with_reducible exact ih0 _ _ _ _ _ _)
   | (with_reducible exact spec_MoveOf.mono _ _ _ _ _ _ _)
   | (with_reducible exact spec_MovesFrom.mono _ _ _ _ _ _)
   | (with_reducible exact LeO.refl _)
   | (with_reducible exact LeO.none _)
   | (with_reducible refine LeO.ite ?_ ?_)
   | (with_reducible refine LeO.bind ?_ (fun _ => ?_))
   | exact ih0 _ _ _ _ _ _
   | exact spec_MoveOf.mono _ _ _ _ _ _ _
   | exact spec_MovesFrom.mono _ _ _ _ _ _
   | exact LeO.none _
   | refine LeO.ite ?_ ?_
   | refine LeO.bind ?_ (fun _ => ?_)
theorem spec_l14Unread.mono : ∀ a0 a1 a2 a3 a4 a5 a6 a7 k, LeO (spec_l14Unread.f k a0 a1 a2 a3 a4 a5 a6 a7) (spec_l14Unread.f (k + 1) a0 a1 a2 a3 a4 a5 a6 a7) := by
 intro a0 a1 a2 a3 a4 a5 a6 a7 k
 have ih0 := spec_l14Unread.mono_l k
 unfold spec_l14Unread.f
 repeat' first
   | (with_reducible exact ih0 _ _ _ _ _ _)
   | (with_reducible exact spec_MoveOf.mono _ _ _ _ _ _ _)
   | (with_reducible exact spec_MovesFrom.mono _ _ _ _ _ _)
   | (with_reducible exact LeO.refl _)
   | (with_reducible exact LeO.none _)
   | (with_reducible refine LeO.ite ?_ ?_)
   | (with_reducible refine LeO.bind ?_ (fun _ => ?_))
   | exact ih0 _ _ _ _ _ _
   | exact spec_MoveOf.mono _ _ _ _ _ _ _
   | exact spec_MovesFrom.mono _ _ _ _ _ _
   | exact LeO.none _
   | refine LeO.ite ?_ ?_
   | refine LeO.bind ?_ (fun _ => ?_)
def spec_l14Unread.T5 : Bool × List (List Nat × List Nat) := (true, [([], []), ([], []), ([], []), ([], []), ([2, 3], [2, 3]), ([4], [4]), ([0, 1, 5], [0, 1, 5]), ([6], [6])])
def spec_l14Unread.B5 : List Nat := [0, 0, 0, 0, 12, 28, 63, 127]
theorem spec_l14Unread.tab5 : rtab .any (opsOf Try.f68 5) = spec_l14Unread.T5 := by kernel_rfl
theorem spec_l14Unread.bits5 : waitsOk spec_l14Unread.T5.2 spec_l14Unread.B5 = true := by kernel_rfl
set_option maxHeartbeats 8000000 in
set_option maxRecDepth 100000 in
theorem spec_l14Unread.calls (k : Nat) (a0_0 : Int) (A0_1 : Option Addr) (c0_1 : Nat) (l0_1 : List Bool) (A0_2 : Option Addr) (c0_2 : Nat) (l0_2 : List (S64)) (a1_0 : Int) (A1_1 : Option Addr) (c1_1 : Nat) (l1_1 : List Bool) (A1_2 : Option Addr) (c1_2 : Nat) (l1_2 : List (S64)) (a2 : Int) (a3 : Int) (r : Bool) (w : World) (hr0_1 : Kd.C Kd.bool w A0_1 l0_1.length l0_1) (hc0_1 : l0_1.length ≤ c0_1) (hr0_2 : Kd.C k64 w A0_2 l0_2.length l0_2) (hc0_2 : l0_2.length ≤ c0_2) (hr1_1 : Kd.C Kd.bool w A1_1 l1_1.length l1_1) (hc1_1 : l1_1.length ≤ c1_1) (hr1_2 : Kd.C k64 w A1_2 l1_2.length l1_2) (hc1_2 : l1_2.length ≤ c1_2) (h : spec_l14Unread.f k a0_0 l0_1 l0_2 a1_0 l1_1 l1_2 a2 a3 = some r) :
  Calls Try.prog 68 #[.agg #[.int .i64 a0_0, .slice A0_1 l0_1.length c0_1, .slice A0_2 l0_2.length c0_2], .agg #[.int .i64 a1_0, .slice A1_1 l1_1.length c1_1, .slice A1_2 l1_2.length c1_2], .int .i64 a2, .int .i64 a3] w fun e w' => e = .returned (.bool r) ∧ Below w.heap.size w w' := by
 have hu31 := Try.underlying31
 have HR0_1 := Aside0.mk hr0_1
 have HC0_1 := Aside0.mk hc0_1
 clear hr0_1 hc0_1
 have HR0_2 := Aside0.mk hr0_2
 have HC0_2 := Aside0.mk hc0_2
 clear hr0_2 hc0_2
 have HR1_1 := Aside0.mk hr1_1
 have HC1_1 := Aside0.mk hc1_1
 clear hr1_1 hc1_1
 have HR1_2 := Aside0.mk hr1_2
 have HC1_2 := Aside0.mk hc1_2
 clear hr1_2 hc1_2
 have HB := Aside0.mk (Below.refl w.heap.size w)
 have H : ((spec_MovesFrom.f k a0_0 l0_1 l0_2 a2 true).bind fun t284 => (spec_l14Unread.l0 k a3 t284 0 a1_0 l1_1 l1_2)) = some r := h
 clear h
 obtain ⟨t284, A5, H⟩ := bindS H
 have H' := Aside0.mk H
 clear H
 go_enter Try.func68, Try.ntmps68
 go_wp2_with (first | ((with_reducible refine gate_dst (N := 4) rfl ?_); refine box_event ?hg (N := 4) ?hd (cs := #[.int .i64 a0_0, .slice A0_1 l0_1.length c0_1, .slice A0_2 l0_2.length c0_2]) (t := 31) ?hr ?_; (case hd => rfl); (case hg => rfl); (case hr => first | (go_simp; done) | (go_simp; rfl)); intro gb282 hg w6 hbox hb; have BK282 := Aside0.mk (hbox); have GW282 := gS HB hg; have GE282 := gS HB hg; replace HB := bS HB hb; clear hb hbox hg) | ((with_reducible refine gate_dst (N := 5) rfl ?_); refine box_event ?hg (N := 5) ?hd (cs := #[.int .i64 a1_0, .slice A1_1 l1_1.length c1_1, .slice A1_2 l1_2.length c1_2]) (t := 31) ?hr ?_; (case hd => rfl); (case hg => rfl); (case hr => first | (go_simp; done) | (go_simp; rfl)); intro gb283 hg w7 hbox hb; have BK283 := Aside0.mk (hbox); have GW283 := gS HB hg; have GE283 := gS HB hg; replace HB := bS HB hb; have NB282_283 := nL BK282 hg; have NB283_282 := nR BK282 hg; replace BK282 := kB BK282 hb; clear hb hbox hg; have hnb8 := NB282_283.out; have hnc8 := NB283_282.out; have hcz9_0 := bc0 BK282; have hcz9_1 := bc1 BK282; have hcz9_2 := bc2 BK282; have hfz9_0 := bf BK282 0; have hfz9_1 := bf BK282 1; have hfz9_2 := bf BK282 2) | ((with_reducible refine gate_callee (f := 49) rfl ?_); refine goesL_ (some 13) rfl rfl Try.func49 (by kernel_rfl) rfl #[.agg #[.int .i64 a0_0, .slice A0_1 l0_1.length c0_1, .slice A0_2 l0_2.length c0_2], .int .i64 a2, .bool true] rfl zG ?_; (with_reducible refine (spec_MovesFrom.calls k a0_0 _ _ l0_1 _ _ l0_2 a2 true t284 _ ?side1 ?side2 ?side3 ?side4 A5.out).mono ?_); (case side1 => exact cS HR0_1 HB); (case side2 => exact HC0_1.out); (case side3 => exact cS HR0_2 HB); (case side4 => exact HC0_2.out); rintro e w10 ⟨v285, rfl, ho0, hb⟩; refine ⟨_, rfl, ?_⟩; have HO286 := Aside0.mk (Kd.R_lower ho0 (below_size (zB HB))); replace BK282 := kB BK282 hb; replace BK283 := kB BK283 hb; replace HB := bS HB hb; (try clear hb); (try clear ho0)))
 go_loopg [10] k (fun kq v10 w' => ∃ (x10_1 : Int), v10 = .int .i64 x10_1 ∧ Aside0 (spec_l14Unread.l0 kq a3 t284 x10_1 a1_0 l1_1 l1_2 = some r) ∧ Aside0 (kq ≤ k) ∧ Aside0 (Kd.R (Kd.int .i64) 3 w' w.heap.size (fun _ => True) v285 t284) ∧ Aside0 (w'.heap[gb282]? = some (.cells #[.int .i64 a0_0, (.slice A0_1 l0_1.length c0_1), (.slice A0_2 l0_2.length c0_2)] 31 (0, 0))) ∧ Aside0 (w'.heap[gb283]? = some (.cells #[.int .i64 a1_0, (.slice A1_1 l1_1.length c1_1), (.slice A1_2 l1_2.length c1_2)] 31 (0, 0))) ∧ Aside0 (Below w.heap.size w w'))
 case atStart => exact ⟨(0), zF, H', ⟨Nat.le_refl _⟩, ⟨zR HO286⟩, ⟨zK BK282⟩, ⟨zK BK283⟩, ⟨zB HB⟩⟩
 case round =>
  clear H'
  try clear c1
  try clear p2
  try clear c4
  try clear c6
  try clear c8
  try clear hcz9_0
  try clear hcz9_1
  try clear hcz9_2
  try clear hfz9_0
  try clear hfz9_1
  try clear hfz9_2
  obtain ⟨x10_1, rfl, HA, HK1, HO_9, BK282, BK283, HB⟩ := hrel
  cases gk with
  | zero => exact absurd HA.out (by simp [spec_l14Unread.l0])
  | succ k1 =>
   have H := HA.out
   clear HA
   simp only [spec_l14Unread.l0] at H
   by_cases c11 : x10_1 < (t284.length : Int)
   ·rw [if_pos c11] at H
    have c11b0 : decide (x10_1 < (t284.length : Int)) = true := decide_eq_true c11
    clear c11
    obtain ⟨c12, H⟩ := ifS H
    have c12b0 : decide (0 ≤ x10_1) = true := decide_eq_true c12
    clear c12
    obtain ⟨t288, A13, H⟩ := bindS H
    by_cases c14 : t288 < 0
    ·rw [if_pos c14] at H
     have c14b0 : decide (t288 < 0) = true := decide_eq_true c14
     clear c14
     obtain rfl := Option.some.inj H
     obtain ⟨Ao15, co15, eo15⟩ := Kd.R_slice HO_9.out
     subst eo15
     try go_wp2
     replace HO_9 := Aside0.mk (Kd.R_drew HO_9.out)
     replace BK282 := Aside0.mk (blk_drew BK282.out)
     replace BK283 := Aside0.mk (blk_drew BK283.out)
     replace HB := Aside0.mk (below_drew1 HB.out)
     have p287 : 0 ≤ (x10_1 : Int) := zD
     have q287 : x10_1 < (t284.length : Int) := zD
     obtain ⟨ad287, e287, hx287_0⟩ := Kd.at_int (Kd.R_reads' HO_9.out).2.2 x10_1 p287 q287
     cases e287
     replace p287 := eq_true p287
     replace q287 := eq_true q287
     refine start_ (n := 8) (S := fun w' => w'.cell? ⟨gb283, 0, none⟩ = some (.int .i64 a1_0) ∧ w'.cell? ⟨gb283, 1, none⟩ = some (.slice A1_1 l1_1.length c1_1) ∧ w'.cell? ⟨gb283, 2, none⟩ = some (.slice A1_2 l1_2.length c1_2) ∧ w'.cell? (ad287.add (x10_1).toNat) = some (.int .i64 (rd t284 x10_1))) (ds := []) (bm 8 0) (by kernel_rfl) rfl (bm0 _) ⟨bc0 BK283, bc1 BK283, bc2 BK283, hx287_0⟩ (fun hHeld => ?_); refine with_tabW spec_l14Unread.tab5 spec_l14Unread.bits5 (fun HT_ HW_ => ?_)
     generalize wr.drew = w16 at HO_9 BK282 BK283 HB hx287_0 hHeld ⊢
     refine pU 1 (some 21) (bm 8 2) HT_ rfl rfl ?_
     refine pU 2 (some 22) (bm 8 6) HT_ rfl rfl ?_
     refine pU 3 (some 23) (bm 8 14) HT_ rfl rfl ?_
     refine pU 4 (some 24) (bm 8 30) HT_ rfl rfl ?_
     refine tU 0 (some 20) (bm 8 31) HT_ HW_ rfl rfl hHeld ?_
     refine tU 5 (some 25) (bm 8 63) HT_ HW_ rfl rfl hHeld ?_
     refine one_ (i := 6) (N := some 26) (bm 8 127) rfl rfl (one_of HT_.out (by kernel_rfl)) (by decide) (fun K hK => ?_)
     refine goes_ Try.func50 (by kernel_rfl) rfl #[.agg #[.int .i64 a1_0, .slice A1_1 l1_1.length c1_1, .slice A1_2 l1_2.length c1_2], .int .i64 a3, .bool false, .int .i64 (rd t284 x10_1)] (by rfl) rfl rfl zG ?_
     with_reducible refine (spec_MoveOf.calls k1 a1_0 _ _ l1_1 _ _ l1_2 a3 false (rd t284 x10_1) t288 _ ?side1 ?side2 ?side3 ?side4 A13.out).mono ?_
     (case side1 => exact cS HR1_1 HB)
     (case side2 => exact HC1_1.out)
     (case side3 => exact cS HR1_2 HB)
     (case side4 => exact HC1_2.out)
     rintro e w17 ⟨rfl, hb⟩
     have HS3_ := (hb.cell (World.block_lt_of_cell? _ _ (hHeld.2.2.2))).trans (hHeld.2.2.2)
     refine ⟨_, rfl, ?_⟩
     replace HO_9 := Aside0.mk (Kd.R_below (zR HO_9) hb)
     replace BK282 := kB BK282 hb
     replace BK283 := kB BK283 hb
     replace HB := bS HB hb
     (try clear hb)
     (try clear hb2)
     (try clear hk)
     (try clear hi)
     refine hK.out _ _ ⟨bc0 BK283, bc1 BK283, bc2 BK283, HS3_⟩ (fun hHeld => ?_)
     clear hK K
     refine norm_ (a' := ?_) ?_ ?_
     rotate_left
     ·show Act.put _ (some 26) _ = _
      simp only [Act.put, List.setIfInBounds_toArray, List.set_cons_zero, List.set_cons_succ, i64_w, i32_w]
      rfl
     refine pU 7 (some 27) (bm 8 255) HT_ rfl rfl ?_
     refine done_ (done_of HT_.out (by kernel_rfl)) ?_
     try clear hHeld
     try go_wp2
     go_ret
     exact ⟨zE, zB HB⟩
    ·rw [if_neg c14] at H
     have c14b0 : decide (t288 < 0) = false := decide_eq_false c14
     clear c14
     have H' := Aside0.mk H
     clear H
     obtain ⟨Ao18, co18, eo18⟩ := Kd.R_slice HO_9.out
     subst eo18
     try go_wp2
     replace HO_9 := Aside0.mk (Kd.R_drew HO_9.out)
     replace BK282 := Aside0.mk (blk_drew BK282.out)
     replace BK283 := Aside0.mk (blk_drew BK283.out)
     replace HB := Aside0.mk (below_drew1 HB.out)
     have p287 : 0 ≤ (x10_1 : Int) := zD
     have q287 : x10_1 < (t284.length : Int) := zD
     obtain ⟨ad287, e287, hx287_0⟩ := Kd.at_int (Kd.R_reads' HO_9.out).2.2 x10_1 p287 q287
     cases e287
     replace p287 := eq_true p287
     replace q287 := eq_true q287
     refine start_ (n := 8) (S := fun w' => w'.cell? ⟨gb283, 0, none⟩ = some (.int .i64 a1_0) ∧ w'.cell? ⟨gb283, 1, none⟩ = some (.slice A1_1 l1_1.length c1_1) ∧ w'.cell? ⟨gb283, 2, none⟩ = some (.slice A1_2 l1_2.length c1_2) ∧ w'.cell? (ad287.add (x10_1).toNat) = some (.int .i64 (rd t284 x10_1))) (ds := []) (bm 8 0) (by kernel_rfl) rfl (bm0 _) ⟨bc0 BK283, bc1 BK283, bc2 BK283, hx287_0⟩ (fun hHeld => ?_); refine with_tabW spec_l14Unread.tab5 spec_l14Unread.bits5 (fun HT_ HW_ => ?_)
     generalize wr.drew = w19 at HO_9 BK282 BK283 HB hx287_0 hHeld ⊢
     refine pU 1 (some 21) (bm 8 2) HT_ rfl rfl ?_
     refine pU 2 (some 22) (bm 8 6) HT_ rfl rfl ?_
     refine pU 3 (some 23) (bm 8 14) HT_ rfl rfl ?_
     refine pU 4 (some 24) (bm 8 30) HT_ rfl rfl ?_
     refine tU 0 (some 20) (bm 8 31) HT_ HW_ rfl rfl hHeld ?_
     refine tU 5 (some 25) (bm 8 63) HT_ HW_ rfl rfl hHeld ?_
     refine one_ (i := 6) (N := some 26) (bm 8 127) rfl rfl (one_of HT_.out (by kernel_rfl)) (by decide) (fun K hK => ?_)
     refine goes_ Try.func50 (by kernel_rfl) rfl #[.agg #[.int .i64 a1_0, .slice A1_1 l1_1.length c1_1, .slice A1_2 l1_2.length c1_2], .int .i64 a3, .bool false, .int .i64 (rd t284 x10_1)] (by rfl) rfl rfl zG ?_
     with_reducible refine (spec_MoveOf.calls k1 a1_0 _ _ l1_1 _ _ l1_2 a3 false (rd t284 x10_1) t288 _ ?side1 ?side2 ?side3 ?side4 A13.out).mono ?_
     (case side1 => exact cS HR1_1 HB)
     (case side2 => exact HC1_1.out)
     (case side3 => exact cS HR1_2 HB)
     (case side4 => exact HC1_2.out)
     rintro e w20 ⟨rfl, hb⟩
     have HS3_ := (hb.cell (World.block_lt_of_cell? _ _ (hHeld.2.2.2))).trans (hHeld.2.2.2)
     refine ⟨_, rfl, ?_⟩
     replace HO_9 := Aside0.mk (Kd.R_below (zR HO_9) hb)
     replace BK282 := kB BK282 hb
     replace BK283 := kB BK283 hb
     replace HB := bS HB hb
     (try clear hb)
     (try clear hb2)
     (try clear hk)
     (try clear hi)
     refine hK.out _ _ ⟨bc0 BK283, bc1 BK283, bc2 BK283, HS3_⟩ (fun hHeld => ?_)
     clear hK K
     refine norm_ (a' := ?_) ?_ ?_
     rotate_left
     ·show Act.put _ (some 26) _ = _
      simp only [Act.put, List.setIfInBounds_toArray, List.set_cons_zero, List.set_cons_succ, i64_w, i32_w]
      rfl
     refine pU 7 (some 27) (bm 8 255) HT_ rfl rfl ?_
     refine done_ (done_of HT_.out (by kernel_rfl)) ?_
     try clear hHeld
     try go_wp2
     go_roundg k1
     case measure => have := HK1.out; omega
     case rel => exact ⟨(wrap64 (x10_1 + 1)), zF, H', ⟨by have := HK1.out; omega⟩, ⟨zR HO_9⟩, ⟨zK BK282⟩, ⟨zK BK283⟩, ⟨zB HB⟩⟩
   ·rw [if_neg c11] at H
    have c11b0 : decide (x10_1 < (t284.length : Int)) = false := decide_eq_false c11
    clear c11
    obtain rfl := Option.some.inj H
    obtain ⟨Ao21, co21, eo21⟩ := Kd.R_slice HO_9.out
    subst eo21
    go_wp2
    go_ret
    exact ⟨zE, zB HB⟩

/-! ### spec_l14End: function 69 -/
def spec_l14End.f (a0_0 : Int) (l0_1 : List Bool) (l0_2 : List (S64)) (a1 : Int) : Option (Bool) := (spec_l1In.f a1 0 (wrap64 ((l0_1.length : Int) - 1))).bind fun t290 => (if t290 = true then (if 0 ≤ a1 then (if a1 < (l0_1.length : Int) then (some (rdOf false l0_1 a1)) else (none)) else (none)) else (some false))
set_option maxHeartbeats 8000000 in
set_option maxRecDepth 100000 in
theorem spec_l14End.calls (a0_0 : Int) (A0_1 : Option Addr) (c0_1 : Nat) (l0_1 : List Bool) (A0_2 : Option Addr) (c0_2 : Nat) (l0_2 : List (S64)) (a1 : Int) (r : Bool) (w : World) (hr0_1 : Kd.C Kd.bool w A0_1 l0_1.length l0_1) (hc0_1 : l0_1.length ≤ c0_1) (hr0_2 : Kd.C k64 w A0_2 l0_2.length l0_2) (hc0_2 : l0_2.length ≤ c0_2) (h : spec_l14End.f a0_0 l0_1 l0_2 a1 = some r) :
  Calls Try.prog 69 #[.agg #[.int .i64 a0_0, .slice A0_1 l0_1.length c0_1, .slice A0_2 l0_2.length c0_2], .int .i64 a1] w fun e w' => e = .returned (.bool r) ∧ Below w.heap.size w w' := by
 have hu31 := Try.underlying31
 have HR0_1 := Aside0.mk hr0_1
 have HC0_1 := Aside0.mk hc0_1
 clear hr0_1 hc0_1
 have HR0_2 := Aside0.mk hr0_2
 have HC0_2 := Aside0.mk hc0_2
 clear hr0_2 hc0_2
 have HB := Aside0.mk (Below.refl w.heap.size w)
 have H : ((spec_l1In.f a1 0 (wrap64 ((l0_1.length : Int) - 1))).bind fun t290 => (if t290 = true then (if 0 ≤ a1 then (if a1 < (l0_1.length : Int) then (some (rdOf false l0_1 a1)) else (none)) else (none)) else (some false))) = some r := h
 clear h
 obtain ⟨t290, A3, H⟩ := bindS H
 by_cases c4 : t290 = true
 ·subst c4
  have H1 : (if 0 ≤ a1 then (if a1 < (l0_1.length : Int) then (some (rdOf false l0_1 a1)) else (none)) else (none)) = some r := by rw [if_pos rfl] at H; exact H
  clear H
  have H := H1
  clear H1
  obtain ⟨c5, H⟩ := ifS H
  have c5b0 : decide (0 ≤ a1) = true := decide_eq_true c5
  clear c5
  obtain ⟨c6, H⟩ := ifS H
  have c6b0 : decide (a1 < (l0_1.length : Int)) = true := decide_eq_true c6
  clear c6
  obtain rfl := Option.some.inj H
  go_enter Try.func69, Try.ntmps69
  go_wp2_with (first | ((with_reducible refine gate_dst (N := 2) rfl ?_); refine box_event ?hg (N := 2) ?hd (cs := #[.int .i64 a0_0, .slice A0_1 l0_1.length c0_1, .slice A0_2 l0_2.length c0_2]) (t := 31) ?hr ?_; (case hd => rfl); (case hg => rfl); (case hr => first | (go_simp; done) | (go_simp; rfl)); intro gb289 hg w7 hbox hb; have BK289 := Aside0.mk (hbox); have GW289 := gS HB hg; have GE289 := gS HB hg; replace HB := bS HB hb; clear hb hbox hg; have hcz8_0 := bc0 BK289; have hcz8_1 := bc1 BK289; have hcz8_2 := bc2 BK289; have hfz8_0 := bf BK289 0; have hfz8_1 := bf BK289 1; have hfz8_2 := bf BK289 2) | ((with_reducible refine gate_callee (f := 57) rfl ?_); refine goesL_ (some 10) rfl rfl Try.func57 (by kernel_rfl) rfl #[.int .i64 a1, .int .i64 0, .int .i64 (wrap64 ((l0_1.length : Int) - 1))] rfl zG ?_; (with_reducible refine (spec_l1In.calls a1 0 (wrap64 ((l0_1.length : Int) - 1)) true _ A3.out).mono ?_); rintro e w' ⟨rfl, ⟨nd, rfl⟩⟩; refine ⟨_, rfl, ?_⟩; have p291 : 0 ≤ (a1 : Int) := zD; have q291 : a1 < (l0_1.length : Int) := zD; obtain ⟨ad291, e291, hx291_0⟩ := Kd.at_bool HR0_1.out a1 p291 q291; cases e291; replace hx291_0 := hL HB hx291_0; replace p291 := eq_true p291; replace q291 := eq_true q291))
  go_ret
  exact ⟨zE, zB HB⟩
 ·replace c4 := Bool.eq_false_iff.mpr c4
  subst c4
  have H1 : (some false) = some r := by rw [if_neg (show ¬ (false = true) by decide)] at H; exact H
  clear H
  have H := H1
  clear H1
  obtain rfl := Option.some.inj H
  go_enter Try.func69, Try.ntmps69
  go_wp2_with (first | ((with_reducible refine gate_dst (N := 2) rfl ?_); refine box_event ?hg (N := 2) ?hd (cs := #[.int .i64 a0_0, .slice A0_1 l0_1.length c0_1, .slice A0_2 l0_2.length c0_2]) (t := 31) ?hr ?_; (case hd => rfl); (case hg => rfl); (case hr => first | (go_simp; done) | (go_simp; rfl)); intro gb289 hg w9 hbox hb; have BK289 := Aside0.mk (hbox); have GW289 := gS HB hg; have GE289 := gS HB hg; replace HB := bS HB hb; clear hb hbox hg; have hcz10_0 := bc0 BK289; have hcz10_1 := bc1 BK289; have hcz10_2 := bc2 BK289; have hfz10_0 := bf BK289 0; have hfz10_1 := bf BK289 1; have hfz10_2 := bf BK289 2) | ((with_reducible refine gate_callee (f := 57) rfl ?_); refine goesL_ (some 10) rfl rfl Try.func57 (by kernel_rfl) rfl #[.int .i64 a1, .int .i64 0, .int .i64 (wrap64 ((l0_1.length : Int) - 1))] rfl zG ?_; (with_reducible refine (spec_l1In.calls a1 0 (wrap64 ((l0_1.length : Int) - 1)) false _ A3.out).mono ?_); rintro e w' ⟨rfl, ⟨nd, rfl⟩⟩; refine ⟨_, rfl, ?_⟩))
  go_ret
  exact ⟨zE, zB HB⟩

/-! ### spec_TroubleAt: function 53 -/
def spec_TroubleAt.j0 : Nat → Int → Int → Bool → Int → List Bool → List (S64) → Int → List Bool → List (S64) → Option (Int)
 | 0, _, _, _, _, _, _, _, _, _ => none
 | k + 1, x2, x3, x9, x293000, x293001, x293002, x294000, x294001, x294002 => if x9 = true then (some 1) else ((spec_NextPairs.f k x293000 x293001 x293002 x294000 x294001 x294002 x2 x3).bind fun t296 => (if (t296.length : Int) = 0 then ((spec_l14End.f x293000 x293001 x293002 x2).bind fun t299 => (if t299 = true then ((spec_l14End.f x294000 x294001 x294002 x3).bind fun t300 => (if t300 = true then (some 0) else (some 2))) else (some 2))) else (some 0)))
def spec_TroubleAt.f (k : Nat) (a0_0 : Int) (l0_1 : List Bool) (l0_2 : List (S64)) (a1_0 : Int) (l1_1 : List Bool) (l1_2 : List (S64)) (a2 : Int) (a3 : Int) : Option (Int) := (spec_l14Unread.f k a0_0 l0_1 l0_2 a1_0 l1_1 l1_2 a2 a3).bind fun t294 => (if t294 = true then (spec_TroubleAt.j0 k a2 a3 true a0_0 l0_1 l0_2 a1_0 l1_1 l1_2) else ((spec_l14Unread.f k a1_0 l1_1 l1_2 a0_0 l0_1 l0_2 a3 a2).bind fun t295 => (spec_TroubleAt.j0 k a2 a3 t295 a0_0 l0_1 l0_2 a1_0 l1_1 l1_2)))
theorem spec_TroubleAt.mono_l : ∀ k, (∀ y0 y1 y2 y3 y4 y5 y6 y7 y8, LeO (spec_TroubleAt.j0 k y0 y1 y2 y3 y4 y5 y6 y7 y8) (spec_TroubleAt.j0 (k + 1) y0 y1 y2 y3 y4 y5 y6 y7 y8))
 | 0 => fun _ _ _ _ _ _ _ _ _ r h => by simp [spec_TroubleAt.j0] at h
 | k + 1 => by
  have ih0 := spec_TroubleAt.mono_l k
  ·intro y0 y1 y2 y3 y4 y5 y6 y7 y8
   unfold spec_TroubleAt.j0
   repeat' first
   | (with_reducible exact ih0 _ _ _ _ _ _ _ _ _)
   | (with_reducible exact spec_NextPairs.mono _ _ _ _ _ _ _ _ _)
   | (with_reducible exact spec_l14Unread.mono _ _ _ _ _ _ _ _ _)
   | (with_reducible exact LeO.refl _)
   | (with_reducible exact LeO.none _)
   | (with_reducible refine LeO.ite ?_ ?_)
   | (with_reducible refine LeO.bind ?_ (fun _ => ?_))
   | exact ih0 _ _ _ _ _ _ _ _ _
   | exact spec_NextPairs.mono _ _ _ _ _ _ _ _ _
   | exact spec_l14Unread.mono _ _ _ _ _ _ _ _ _
   | exact LeO.none _
   | refine LeO.ite ?_ ?_
   | refine LeO.bind ?_ (fun _ => ?_)
theorem spec_TroubleAt.mono : ∀ a0 a1 a2 a3 a4 a5 a6 a7 k, LeO (spec_TroubleAt.f k a0 a1 a2 a3 a4 a5 a6 a7) (spec_TroubleAt.f (k + 1) a0 a1 a2 a3 a4 a5 a6 a7) := by
 intro a0 a1 a2 a3 a4 a5 a6 a7 k
 have ih0 := spec_TroubleAt.mono_l k
 unfold spec_TroubleAt.f
 repeat' first
   | (with_reducible exact ih0 _ _ _ _ _ _ _ _ _)
   | (with_reducible exact spec_NextPairs.mono _ _ _ _ _ _ _ _ _)
   | (with_reducible exact spec_l14Unread.mono _ _ _ _ _ _ _ _ _)
   | (with_reducible exact LeO.refl _)
   | (with_reducible exact LeO.none _)
   | (with_reducible refine LeO.ite ?_ ?_)
   | (with_reducible refine LeO.bind ?_ (fun _ => ?_))
   | exact ih0 _ _ _ _ _ _ _ _ _
   | exact spec_NextPairs.mono _ _ _ _ _ _ _ _ _
   | exact spec_l14Unread.mono _ _ _ _ _ _ _ _ _
   | exact LeO.none _
   | refine LeO.ite ?_ ?_
   | refine LeO.bind ?_ (fun _ => ?_)
set_option maxHeartbeats 8000000 in
set_option maxRecDepth 100000 in
theorem spec_TroubleAt.calls (k : Nat) (a0_0 : Int) (A0_1 : Option Addr) (c0_1 : Nat) (l0_1 : List Bool) (A0_2 : Option Addr) (c0_2 : Nat) (l0_2 : List (S64)) (a1_0 : Int) (A1_1 : Option Addr) (c1_1 : Nat) (l1_1 : List Bool) (A1_2 : Option Addr) (c1_2 : Nat) (l1_2 : List (S64)) (a2 : Int) (a3 : Int) (r : Int) (w : World) (hr0_1 : Kd.C Kd.bool w A0_1 l0_1.length l0_1) (hc0_1 : l0_1.length ≤ c0_1) (hr0_2 : Kd.C k64 w A0_2 l0_2.length l0_2) (hc0_2 : l0_2.length ≤ c0_2) (hr1_1 : Kd.C Kd.bool w A1_1 l1_1.length l1_1) (hc1_1 : l1_1.length ≤ c1_1) (hr1_2 : Kd.C k64 w A1_2 l1_2.length l1_2) (hc1_2 : l1_2.length ≤ c1_2) (h : spec_TroubleAt.f k a0_0 l0_1 l0_2 a1_0 l1_1 l1_2 a2 a3 = some r) :
  Calls Try.prog 53 #[.agg #[.int .i64 a0_0, .slice A0_1 l0_1.length c0_1, .slice A0_2 l0_2.length c0_2], .agg #[.int .i64 a1_0, .slice A1_1 l1_1.length c1_1, .slice A1_2 l1_2.length c1_2], .int .i64 a2, .int .i64 a3] w fun e w' => e = .returned (.int .i64 r) ∧ Below w.heap.size w w' := by
 have hu31 := Try.underlying31
 have HR0_1 := Aside0.mk hr0_1
 have HC0_1 := Aside0.mk hc0_1
 clear hr0_1 hc0_1
 have HR0_2 := Aside0.mk hr0_2
 have HC0_2 := Aside0.mk hc0_2
 clear hr0_2 hc0_2
 have HR1_1 := Aside0.mk hr1_1
 have HC1_1 := Aside0.mk hc1_1
 clear hr1_1 hc1_1
 have HR1_2 := Aside0.mk hr1_2
 have HC1_2 := Aside0.mk hc1_2
 clear hr1_2 hc1_2
 have HB := Aside0.mk (Below.refl w.heap.size w)
 have H : ((spec_l14Unread.f k a0_0 l0_1 l0_2 a1_0 l1_1 l1_2 a2 a3).bind fun t294 => (if t294 = true then (spec_TroubleAt.j0 k a2 a3 true a0_0 l0_1 l0_2 a1_0 l1_1 l1_2) else ((spec_l14Unread.f k a1_0 l1_1 l1_2 a0_0 l0_1 l0_2 a3 a2).bind fun t295 => (spec_TroubleAt.j0 k a2 a3 t295 a0_0 l0_1 l0_2 a1_0 l1_1 l1_2)))) = some r := h
 clear h
 have HC5 := Aside0.mk H
 clear H
 go_enter Try.func53, Try.ntmps53
 go_upto_region 1 with (first | ((with_reducible refine gate_dst (N := 4) rfl ?_); refine box_event ?hg (N := 4) ?hd (cs := #[.int .i64 a0_0, .slice A0_1 l0_1.length c0_1, .slice A0_2 l0_2.length c0_2]) (t := 31) ?hr ?_; (case hd => rfl); (case hg => rfl); (case hr => first | (go_simp; done) | (go_simp; rfl)); intro gb292 hg w6 hbox hb; have BK292 := Aside0.mk (hbox); have GW292 := gS HB hg; have GE292 := gS HB hg; replace HB := bS HB hb; clear hb hbox hg) | ((with_reducible refine gate_dst (N := 5) rfl ?_); refine box_event ?hg (N := 5) ?hd (cs := #[.int .i64 a1_0, .slice A1_1 l1_1.length c1_1, .slice A1_2 l1_2.length c1_2]) (t := 31) ?hr ?_; (case hd => rfl); (case hg => rfl); (case hr => first | (go_simp; done) | (go_simp; rfl)); intro gb293 hg w7 hbox hb; have BK293 := Aside0.mk (hbox); have GW293 := gS HB hg; have GE293 := gS HB hg; replace HB := bS HB hb; have NB292_293 := nL BK292 hg; have NB293_292 := nR BK292 hg; replace BK292 := kB BK292 hb; clear hb hbox hg))
 (try simp only [Act.put, List.setIfInBounds_toArray, List.set_cons_zero, List.set_cons_succ])
 go_cut [9] (fun v9 wc => ∃ (kq : Nat) (x9_4 : Bool), v9 = .bool x9_4 ∧ Aside0 (spec_TroubleAt.j0 kq a2 a3 x9_4 a0_0 l0_1 l0_2 a1_0 l1_1 l1_2 = some r) ∧ Aside0 (kq ≤ k) ∧ Aside0 (wc.heap[gb292]? = some (.cells #[.int .i64 a0_0, (.slice A0_1 l0_1.length c0_1), (.slice A0_2 l0_2.length c0_2)] 31 (0, 0))) ∧ Aside0 (wc.heap[gb293]? = some (.cells #[.int .i64 a1_0, (.slice A1_1 l1_1.length c1_1), (.slice A1_2 l1_2.length c1_2)] 31 (0, 0))) ∧ Aside0 (Below w.heap.size w wc))
 case first =>
  have H := HC5.out
  clear HC5
  obtain ⟨t294, A8, H⟩ := bindS H
  by_cases c9 : t294 = true
  ·subst c9
   have H1 : (spec_TroubleAt.j0 k a2 a3 true a0_0 l0_1 l0_2 a1_0 l1_1 l1_2) = some r := by rw [if_pos rfl] at H; exact H
   clear H
   have H := H1
   clear H1
   have H' := Aside0.mk H
   clear H
   have hnb10 := NB292_293.out
   have hnc10 := NB293_292.out
   have hcz11_0 := bc0 BK292
   have hcz11_1 := bc1 BK292
   have hcz11_2 := bc2 BK292
   have hfz11_0 := bf BK292 0
   have hfz11_1 := bf BK292 1
   have hfz11_2 := bf BK292 2
   have hcz12_0 := bc0 BK293
   have hcz12_1 := bc1 BK293
   have hcz12_2 := bc2 BK293
   have hfz12_0 := bf BK293 0
   have hfz12_1 := bf BK293 1
   have hfz12_2 := bf BK293 2
   go_wp2_with (first | ((with_reducible refine gate_callee (f := 68) rfl ?_); refine goesL_ (some 14) rfl rfl Try.func68 (by kernel_rfl) rfl #[.agg #[.int .i64 a0_0, .slice A0_1 l0_1.length c0_1, .slice A0_2 l0_2.length c0_2], .agg #[.int .i64 a1_0, .slice A1_1 l1_1.length c1_1, .slice A1_2 l1_2.length c1_2], .int .i64 a2, .int .i64 a3] rfl zG ?_; (with_reducible refine (spec_l14Unread.calls k a0_0 _ _ l0_1 _ _ l0_2 a1_0 _ _ l1_1 _ _ l1_2 a2 a3 true _ ?side1 ?side2 ?side3 ?side4 ?side5 ?side6 ?side7 ?side8 A8.out).mono ?_); (case side1 => exact cS HR0_1 HB); (case side2 => exact HC0_1.out); (case side3 => exact cS HR0_2 HB); (case side4 => exact HC0_2.out); (case side5 => exact cS HR1_1 HB); (case side6 => exact HC1_1.out); (case side7 => exact cS HR1_2 HB); (case side8 => exact HC1_2.out); rintro e w13 ⟨rfl, hb⟩; refine ⟨_, rfl, ?_⟩; replace BK292 := kB BK292 hb; replace BK293 := kB BK293 hb; replace HB := bS HB hb; (try clear hb)))
   go_meet
   case rel => exact ⟨_, (true), zF, H', ⟨by first | omega | exact Nat.le_refl _⟩, ⟨zK BK292⟩, ⟨zK BK293⟩, ⟨zB HB⟩⟩
  ·replace c9 := Bool.eq_false_iff.mpr c9
   subst c9
   have H1 : ((spec_l14Unread.f k a1_0 l1_1 l1_2 a0_0 l0_1 l0_2 a3 a2).bind fun t295 => (spec_TroubleAt.j0 k a2 a3 t295 a0_0 l0_1 l0_2 a1_0 l1_1 l1_2)) = some r := by rw [if_neg (show ¬ (false = true) by decide)] at H; exact H
   clear H
   have H := H1
   clear H1
   obtain ⟨t295, A14, H⟩ := bindS H
   have H' := Aside0.mk H
   clear H
   have hnb15 := NB292_293.out
   have hnc15 := NB293_292.out
   have hcz16_0 := bc0 BK292
   have hcz16_1 := bc1 BK292
   have hcz16_2 := bc2 BK292
   have hfz16_0 := bf BK292 0
   have hfz16_1 := bf BK292 1
   have hfz16_2 := bf BK292 2
   have hcz17_0 := bc0 BK293
   have hcz17_1 := bc1 BK293
   have hcz17_2 := bc2 BK293
   have hfz17_0 := bf BK293 0
   have hfz17_1 := bf BK293 1
   have hfz17_2 := bf BK293 2
   go_wp2_with (first | ((with_reducible refine gate_callee (f := 68) rfl ?_); refine goesL_ (some 14) rfl rfl Try.func68 (by kernel_rfl) rfl #[.agg #[.int .i64 a0_0, .slice A0_1 l0_1.length c0_1, .slice A0_2 l0_2.length c0_2], .agg #[.int .i64 a1_0, .slice A1_1 l1_1.length c1_1, .slice A1_2 l1_2.length c1_2], .int .i64 a2, .int .i64 a3] rfl zG ?_; (with_reducible refine (spec_l14Unread.calls k a0_0 _ _ l0_1 _ _ l0_2 a1_0 _ _ l1_1 _ _ l1_2 a2 a3 false _ ?side1 ?side2 ?side3 ?side4 ?side5 ?side6 ?side7 ?side8 A8.out).mono ?_); (case side1 => exact cS HR0_1 HB); (case side2 => exact HC0_1.out); (case side3 => exact cS HR0_2 HB); (case side4 => exact HC0_2.out); (case side5 => exact cS HR1_1 HB); (case side6 => exact HC1_1.out); (case side7 => exact cS HR1_2 HB); (case side8 => exact HC1_2.out); rintro e w18 ⟨rfl, hb⟩; refine ⟨_, rfl, ?_⟩; replace BK292 := kB BK292 hb; replace BK293 := kB BK293 hb; replace HB := bS HB hb; (try clear hb); have hcz19_0 := bc0 BK293; have hcz19_1 := bc1 BK293; have hcz19_2 := bc2 BK293; have hfz19_0 := bf BK293 0; have hfz19_1 := bf BK293 1; have hfz19_2 := bf BK293 2; have hcz20_0 := bc0 BK292; have hcz20_1 := bc1 BK292; have hcz20_2 := bc2 BK292; have hfz20_0 := bf BK292 0; have hfz20_1 := bf BK292 1; have hfz20_2 := bf BK292 2) | (go_at_call 68; (with_reducible refine (spec_l14Unread.calls k a1_0 _ _ l1_1 _ _ l1_2 a0_0 _ _ l0_1 _ _ l0_2 a3 a2 t295 _ ?side1 ?side2 ?side3 ?side4 ?side5 ?side6 ?side7 ?side8 A14.out).mono ?_); (case side1 => exact cS HR1_1 HB); (case side2 => exact HC1_1.out); (case side3 => exact cS HR1_2 HB); (case side4 => exact HC1_2.out); (case side5 => exact cS HR0_1 HB); (case side6 => exact HC0_1.out); (case side7 => exact cS HR0_2 HB); (case side8 => exact HC0_2.out); rintro e w21 ⟨rfl, hb⟩; replace BK292 := kB BK292 hb; replace BK293 := kB BK293 hb; replace HB := bS HB hb; (try clear hb)))
   go_meet
   case rel => exact ⟨_, (t295), zF, H', ⟨by first | omega | exact Nat.le_refl _⟩, ⟨zK BK292⟩, ⟨zK BK293⟩, ⟨zB HB⟩⟩
 case rest =>
  clear HC5
  try clear c1
  try clear p2
  try clear c5
  try clear c6
  try clear c9
  try clear c10
  try clear c15
  try clear hcz11_0
  try clear hcz11_1
  try clear hcz11_2
  try clear hcz12_0
  try clear hcz12_1
  try clear hcz12_2
  try clear hcz16_0
  try clear hcz16_1
  try clear hcz16_2
  try clear hcz17_0
  try clear hcz17_1
  try clear hcz17_2
  try clear hcz19_0
  try clear hcz19_1
  try clear hcz19_2
  try clear hcz20_0
  try clear hcz20_1
  try clear hcz20_2
  try clear hfz11_0
  try clear hfz11_1
  try clear hfz11_2
  try clear hfz12_0
  try clear hfz12_1
  try clear hfz12_2
  try clear hfz16_0
  try clear hfz16_1
  try clear hfz16_2
  try clear hfz17_0
  try clear hfz17_1
  try clear hfz17_2
  try clear hfz19_0
  try clear hfz19_1
  try clear hfz19_2
  try clear hfz20_0
  try clear hfz20_1
  try clear hfz20_2
  obtain ⟨kq, x9_4, rfl, HA, HJ4, BK292, BK293, HB⟩ := hcut
  cases kq with
  | zero => exact absurd HA.out (by simp [spec_TroubleAt.j0])
  | succ kj4 =>
   have H := HA.out
   clear HA
   simp only [spec_TroubleAt.j0] at H
   by_cases c22 : x9_4 = true
   ·subst c22
    have H1 : (some 1) = some r := by rw [if_pos rfl] at H; exact H
    clear H
    have H := H1
    clear H1
    obtain rfl := Option.some.inj H
    go_wp2
    go_ret
    exact ⟨zE, zB HB⟩
   ·replace c22 := Bool.eq_false_iff.mpr c22
    subst c22
    have H1 : ((spec_NextPairs.f kj4 a0_0 l0_1 l0_2 a1_0 l1_1 l1_2 a2 a3).bind fun t296 => (if (t296.length : Int) = 0 then ((spec_l14End.f a0_0 l0_1 l0_2 a2).bind fun t299 => (if t299 = true then ((spec_l14End.f a1_0 l1_1 l1_2 a3).bind fun t300 => (if t300 = true then (some 0) else (some 2))) else (some 2))) else (some 0))) = some r := by rw [if_neg (show ¬ (false = true) by decide)] at H; exact H
    clear H
    have H := H1
    clear H1
    obtain ⟨t296, A23, H⟩ := bindS H
    by_cases c24 : (t296.length : Int) = 0
    ·rw [if_pos c24] at H
     have c24b0 : ((t296.length : Int) == 0) = true := beq_iff_eq.mpr c24
     have c24b1 : ((t296.length : Int) != 0) = false := bne_eq_false_iff_eq.mpr c24
     clear c24
     obtain ⟨t299, A25, H⟩ := bindS H
     by_cases c26 : t299 = true
     ·subst c26
      have H1 : ((spec_l14End.f a1_0 l1_1 l1_2 a3).bind fun t300 => (if t300 = true then (some 0) else (some 2))) = some r := by rw [if_pos rfl] at H; exact H
      clear H
      have H := H1
      clear H1
      obtain ⟨t300, A27, H⟩ := bindS H
      by_cases c28 : t300 = true
      ·subst c28
       have H1 : (some 0) = some r := by rw [if_pos rfl] at H; exact H
       clear H
       have H := H1
       clear H1
       obtain rfl := Option.some.inj H
       have hnb29 := NB292_293.out
       have hnc29 := NB293_292.out
       have hcz30_0 := bc0 BK292
       have hcz30_1 := bc1 BK292
       have hcz30_2 := bc2 BK292
       have hfz30_0 := bf BK292 0
       have hfz30_1 := bf BK292 1
       have hfz30_2 := bf BK292 2
       have hcz31_0 := bc0 BK293
       have hcz31_1 := bc1 BK293
       have hcz31_2 := bc2 BK293
       have hfz31_0 := bf BK293 0
       have hfz31_1 := bf BK293 1
       have hfz31_2 := bf BK293 2
       go_wp2_with (first | ((with_reducible refine gate_callee (f := 37) rfl ?_); refine goesL_ (some 27) rfl rfl Try.func37 (by kernel_rfl) rfl #[.agg #[.int .i64 a0_0, .slice A0_1 l0_1.length c0_1, .slice A0_2 l0_2.length c0_2], .agg #[.int .i64 a1_0, .slice A1_1 l1_1.length c1_1, .slice A1_2 l1_2.length c1_2], .int .i64 a2, .int .i64 a3] rfl zG ?_; (with_reducible refine (spec_NextPairs.calls kj4 a0_0 _ _ l0_1 _ _ l0_2 a1_0 _ _ l1_1 _ _ l1_2 a2 a3 t296 _ ?side1 ?side2 ?side3 ?side4 ?side5 ?side6 ?side7 ?side8 A23.out).mono ?_); (case side1 => exact cS HR0_1 HB); (case side2 => exact HC0_1.out); (case side3 => exact cS HR0_2 HB); (case side4 => exact HC0_2.out); (case side5 => exact cS HR1_1 HB); (case side6 => exact HC1_1.out); (case side7 => exact cS HR1_2 HB); (case side8 => exact HC1_2.out); rintro e w32 ⟨v297, rfl, ho0, hb⟩; refine ⟨_, rfl, ?_⟩; have HO298 := Aside0.mk (Kd.S_lower ho0 (below_size (zB HB))); replace BK292 := kB BK292 hb; replace BK293 := kB BK293 hb; replace HB := bS HB hb; (try clear hb); (try clear ho0); obtain ⟨Ao33, co33, eo33⟩ := Kd.S_slice HO298.out; subst eo33; have hcz34_0 := bc0 BK292; have hcz34_1 := bc1 BK292; have hcz34_2 := bc2 BK292; have hfz34_0 := bf BK292 0; have hfz34_1 := bf BK292 1; have hfz34_2 := bf BK292 2) | (go_at_call 69; (with_reducible refine (spec_l14End.calls a0_0 _ _ l0_1 _ _ l0_2 a2 true _ ?side1 ?side2 ?side3 ?side4 A25.out).mono ?_); (case side1 => exact cS HR0_1 HB); (case side2 => exact HC0_1.out); (case side3 => exact cS HR0_2 HB); (case side4 => exact HC0_2.out); rintro e w35 ⟨rfl, hb⟩; replace HO298 := Aside0.mk (Kd.S_below (zS HO298) hb); replace BK292 := kB BK292 hb; replace BK293 := kB BK293 hb; replace HB := bS HB hb; (try clear hb); have hcz36_0 := bc0 BK293; have hcz36_1 := bc1 BK293; have hcz36_2 := bc2 BK293; have hfz36_0 := bf BK293 0; have hfz36_1 := bf BK293 1; have hfz36_2 := bf BK293 2) | (go_at_call 69; (with_reducible refine (spec_l14End.calls a1_0 _ _ l1_1 _ _ l1_2 a3 true _ ?side1 ?side2 ?side3 ?side4 A27.out).mono ?_); (case side1 => exact cS HR1_1 HB); (case side2 => exact HC1_1.out); (case side3 => exact cS HR1_2 HB); (case side4 => exact HC1_2.out); rintro e w37 ⟨rfl, hb⟩; replace HO298 := Aside0.mk (Kd.S_below (zS HO298) hb); replace BK292 := kB BK292 hb; replace BK293 := kB BK293 hb; replace HB := bS HB hb; (try clear hb)))
       go_ret
       exact ⟨zE, zB HB⟩
      ·replace c28 := Bool.eq_false_iff.mpr c28
       subst c28
       have H1 : (some 2) = some r := by rw [if_neg (show ¬ (false = true) by decide)] at H; exact H
       clear H
       have H := H1
       clear H1
       obtain rfl := Option.some.inj H
       have hnb38 := NB292_293.out
       have hnc38 := NB293_292.out
       have hcz39_0 := bc0 BK292
       have hcz39_1 := bc1 BK292
       have hcz39_2 := bc2 BK292
       have hfz39_0 := bf BK292 0
       have hfz39_1 := bf BK292 1
       have hfz39_2 := bf BK292 2
       have hcz40_0 := bc0 BK293
       have hcz40_1 := bc1 BK293
       have hcz40_2 := bc2 BK293
       have hfz40_0 := bf BK293 0
       have hfz40_1 := bf BK293 1
       have hfz40_2 := bf BK293 2
       go_wp2_with (first | ((with_reducible refine gate_callee (f := 37) rfl ?_); refine goesL_ (some 27) rfl rfl Try.func37 (by kernel_rfl) rfl #[.agg #[.int .i64 a0_0, .slice A0_1 l0_1.length c0_1, .slice A0_2 l0_2.length c0_2], .agg #[.int .i64 a1_0, .slice A1_1 l1_1.length c1_1, .slice A1_2 l1_2.length c1_2], .int .i64 a2, .int .i64 a3] rfl zG ?_; (with_reducible refine (spec_NextPairs.calls kj4 a0_0 _ _ l0_1 _ _ l0_2 a1_0 _ _ l1_1 _ _ l1_2 a2 a3 t296 _ ?side1 ?side2 ?side3 ?side4 ?side5 ?side6 ?side7 ?side8 A23.out).mono ?_); (case side1 => exact cS HR0_1 HB); (case side2 => exact HC0_1.out); (case side3 => exact cS HR0_2 HB); (case side4 => exact HC0_2.out); (case side5 => exact cS HR1_1 HB); (case side6 => exact HC1_1.out); (case side7 => exact cS HR1_2 HB); (case side8 => exact HC1_2.out); rintro e w41 ⟨v297, rfl, ho0, hb⟩; refine ⟨_, rfl, ?_⟩; have HO298 := Aside0.mk (Kd.S_lower ho0 (below_size (zB HB))); replace BK292 := kB BK292 hb; replace BK293 := kB BK293 hb; replace HB := bS HB hb; (try clear hb); (try clear ho0); obtain ⟨Ao42, co42, eo42⟩ := Kd.S_slice HO298.out; subst eo42; have hcz43_0 := bc0 BK292; have hcz43_1 := bc1 BK292; have hcz43_2 := bc2 BK292; have hfz43_0 := bf BK292 0; have hfz43_1 := bf BK292 1; have hfz43_2 := bf BK292 2) | (go_at_call 69; (with_reducible refine (spec_l14End.calls a0_0 _ _ l0_1 _ _ l0_2 a2 true _ ?side1 ?side2 ?side3 ?side4 A25.out).mono ?_); (case side1 => exact cS HR0_1 HB); (case side2 => exact HC0_1.out); (case side3 => exact cS HR0_2 HB); (case side4 => exact HC0_2.out); rintro e w44 ⟨rfl, hb⟩; replace HO298 := Aside0.mk (Kd.S_below (zS HO298) hb); replace BK292 := kB BK292 hb; replace BK293 := kB BK293 hb; replace HB := bS HB hb; (try clear hb); have hcz45_0 := bc0 BK293; have hcz45_1 := bc1 BK293; have hcz45_2 := bc2 BK293; have hfz45_0 := bf BK293 0; have hfz45_1 := bf BK293 1; have hfz45_2 := bf BK293 2) | (go_at_call 69; (with_reducible refine (spec_l14End.calls a1_0 _ _ l1_1 _ _ l1_2 a3 false _ ?side1 ?side2 ?side3 ?side4 A27.out).mono ?_); (case side1 => exact cS HR1_1 HB); (case side2 => exact HC1_1.out); (case side3 => exact cS HR1_2 HB); (case side4 => exact HC1_2.out); rintro e w46 ⟨rfl, hb⟩; replace HO298 := Aside0.mk (Kd.S_below (zS HO298) hb); replace BK292 := kB BK292 hb; replace BK293 := kB BK293 hb; replace HB := bS HB hb; (try clear hb)))
       go_ret
       exact ⟨zE, zB HB⟩
     ·replace c26 := Bool.eq_false_iff.mpr c26
      subst c26
      have H1 : (some 2) = some r := by rw [if_neg (show ¬ (false = true) by decide)] at H; exact H
      clear H
      have H := H1
      clear H1
      obtain rfl := Option.some.inj H
      have hnb47 := NB292_293.out
      have hnc47 := NB293_292.out
      have hcz48_0 := bc0 BK292
      have hcz48_1 := bc1 BK292
      have hcz48_2 := bc2 BK292
      have hfz48_0 := bf BK292 0
      have hfz48_1 := bf BK292 1
      have hfz48_2 := bf BK292 2
      have hcz49_0 := bc0 BK293
      have hcz49_1 := bc1 BK293
      have hcz49_2 := bc2 BK293
      have hfz49_0 := bf BK293 0
      have hfz49_1 := bf BK293 1
      have hfz49_2 := bf BK293 2
      go_wp2_with (first | ((with_reducible refine gate_callee (f := 37) rfl ?_); refine goesL_ (some 27) rfl rfl Try.func37 (by kernel_rfl) rfl #[.agg #[.int .i64 a0_0, .slice A0_1 l0_1.length c0_1, .slice A0_2 l0_2.length c0_2], .agg #[.int .i64 a1_0, .slice A1_1 l1_1.length c1_1, .slice A1_2 l1_2.length c1_2], .int .i64 a2, .int .i64 a3] rfl zG ?_; (with_reducible refine (spec_NextPairs.calls kj4 a0_0 _ _ l0_1 _ _ l0_2 a1_0 _ _ l1_1 _ _ l1_2 a2 a3 t296 _ ?side1 ?side2 ?side3 ?side4 ?side5 ?side6 ?side7 ?side8 A23.out).mono ?_); (case side1 => exact cS HR0_1 HB); (case side2 => exact HC0_1.out); (case side3 => exact cS HR0_2 HB); (case side4 => exact HC0_2.out); (case side5 => exact cS HR1_1 HB); (case side6 => exact HC1_1.out); (case side7 => exact cS HR1_2 HB); (case side8 => exact HC1_2.out); rintro e w50 ⟨v297, rfl, ho0, hb⟩; refine ⟨_, rfl, ?_⟩; have HO298 := Aside0.mk (Kd.S_lower ho0 (below_size (zB HB))); replace BK292 := kB BK292 hb; replace BK293 := kB BK293 hb; replace HB := bS HB hb; (try clear hb); (try clear ho0); obtain ⟨Ao51, co51, eo51⟩ := Kd.S_slice HO298.out; subst eo51; have hcz52_0 := bc0 BK292; have hcz52_1 := bc1 BK292; have hcz52_2 := bc2 BK292; have hfz52_0 := bf BK292 0; have hfz52_1 := bf BK292 1; have hfz52_2 := bf BK292 2) | (go_at_call 69; (with_reducible refine (spec_l14End.calls a0_0 _ _ l0_1 _ _ l0_2 a2 false _ ?side1 ?side2 ?side3 ?side4 A25.out).mono ?_); (case side1 => exact cS HR0_1 HB); (case side2 => exact HC0_1.out); (case side3 => exact cS HR0_2 HB); (case side4 => exact HC0_2.out); rintro e w53 ⟨rfl, hb⟩; replace HO298 := Aside0.mk (Kd.S_below (zS HO298) hb); replace BK292 := kB BK292 hb; replace BK293 := kB BK293 hb; replace HB := bS HB hb; (try clear hb)))
      go_ret
      exact ⟨zE, zB HB⟩
    ·rw [if_neg c24] at H
     have c24b0 : ((t296.length : Int) == 0) = false := beq_eq_false_iff_ne.mpr c24
     have c24b1 : ((t296.length : Int) != 0) = true := bne_iff_ne.mpr c24
     have c24b2 : ¬ (t296 = []) := fun h_ => c24 (by rw [h_]; rfl)
     obtain rfl := Option.some.inj H
     have hnb54 := NB292_293.out
     have hnc54 := NB293_292.out
     have hcz55_0 := bc0 BK292
     have hcz55_1 := bc1 BK292
     have hcz55_2 := bc2 BK292
     have hfz55_0 := bf BK292 0
     have hfz55_1 := bf BK292 1
     have hfz55_2 := bf BK292 2
     have hcz56_0 := bc0 BK293
     have hcz56_1 := bc1 BK293
     have hcz56_2 := bc2 BK293
     have hfz56_0 := bf BK293 0
     have hfz56_1 := bf BK293 1
     have hfz56_2 := bf BK293 2
     go_wp2_with (first | ((with_reducible refine gate_callee (f := 37) rfl ?_); refine goesL_ (some 27) rfl rfl Try.func37 (by kernel_rfl) rfl #[.agg #[.int .i64 a0_0, .slice A0_1 l0_1.length c0_1, .slice A0_2 l0_2.length c0_2], .agg #[.int .i64 a1_0, .slice A1_1 l1_1.length c1_1, .slice A1_2 l1_2.length c1_2], .int .i64 a2, .int .i64 a3] rfl zG ?_; (with_reducible refine (spec_NextPairs.calls kj4 a0_0 _ _ l0_1 _ _ l0_2 a1_0 _ _ l1_1 _ _ l1_2 a2 a3 t296 _ ?side1 ?side2 ?side3 ?side4 ?side5 ?side6 ?side7 ?side8 A23.out).mono ?_); (case side1 => exact cS HR0_1 HB); (case side2 => exact HC0_1.out); (case side3 => exact cS HR0_2 HB); (case side4 => exact HC0_2.out); (case side5 => exact cS HR1_1 HB); (case side6 => exact HC1_1.out); (case side7 => exact cS HR1_2 HB); (case side8 => exact HC1_2.out); rintro e w57 ⟨v297, rfl, ho0, hb⟩; refine ⟨_, rfl, ?_⟩; have HO298 := Aside0.mk (Kd.S_lower ho0 (below_size (zB HB))); replace BK292 := kB BK292 hb; replace BK293 := kB BK293 hb; replace HB := bS HB hb; (try clear hb); (try clear ho0); obtain ⟨Ao58, co58, eo58⟩ := Kd.S_slice HO298.out; subst eo58))
     go_ret
     exact ⟨zE, zB HB⟩

end Go.Proofs.Ytmenijbpglknbaa.PFnExactFirstTrouble
