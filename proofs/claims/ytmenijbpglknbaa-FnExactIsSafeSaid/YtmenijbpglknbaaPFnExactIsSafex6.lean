-- WRITTEN by pp.py, this session's own wrapper around the print; not trusted: Lean checks it
import Derived.Test.YtmenijbpglknbaaPFnExactIsSafex0
import Derived.Test.YtmenijbpglknbaaPFnExactIsSafex4
namespace Go.Proofs.Ytmenijbpglknbaa.PFnExactIsSafe
open Go.RowKit Go.Proofs.Ytmenijbpglknbaa.Hw Go.Proofs.YtmenijbpglknbaaW.PrintWords Go.Proofs.YtmenijbpglknbaaW.PrintLast Go.Proofs.YtmenijbpglknbaaW.PrintMore
attribute [local go_sem] max2_int min2_int max_two min_two max_three min_three max_four min_four   -- for this text's walks alone
set_option linter.unusedVariables false
set_option linter.unusedSimpArgs false
set_option linter.unusedSectionVars false

/-! ### spec_NextPairs: function 37 -/
mutual
def spec_NextPairs.l0 : Nat → Int → Int → List (List Int) → List Int → Int → Int → List Bool → List (S64) → Int → List Bool → List (S64) → Option ((List (List Int)))
 | 0, _, _, _, _, _, _, _, _, _, _, _ => none
 | k + 1, x2, x3, x9, x10, x11, x208000, x208001, x208002, x209000, x209001, x209002 => if x11 < (x10.length : Int) then (if 0 ≤ x11 then ((spec_MoveOf.f k x209000 x209001 x209002 x3 false (rd x10 x11)).bind fun t216 => (if t216 ≥ 0 then ((spec_MoveOf.f k x208000 x208001 x208002 x2 true (rd x10 x11)).bind fun t218 => (if 0 ≤ t218 then (if t218 < (x208002.length : Int) then (if 0 ≤ t216 then (if t216 < (x209002.length : Int) then (if x9.length < 5864062014805 then (spec_NextPairs.l0 k x2 x3 (x9 ++ [(([(rd_T64 x208002 t218).f3, (rd_T64 x209002 t216).f3] : List Int))]) x10 (wrap64 (x11 + 1)) x208000 x208001 x208002 x209000 x209001 x209002) else (none)) else (none)) else (none)) else (none)) else (none))) else (spec_NextPairs.l0 k x2 x3 x9 x10 (wrap64 (x11 + 1)) x208000 x208001 x208002 x209000 x209001 x209002))) else (none)) else ((spec_MovesFrom.f k x209000 x209001 x209002 x3 true).bind fun t227 => (spec_NextPairs.l1 k x2 x3 x9 t227 0 x208000 x208001 x208002 x209000 x209001 x209002))
def spec_NextPairs.l1 : Nat → Int → Int → List (List Int) → List Int → Int → Int → List Bool → List (S64) → Int → List Bool → List (S64) → Option ((List (List Int)))
 | 0, _, _, _, _, _, _, _, _, _, _, _ => none
 | k + 1, x2, x3, x9, x10, x13, x208000, x208001, x208002, x209000, x209001, x209002 => if x13 < (x10.length : Int) then (if 0 ≤ x13 then ((spec_MoveOf.f k x208000 x208001 x208002 x2 false (rd x10 x13)).bind fun t231 => (if t231 ≥ 0 then (if 0 ≤ t231 then (if t231 < (x208002.length : Int) then ((spec_MoveOf.f k x209000 x209001 x209002 x3 true (rd x10 x13)).bind fun t234 => (if 0 ≤ t234 then (if t234 < (x209002.length : Int) then (if x9.length < 5864062014805 then (spec_NextPairs.l1 k x2 x3 (x9 ++ [(([(rd_T64 x208002 t231).f3, (rd_T64 x209002 t234).f3] : List Int))]) x10 (wrap64 (x13 + 1)) x208000 x208001 x208002 x209000 x209001 x209002) else (none)) else (none)) else (none))) else (none)) else (none)) else (spec_NextPairs.l1 k x2 x3 x9 x10 (wrap64 (x13 + 1)) x208000 x208001 x208002 x209000 x209001 x209002))) else (none)) else (some x9)
end
def spec_NextPairs.f (k : Nat) (a0_0 : Int) (l0_1 : List Bool) (l0_2 : List (S64)) (a1_0 : Int) (l1_1 : List Bool) (l1_2 : List (S64)) (a2 : Int) (a3 : Int) : Option ((List (List Int))) := (spec_MovesFrom.f k a0_0 l0_1 l0_2 a2 true).bind fun t212 => (spec_NextPairs.l0 k a2 a3 (([] : List (List Int))) t212 0 a0_0 l0_1 l0_2 a1_0 l1_1 l1_2)
theorem spec_NextPairs.mono_l : ∀ k, (∀ y0 y1 y2 y3 y4 y5 y6 y7 y8 y9 y10, LeO (spec_NextPairs.l0 k y0 y1 y2 y3 y4 y5 y6 y7 y8 y9 y10) (spec_NextPairs.l0 (k + 1) y0 y1 y2 y3 y4 y5 y6 y7 y8 y9 y10)) ∧ (∀ y0 y1 y2 y3 y4 y5 y6 y7 y8 y9 y10, LeO (spec_NextPairs.l1 k y0 y1 y2 y3 y4 y5 y6 y7 y8 y9 y10) (spec_NextPairs.l1 (k + 1) y0 y1 y2 y3 y4 y5 y6 y7 y8 y9 y10))
 | 0 => ⟨fun _ _ _ _ _ _ _ _ _ _ _ r h => by simp [spec_NextPairs.l0] at h, fun _ _ _ _ _ _ _ _ _ _ _ r h => by simp [spec_NextPairs.l1] at h⟩
 | k + 1 => by
  obtain ⟨ih0, ih1⟩ := spec_NextPairs.mono_l k
  refine ⟨?_, ?_⟩
  ·intro y0 y1 y2 y3 y4 y5 y6 y7 y8 y9 y10
   unfold spec_NextPairs.l0
   repeat' first
   | (with_reducible exact ih0 _ _ _ _ _ _ _ _ _ _ _)
   | (with_reducible exact ih1 _ _ _ _ _ _ _ _ _ _ _)
   | (with_reducible exact spec_MoveOf.mono _ _ _ _ _ _ _)
   | (with_reducible exact spec_MovesFrom.mono _ _ _ _ _ _)
   | (with_reducible exact LeO.refl _)
   | (with_reducible exact LeO.none _)
   | (with_reducible refine LeO.ite ?_ ?_)
   | (with_reducible refine LeO.bind ?_ (fun _ => ?_))
   | exact ih0 _ _ _ _ _ _ _ _ _ _ _
   | exact ih1 _ _ _ _ _ _ _ _ _ _ _
   | exact spec_MoveOf.mono _ _ _ _ _ _ _
   | exact spec_MovesFrom.mono _ _ _ _ _ _
   | exact LeO.none _
   | refine LeO.ite ?_ ?_
   | refine LeO.bind ?_ (fun _ => ?_)
  ·intro y0 y1 y2 y3 y4 y5 y6 y7 y8 y9 y10
   unfold spec_NextPairs.l1
   repeat' first
   | (with_reducible exact ih0 _ _ _ _ _ _ _ _ _ _ _)
   | (with_reducible exact ih1 _ _ _ _ _ _ _ _ _ _ _)
   | (with_reducible exact spec_MoveOf.mono _ _ _ _ _ _ _)
   | (with_reducible exact spec_MovesFrom.mono _ _ _ _ _ _)
   | (with_reducible exact LeO.refl _)
   | (with_reducible exact LeO.none _)
   | (with_reducible refine LeO.ite ?_ ?_)
   | (with_reducible refine LeO.bind ?_ (fun _ => ?_))
   | exact ih0 _ _ _ _ _ _ _ _ _ _ _
   | exact ih1 _ _ _ _ _ _ _ _ _ _ _
   | exact spec_MoveOf.mono _ _ _ _ _ _ _
   | exact spec_MovesFrom.mono _ _ _ _ _ _
   | exact LeO.none _
   | refine LeO.ite ?_ ?_
   | refine LeO.bind ?_ (fun _ => ?_)
theorem spec_NextPairs.mono : ∀ a0 a1 a2 a3 a4 a5 a6 a7 k, LeO (spec_NextPairs.f k a0 a1 a2 a3 a4 a5 a6 a7) (spec_NextPairs.f (k + 1) a0 a1 a2 a3 a4 a5 a6 a7) := by
 intro a0 a1 a2 a3 a4 a5 a6 a7 k
 obtain ⟨ih0, ih1⟩ := spec_NextPairs.mono_l k
 unfold spec_NextPairs.f
 repeat' first
   | (with_reducible exact ih0 _ _ _ _ _ _ _ _ _ _ _)
   | (with_reducible exact ih1 _ _ _ _ _ _ _ _ _ _ _)
   | (with_reducible exact spec_MoveOf.mono _ _ _ _ _ _ _)
   | (with_reducible exact spec_MovesFrom.mono _ _ _ _ _ _)
   | (with_reducible exact LeO.refl _)
   | (with_reducible exact LeO.none _)
   | (with_reducible refine LeO.ite ?_ ?_)
   | (with_reducible refine LeO.bind ?_ (fun _ => ?_))
   | exact ih0 _ _ _ _ _ _ _ _ _ _ _
   | exact ih1 _ _ _ _ _ _ _ _ _ _ _
   | exact spec_MoveOf.mono _ _ _ _ _ _ _
   | exact spec_MovesFrom.mono _ _ _ _ _ _
   | exact LeO.none _
   | refine LeO.ite ?_ ?_
   | refine LeO.bind ?_ (fun _ => ?_)
def spec_NextPairs.T6 : Bool × List (List Nat × List Nat) := (true, [([], []), ([], []), ([], []), ([], []), ([2, 3], [2, 3]), ([4], [4]), ([0, 1, 5], [0, 1, 5]), ([6, 6, 0, 1, 2, 3, 4, 5, 6], [6])])
def spec_NextPairs.B6 : List Nat := [0, 0, 0, 0, 12, 28, 63, 127]
theorem spec_NextPairs.tab6 : rtab .any (opsOf Try.f37 6) = spec_NextPairs.T6 := by kernel_rfl
theorem spec_NextPairs.bits6 : waitsOk spec_NextPairs.T6.2 spec_NextPairs.B6 = true := by kernel_rfl
def spec_NextPairs.T8 : Bool × List (List Nat × List Nat) := (true, [([], []), ([], []), ([1], [1]), ([], []), ([], []), ([], []), ([], []), ([5, 6], [5, 6]), ([7], [7]), ([3, 4, 8], [3, 4, 8]), ([2, 9], [2, 9]), ([10], [10]), ([11], [11]), ([], []), ([13], [13]), ([], []), ([14, 15], [14, 15]), ([16], [16]), ([17], [17]), ([12, 18], [12, 18]), ([19], [19]), ([0, 20, 9], [0, 20]), ([21, 21, 0, 1, 2, 3, 4, 5, 6, 7, 8, 9, 10, 11, 12, 13, 14, 15, 16, 17, 18, 19, 20, 21], [0, 21])])
def spec_NextPairs.B8 : List Nat := [0, 0, 2, 0, 0, 0, 0, 96, 224, 504, 1022, 2046, 4094, 0, 8192, 0, 57344, 122880, 253952, 524286, 1048574, 2097151, 4194303]
theorem spec_NextPairs.tab8 : rtab .any (opsOf Try.f37 8) = spec_NextPairs.T8 := by kernel_rfl
theorem spec_NextPairs.bits8 : waitsOk spec_NextPairs.T8.2 spec_NextPairs.B8 = true := by kernel_rfl
def spec_NextPairs.T13 : Bool × List (List Nat × List Nat) := (true, [([], []), ([], []), ([], []), ([], []), ([2, 3], [2, 3]), ([4], [4]), ([0, 1, 5], [0, 1, 5]), ([6, 6, 0, 1, 2, 3, 4, 5, 6], [6])])
def spec_NextPairs.B13 : List Nat := [0, 0, 0, 0, 12, 28, 63, 127]
theorem spec_NextPairs.tab13 : rtab .any (opsOf Try.f37 13) = spec_NextPairs.T13 := by kernel_rfl
theorem spec_NextPairs.bits13 : waitsOk spec_NextPairs.T13.2 spec_NextPairs.B13 = true := by kernel_rfl
def spec_NextPairs.T15 : Bool × List (List Nat × List Nat) := (true, [([], []), ([], []), ([1], [1]), ([], []), ([2, 3], [2, 3]), ([4], [4]), ([5], [5]), ([], []), ([7], [7]), ([], []), ([], []), ([], []), ([], []), ([11, 12], [11, 12]), ([13], [13]), ([9, 10, 14], [9, 10, 14]), ([8, 15], [8, 15]), ([16], [16]), ([17], [17]), ([6, 18], [6, 18]), ([19], [19]), ([0, 20, 15], [0, 20]), ([21, 21, 0, 1, 2, 3, 4, 5, 6, 7, 8, 9, 10, 11, 12, 13, 14, 15, 16, 17, 18, 19, 20, 21], [0, 21])])
def spec_NextPairs.B15 : List Nat := [0, 0, 2, 0, 14, 30, 62, 0, 128, 0, 0, 0, 0, 6144, 14336, 32256, 65408, 130944, 262016, 524286, 1048574, 2097151, 4194303]
theorem spec_NextPairs.tab15 : rtab .any (opsOf Try.f37 15) = spec_NextPairs.T15 := by kernel_rfl
theorem spec_NextPairs.bits15 : waitsOk spec_NextPairs.T15.2 spec_NextPairs.B15 = true := by kernel_rfl
set_option maxHeartbeats 8000000 in
set_option maxRecDepth 100000 in
theorem spec_NextPairs.calls (k : Nat) (a0_0 : Int) (A0_1 : Option Addr) (c0_1 : Nat) (l0_1 : List Bool) (A0_2 : Option Addr) (c0_2 : Nat) (l0_2 : List (S64)) (a1_0 : Int) (A1_1 : Option Addr) (c1_1 : Nat) (l1_1 : List Bool) (A1_2 : Option Addr) (c1_2 : Nat) (l1_2 : List (S64)) (a2 : Int) (a3 : Int) (r : List (List Int)) (w : World) (hr0_1 : Kd.C Kd.bool w A0_1 l0_1.length l0_1) (hc0_1 : l0_1.length ≤ c0_1) (hr0_2 : Kd.C k64 w A0_2 l0_2.length l0_2) (hc0_2 : l0_2.length ≤ c0_2) (hr1_1 : Kd.C Kd.bool w A1_1 l1_1.length l1_1) (hc1_1 : l1_1.length ≤ c1_1) (hr1_2 : Kd.C k64 w A1_2 l1_2.length l1_2) (hc1_2 : l1_2.length ≤ c1_2) (h : spec_NextPairs.f k a0_0 l0_1 l0_2 a1_0 l1_1 l1_2 a2 a3 = some r) :
  Calls Try.prog 37 #[.agg #[.int .i64 a0_0, .slice A0_1 l0_1.length c0_1, .slice A0_2 l0_2.length c0_2], .agg #[.int .i64 a1_0, .slice A1_1 l1_1.length c1_1, .slice A1_2 l1_2.length c1_2], .int .i64 a2, .int .i64 a3] w fun e w' => ∃ v0_ : Value, e = .returned (v0_) ∧ Kd.S (Kd.slice 3 (Kd.int .i64)) 38 w' w.heap.size (fun _ => True) v0_ r ∧ Below w.heap.size w w' := by
 have hu31 := Try.underlying31
 have HR0_1 := Aside0.mk hr0_1
 have HC0_1 := Aside0.mk hc0_1
 clear hr0_1 hc0_1
 have HR0_2 := Aside0.mk hr0_2
 have HC0_2 := Aside0.mk hc0_2
 clear hr0_2 hc0_2
 have HR1_1 := Aside0.mk hr1_1
 have HC1_1 := Aside0.mk hc1_1
 clear hr1_1 hc1_1
 have HR1_2 := Aside0.mk hr1_2
 have HC1_2 := Aside0.mk hc1_2
 clear hr1_2 hc1_2
 have HB := Aside0.mk (Below.refl w.heap.size w)
 have H : ((spec_MovesFrom.f k a0_0 l0_1 l0_2 a2 true).bind fun t212 => (spec_NextPairs.l0 k a2 a3 (([] : List (List Int))) t212 0 a0_0 l0_1 l0_2 a1_0 l1_1 l1_2)) = some r := h
 clear h
 obtain ⟨y209, hy209⟩ : ∃ y_ : List (List Int), y_ = (([] : List (List Int))) := ⟨_, rfl⟩
 replace H : ((spec_MovesFrom.f k a0_0 l0_1 l0_2 a2 true).bind fun t212 => (spec_NextPairs.l0 k a2 a3 y209 t212 0 a0_0 l0_1 l0_2 a1_0 l1_1 l1_2)) = some r := by first | (rw [hy209]; with_reducible exact H) | (have H2_ := (Option.bind_some _ _).symm.trans H; rw [hy209]; with_reducible exact H2_) | (have H2_ := (Option.bind_some _ _).symm.trans H; with_reducible exact H2_) | with_reducible exact H | (rw [hy209]; exact H) | exact H
 have Ny209 := Aside0.mk hy209
 clear hy209
 replace H := Option.bind_eq_some_iff.mp H
 obtain ⟨t212, A50, H⟩ := H
 replace H : (spec_NextPairs.l0 k a2 a3 y209 t212 0 a0_0 l0_1 l0_2 a1_0 l1_1 l1_2) = some r := H
 have A5 := Aside0.mk A50
 clear A50
 have H' := Aside0.mk H
 clear H
 go_enter Try.func37, Try.ntmps37
 go_wp2_with (first | ((with_reducible refine gate_dst (N := 4) rfl ?_); refine box_event ?hg (N := 4) ?hd (cs := #[.int .i64 a0_0, .slice A0_1 l0_1.length c0_1, .slice A0_2 l0_2.length c0_2]) (t := 31) ?hr ?_; (case hd => rfl); (case hg => rfl); (case hr => first | (go_simp; done) | (go_simp; rfl)); intro gb207 hg w6 hbox hb; have n0_ := bS HB hb; have n1_ := Aside0.mk (hbox); have n2_ := gS HB hg; have n3_ := gS HB hg; clear HB; have HB := n0_; have BK207 := n1_; have GW207 := n2_; have GE207 := n3_; clear n0_ n1_ n2_ n3_; clear hb hbox hg) | ((with_reducible refine gate_dst (N := 5) rfl ?_); refine box_event ?hg (N := 5) ?hd (cs := #[.int .i64 a1_0, .slice A1_1 l1_1.length c1_1, .slice A1_2 l1_2.length c1_2]) (t := 31) ?hr ?_; (case hd => rfl); (case hg => rfl); (case hr => first | (go_simp; done) | (go_simp; rfl)); intro gb208 hg w7 hbox hb; have n0_ := kB BK207 hb; have n1_ := bS HB hb; have n2_ := Aside0.mk (hbox); have n3_ := gS HB hg; have n4_ := gS HB hg; have n5_ := Aside0.mk ((by rw [hg]; exact Nat.ne_of_lt (blk_lt (g := gb207) (o := .cells #[.int .i64 a0_0, .slice A0_1 l0_1.length c0_1, .slice A0_2 l0_2.length c0_2] 31 (0, 0)) (zK BK207)) : gb207 ≠ gb208)); have n6_ := Aside0.mk ((by rw [hg]; exact Nat.ne_of_gt (blk_lt (g := gb207) (o := .cells #[.int .i64 a0_0, .slice A0_1 l0_1.length c0_1, .slice A0_2 l0_2.length c0_2] 31 (0, 0)) (zK BK207)) : gb208 ≠ gb207)); clear BK207; clear HB; have BK207 := n0_; have HB := n1_; have BK208 := n2_; have GW208 := n3_; have GE208 := n4_; have NB207_208 := n5_; have NB208_207 := n6_; clear n0_ n1_ n2_ n3_ n4_ n5_ n6_; clear hb hbox hg) | ((with_reducible refine gate_dst (N := 15) rfl ?_); refine Kd.S_lit (Kd.slice 3 (Kd.int .i64)) _ 38 ?hg (N := 15) ?hd (xs := ([] : List (List Int))) (inner := []) (ok := fun _ => True) (okp := fun _ => True) ?hr ?hp (fun _ hk => hk) trivial (Below.refl _ _) (Nat.le_refl _) (by simp) ?_; (case hd => rfl); (case hg => rfl); (case hr => first | (go_simp; done) | (go_simp; rfl)); (case hp => exact (Reps.none _ _)); intro v210 w8 ho9 hb hg_ hnew_; clear hg_ hnew_; (first | rw [← Ny209.out] at ho9 | (simp only [Int.reduceToNat] at ho9; rw [← Ny209.out] at ho9)); have n0_ := Aside0.mk (Kd.S_lower ho9 (below_size (zB HB))); have n1_ := kB BK207 hb; have n2_ := kB BK208 hb; have n3_ := bS HB hb; clear BK207; clear BK208; clear HB; have HO211 := n0_; have BK207 := n1_; have BK208 := n2_; have HB := n3_; clear n0_ n1_ n2_ n3_; clear hb ho9; have hnb10 := NB207_208.out; have hnc10 := NB208_207.out; have hcz11_0 := bc0 BK207; have hcz11_1 := bc1 BK207; have hcz11_2 := bc2 BK207; have hfz11_0 := bf BK207 0; have hfz11_1 := bf BK207 1; have hfz11_2 := bf BK207 2) | ((with_reducible refine gate_callee (f := 49) rfl ?_); refine goesL_ (some 18) rfl rfl Try.func49 (by kernel_rfl) rfl #[.agg #[.int .i64 a0_0, .slice A0_1 l0_1.length c0_1, .slice A0_2 l0_2.length c0_2], .int .i64 a2, .bool true] rfl zG ?_; (with_reducible refine (spec_MovesFrom.calls k a0_0 _ _ l0_1 _ _ l0_2 a2 true t212 _ ?side1 ?side2 ?side3 ?side4 A5.out).mono ?_); (case side1 => exact cS HR0_1 HB); (case side2 => exact HC0_1.out); (case side3 => exact cS HR0_2 HB); (case side4 => exact HC0_2.out); rintro e w12 ⟨v213, rfl, ho0, hb⟩; refine ⟨_, rfl, ?_⟩; have n0_ := Aside0.mk (Kd.S_elder' (zS HO211) (Kd.R_base ho0) hb); have n1_ := Aside0.mk (Kd.R_lower ho0 (below_size (zB HB))); have n2_ := kB BK207 hb; have n3_ := kB BK208 hb; have n4_ := bS HB hb; clear HO211; clear BK207; clear BK208; clear HB; have HO211 := n0_; have HO214 := n1_; have BK207 := n2_; have BK208 := n3_; have HB := n4_; clear n0_ n1_ n2_ n3_ n4_; (try clear hb); (try clear ho0)))
 go_loopg [9, 11] k (fun kq v9 v11 w' => ∃ (x9_1 : List (List Int)) (x11_1 : Int), v11 = .int .i64 x11_1 ∧ Aside0 (spec_NextPairs.l0 kq a2 a3 x9_1 t212 x11_1 a0_0 l0_1 l0_2 a1_0 l1_1 l1_2 = some r) ∧ Aside0 (kq ≤ k) ∧ Aside0 (Kd.S (Kd.slice 3 (Kd.int .i64)) 38 w' w.heap.size (fun k_ => some k_ ≠ (v213 : Value).ownBlock) v9 x9_1) ∧ Aside0 (Kd.R (Kd.int .i64) 3 w' w.heap.size (fun _ => True) v213 t212) ∧ Aside0 (w'.heap[gb207]? = some (.cells #[.int .i64 a0_0, (.slice A0_1 l0_1.length c0_1), (.slice A0_2 l0_2.length c0_2)] 31 (0, 0))) ∧ Aside0 (w'.heap[gb208]? = some (.cells #[.int .i64 a1_0, (.slice A1_1 l1_1.length c1_1), (.slice A1_2 l1_2.length c1_2)] 31 (0, 0))) ∧ Aside0 (Below w.heap.size w w'))
 case atStart => exact ⟨(y209), (0), zF, H', ⟨Nat.le_refl _⟩, ⟨by (with_reducible repeat (first | apply Kd.S_alloc | apply Kd.S_drewN | apply Kd.S_drew)); exact Kd.S_mono HO211.out (fun _ hk => hk.2)⟩, ⟨zR HO214⟩, ⟨zK BK207⟩, ⟨zK BK208⟩, ⟨zB HB⟩⟩
 case round =>
  clear H'
  try clear c1
  try clear p2
  try clear c3
  try clear c4
  try clear c10
  try clear hcz11_0
  try clear hcz11_1
  try clear hcz11_2
  try clear hfz11_0
  try clear hfz11_1
  try clear hfz11_2
  obtain ⟨x9_1, x11_1, rfl, HA, HK1, HO_9, HO_10, BK207, BK208, HB⟩ := hrel
  cases gk with
  | zero => exact absurd HA.out (by simp [spec_NextPairs.l0])
  | succ k1 =>
   have H := HA.out
   clear HA
   simp only [spec_NextPairs.l0] at H
   by_cases c13 : x11_1 < (t212.length : Int)
   ·rw [if_pos c13] at H
    have c13b0 : decide (x11_1 < (t212.length : Int)) = true := decide_eq_true c13
    clear c13
    by_cases c14 : 0 ≤ x11_1
    ·rw [if_pos c14] at H
     have c14b0 : decide (0 ≤ x11_1) = true := decide_eq_true c14
     clear c14
     replace H := Option.bind_eq_some_iff.mp H
     obtain ⟨t216, A150, H⟩ := H
     replace H : (if t216 ≥ 0 then ((spec_MoveOf.f k1 a0_0 l0_1 l0_2 a2 true (rd t212 x11_1)).bind fun t218 => (if 0 ≤ t218 then (if t218 < (l0_2.length : Int) then (if 0 ≤ t216 then (if t216 < (l1_2.length : Int) then (if x9_1.length < 5864062014805 then (spec_NextPairs.l0 k1 a2 a3 (x9_1 ++ [(([(rd_T64 l0_2 t218).f3, (rd_T64 l1_2 t216).f3] : List Int))]) t212 (wrap64 (x11_1 + 1)) a0_0 l0_1 l0_2 a1_0 l1_1 l1_2) else (none)) else (none)) else (none)) else (none)) else (none))) else (spec_NextPairs.l0 k1 a2 a3 x9_1 t212 (wrap64 (x11_1 + 1)) a0_0 l0_1 l0_2 a1_0 l1_1 l1_2)) = some r := H
     have A15 := Aside0.mk A150
     clear A150
     by_cases c16 : t216 ≥ 0
     ·rw [if_pos c16] at H
      have c16b0 : decide (0 ≤ t216) = true := decide_eq_true c16
      clear c16
      replace H := Option.bind_eq_some_iff.mp H
      obtain ⟨t218, A170, H⟩ := H
      replace H : (if 0 ≤ t218 then (if t218 < (l0_2.length : Int) then (if 0 ≤ t216 then (if t216 < (l1_2.length : Int) then (if x9_1.length < 5864062014805 then (spec_NextPairs.l0 k1 a2 a3 (x9_1 ++ [(([(rd_T64 l0_2 t218).f3, (rd_T64 l1_2 t216).f3] : List Int))]) t212 (wrap64 (x11_1 + 1)) a0_0 l0_1 l0_2 a1_0 l1_1 l1_2) else (none)) else (none)) else (none)) else (none)) else (none)) = some r := H
      have A17 := Aside0.mk A170
      clear A170
      by_cases c18 : 0 ≤ t218
      ·rw [if_pos c18] at H
       have c18b0 : decide (0 ≤ t218) = true := decide_eq_true c18
       clear c18
       by_cases c19 : t218 < (l0_2.length : Int)
       ·rw [if_pos c19] at H
        have c19b0 : decide (t218 < (l0_2.length : Int)) = true := decide_eq_true c19
        clear c19
        by_cases c20 : 0 ≤ t216
        ·rw [if_pos c20] at H
         have c20b0 : decide (0 ≤ t216) = true := decide_eq_true c20
         clear c20
         by_cases c21 : t216 < (l1_2.length : Int)
         ·rw [if_pos c21] at H
          have c21b0 : decide (t216 < (l1_2.length : Int)) = true := decide_eq_true c21
          clear c21
          obtain ⟨y221, hy221⟩ : ∃ y_ : List Int, y_ = (([(rd_T64 l0_2 t218).f3, (rd_T64 l1_2 t216).f3] : List Int)) := ⟨_, rfl⟩
          replace H : (if x9_1.length < 5864062014805 then (spec_NextPairs.l0 k1 a2 a3 (x9_1 ++ [y221]) t212 (wrap64 (x11_1 + 1)) a0_0 l0_1 l0_2 a1_0 l1_1 l1_2) else (none)) = some r := by first | (rw [hy221]; with_reducible exact H) | (have H2_ := (Option.bind_some _ _).symm.trans H; rw [hy221]; with_reducible exact H2_) | (have H2_ := (Option.bind_some _ _).symm.trans H; with_reducible exact H2_) | with_reducible exact H | (rw [hy221]; exact H) | exact H
          have Ny221 := Aside0.mk hy221
          clear hy221
          by_cases c22 : x9_1.length < 5864062014805
          ·rw [if_pos c22] at H
           have LMc22 := Aside0.mk c22
           clear c22
           obtain ⟨y224, hy224⟩ : ∃ y_ : List (List Int), y_ = (x9_1 ++ [y221]) := ⟨_, rfl⟩
           replace H : (spec_NextPairs.l0 k1 a2 a3 y224 t212 (wrap64 (x11_1 + 1)) a0_0 l0_1 l0_2 a1_0 l1_1 l1_2) = some r := by first | (rw [hy224]; with_reducible exact H) | (have H2_ := (Option.bind_some _ _).symm.trans H; rw [hy224]; with_reducible exact H2_) | (have H2_ := (Option.bind_some _ _).symm.trans H; with_reducible exact H2_) | with_reducible exact H | (rw [hy224]; exact H) | exact H
           have Ny224 := Aside0.mk hy224
           clear hy224
           have H' := Aside0.mk H
           clear H
           obtain ⟨Ao23, co23, eo23⟩ := Kd.R_slice HO_10.out
           subst eo23
           try go_wp2
           have n0_ := Aside0.mk (Kd.S_drew HO_9.out)
           have n1_ := Aside0.mk (Kd.R_drew HO_10.out)
           have n2_ := Aside0.mk (blk_drew BK207.out)
           have n3_ := Aside0.mk (blk_drew BK208.out)
           have n4_ := Aside0.mk (below_drew1 HB.out)
           clear HO_9
           clear HO_10
           clear BK207
           clear BK208
           clear HB
           have HO_9 := n0_
           have HO_10 := n1_
           have BK207 := n2_
           have BK208 := n3_
           have HB := n4_
           clear n0_ n1_ n2_ n3_ n4_
           have p215 : 0 ≤ (x11_1 : Int) := of_decide_eq_true (by first | (with_reducible assumption) | assumption)
           have q215 : x11_1 < (t212.length : Int) := of_decide_eq_true (by first | (with_reducible assumption) | assumption)
           obtain ⟨ad215, e215, hx215_0⟩ := Kd.at_int (Kd.R_reads' HO_10.out).2.2 x11_1 p215 q215
           cases e215
           replace p215 := eq_true p215
           replace q215 := eq_true q215
           refine start_ (n := 8) (S := fun w' => w'.cell? ⟨gb208, 0, none⟩ = some (.int .i64 a1_0) ∧ w'.cell? ⟨gb208, 1, none⟩ = some (.slice A1_1 l1_1.length c1_1) ∧ w'.cell? ⟨gb208, 2, none⟩ = some (.slice A1_2 l1_2.length c1_2) ∧ w'.cell? (ad215.add (x11_1).toNat) = some (.int .i64 (rd t212 x11_1))) (ds := []) (bm 8 0) (by kernel_rfl) rfl (bm0 _) ⟨bc0 BK208, bc1 BK208, bc2 BK208, hx215_0⟩ (fun hHeld => ?_); refine with_tabW spec_NextPairs.tab6 spec_NextPairs.bits6 (fun HT_ HW_ => ?_)
           generalize wr.drew = w24 at HO_9 HO_10 BK207 BK208 HB hx215_0 hHeld ⊢
           refine pU 1 (some 26) (bm 8 2) HT_ rfl rfl ?_
           refine pU 2 (some 27) (bm 8 6) HT_ rfl rfl ?_
           refine pU 3 (some 28) (bm 8 14) HT_ rfl rfl ?_
           refine pU 4 (some 29) (bm 8 30) HT_ rfl rfl ?_
           refine tU 0 (some 25) (bm 8 31) HT_ HW_ rfl rfl hHeld ?_
           refine tU 5 (some 30) (bm 8 63) HT_ HW_ rfl rfl hHeld ?_
           refine one_ (i := 6) (N := some 31) (bm 8 127) rfl rfl (one_of HT_.out (by kernel_rfl)) (by decide) (fun K hK => ?_)
           refine goes_ Try.func50 (by kernel_rfl) rfl #[.agg #[.int .i64 a1_0, .slice A1_1 l1_1.length c1_1, .slice A1_2 l1_2.length c1_2], .int .i64 a3, .bool false, .int .i64 (rd t212 x11_1)] (by rfl) rfl rfl zG ?_
           with_reducible refine (spec_MoveOf.calls k1 a1_0 _ _ l1_1 _ _ l1_2 a3 false (rd t212 x11_1) t216 _ ?side1 ?side2 ?side3 ?side4 A15.out).mono ?_
           (case side1 => exact cS HR1_1 HB)
           (case side2 => exact HC1_1.out)
           (case side3 => exact cS HR1_2 HB)
           (case side4 => exact HC1_2.out)
           rintro e w25 ⟨rfl, hb⟩
           have HS3_ := (hb.cell (World.block_lt_of_cell? _ _ (hHeld.2.2.2))).trans (hHeld.2.2.2)
           refine ⟨_, rfl, ?_⟩
           have n0_ := Aside0.mk (Kd.S_below (zS HO_9) hb)
           have n1_ := Aside0.mk (Kd.R_below (zR HO_10) hb)
           have n2_ := kB BK207 hb
           have n3_ := kB BK208 hb
           have n4_ := bS HB hb
           clear HO_9
           clear HO_10
           clear BK207
           clear BK208
           clear HB
           have HO_9 := n0_
           have HO_10 := n1_
           have BK207 := n2_
           have BK208 := n3_
           have HB := n4_
           clear n0_ n1_ n2_ n3_ n4_
           (try clear hb)
           (try clear hb2)
           (try clear hk)
           (try clear hi)
           refine hK.out _ _ ⟨bc0 BK208, bc1 BK208, bc2 BK208, HS3_⟩ (fun hHeld => ?_)
           clear hK K
           refine norm_ (a' := ?_) ?_ ?_
           rotate_left
           ·show Act.put _ (some 31) _ = _
            simp only [Act.put, List.setIfInBounds_toArray, List.set_cons_zero, List.set_cons_succ, i64_w, i32_w]
            rfl
           refine pU 7 (some 12) (bm 8 255) HT_ rfl rfl ?_
           refine done_ (done_of HT_.out (by kernel_rfl)) ?_
           try clear hHeld
           try go_wp2
           have n0_ := Aside0.mk (Kd.S_drew HO_9.out)
           have n1_ := Aside0.mk (Kd.R_drew HO_10.out)
           have n2_ := Aside0.mk (blk_drew BK207.out)
           have n3_ := Aside0.mk (blk_drew BK208.out)
           have n4_ := Aside0.mk (below_drew1 HB.out)
           clear HO_9
           clear HO_10
           clear BK207
           clear BK208
           clear HB
           have HO_9 := n0_
           have HO_10 := n1_
           have BK207 := n2_
           have BK208 := n3_
           have HB := n4_
           clear n0_ n1_ n2_ n3_ n4_
           have p217 : 0 ≤ (x11_1 : Int) := of_decide_eq_true (by first | (with_reducible assumption) | assumption)
           have q217 : x11_1 < (t212.length : Int) := of_decide_eq_true (by first | (with_reducible assumption) | assumption)
           obtain ⟨ad217, e217, hx217_0⟩ := Kd.at_int (Kd.R_reads' HO_10.out).2.2 x11_1 p217 q217
           obtain rfl : ad215 = ad217 := (by injection e217)
           replace p217 := eq_true p217
           replace q217 := eq_true q217
           have p220 : 0 ≤ (t216 : Int) := of_decide_eq_true (by first | (with_reducible assumption) | assumption)
           have q220 : t216 < (l1_2.length : Int) := of_decide_eq_true (by first | (with_reducible assumption) | assumption)
           obtain ⟨ad220, e220, hx220_0, hx220_1, hx220_2, hx220_3⟩ := at_T64 HR1_2.out t216 p220 q220
           have hw220_3 := hx220_3
           have hw220_2 := hx220_2
           have hw220_1 := hx220_1
           have hw220_0 := hx220_0
           cases e220
           replace hx220_0 := (HB.out.cell (World.block_lt_of_cell? w _ hx220_0)).trans hx220_0
           replace hx220_1 := (HB.out.cell (World.block_lt_of_cell? w _ hx220_1)).trans hx220_1
           replace hx220_2 := (HB.out.cell (World.block_lt_of_cell? w _ hx220_2)).trans hx220_2
           replace hx220_3 := (HB.out.cell (World.block_lt_of_cell? w _ hx220_3)).trans hx220_3
           replace p220 := eq_true p220
           replace q220 := eq_true q220
           have p219 : 0 ≤ (t218 : Int) := of_decide_eq_true (by first | (with_reducible assumption) | assumption)
           have q219 : t218 < (l0_2.length : Int) := of_decide_eq_true (by first | (with_reducible assumption) | assumption)
           obtain ⟨ad219, e219, hx219_0, hx219_1, hx219_2, hx219_3⟩ := at_T64 HR0_2.out t218 p219 q219
           have hw219_3 := hx219_3
           have hw219_2 := hx219_2
           have hw219_1 := hx219_1
           have hw219_0 := hx219_0
           cases e219
           replace hx219_0 := (HB.out.cell (World.block_lt_of_cell? w _ hx219_0)).trans hx219_0
           replace hx219_1 := (HB.out.cell (World.block_lt_of_cell? w _ hx219_1)).trans hx219_1
           replace hx219_2 := (HB.out.cell (World.block_lt_of_cell? w _ hx219_2)).trans hx219_2
           replace hx219_3 := (HB.out.cell (World.block_lt_of_cell? w _ hx219_3)).trans hx219_3
           replace p219 := eq_true p219
           replace q219 := eq_true q219
           refine start_ (n := 23) (S := fun w' => w'.cell? ⟨gb207, 0, none⟩ = some (.int .i64 a0_0) ∧ w'.cell? ⟨gb207, 1, none⟩ = some (.slice A0_1 l0_1.length c0_1) ∧ w'.cell? ⟨gb207, 2, none⟩ = some (.slice (some ad219) l0_2.length c0_2) ∧ w'.cell? ⟨gb208, 0, none⟩ = some (.int .i64 a1_0) ∧ w'.cell? ⟨gb208, 1, none⟩ = some (.slice A1_1 l1_1.length c1_1) ∧ w'.cell? ⟨gb208, 2, none⟩ = some (.slice (some ad220) l1_2.length c1_2) ∧ w'.cell? (ad215.add (x11_1).toNat) = some (.int .i64 (rd t212 x11_1)) ∧ w'.cell? (ad220.add ((t216).toNat * 4)) = some (.int .i64 ((rd_T64 l1_2 t216).f0)) ∧ w'.cell? ⟨(ad220.add ((t216).toNat * 4)).block, (ad220.add ((t216).toNat * 4)).off + 1, none⟩ = some (.bool ((rd_T64 l1_2 t216).f1)) ∧ w'.cell? ⟨(ad220.add ((t216).toNat * 4)).block, (ad220.add ((t216).toNat * 4)).off + 2, none⟩ = some (.int .i64 ((rd_T64 l1_2 t216).f2)) ∧ w'.cell? ⟨(ad220.add ((t216).toNat * 4)).block, (ad220.add ((t216).toNat * 4)).off + 3, none⟩ = some (.int .i64 ((rd_T64 l1_2 t216).f3)) ∧ w'.cell? (ad219.add ((t218).toNat * 4)) = some (.int .i64 ((rd_T64 l0_2 t218).f0)) ∧ w'.cell? ⟨(ad219.add ((t218).toNat * 4)).block, (ad219.add ((t218).toNat * 4)).off + 1, none⟩ = some (.bool ((rd_T64 l0_2 t218).f1)) ∧ w'.cell? ⟨(ad219.add ((t218).toNat * 4)).block, (ad219.add ((t218).toNat * 4)).off + 2, none⟩ = some (.int .i64 ((rd_T64 l0_2 t218).f2)) ∧ w'.cell? ⟨(ad219.add ((t218).toNat * 4)).block, (ad219.add ((t218).toNat * 4)).off + 3, none⟩ = some (.int .i64 ((rd_T64 l0_2 t218).f3))) (ds := [20, 21]) (bm 23 0) (by kernel_rfl) rfl (bm0 _) ⟨bc0 BK207, bc1 BK207, bc2 BK207, bc0 BK208, bc1 BK208, bc2 BK208, hx217_0, ((HB.out.cell (World.block_lt_of_cell? w _ hw220_0)).trans hw220_0), ((HB.out.cell (World.block_lt_of_cell? w _ hw220_1)).trans hw220_1), ((HB.out.cell (World.block_lt_of_cell? w _ hw220_2)).trans hw220_2), ((HB.out.cell (World.block_lt_of_cell? w _ hw220_3)).trans hw220_3), ((HB.out.cell (World.block_lt_of_cell? w _ hw219_0)).trans hw219_0), ((HB.out.cell (World.block_lt_of_cell? w _ hw219_1)).trans hw219_1), ((HB.out.cell (World.block_lt_of_cell? w _ hw219_2)).trans hw219_2), ((HB.out.cell (World.block_lt_of_cell? w _ hw219_3)).trans hw219_3)⟩ (fun hHeld => ?_); refine with_tabW spec_NextPairs.tab8 spec_NextPairs.bits8 (fun HT_ HW_ => ?_)
           generalize w25.drew = w26 at HO_9 HO_10 BK207 BK208 HB hx217_0 hx219_0 hx219_1 hx219_2 hx219_3 hx220_0 hx220_1 hx220_2 hx220_3 hHeld ⊢
           refine pU 0 (some 34) (bm 23 1) HT_ rfl rfl ?_
           refine pU 1 (some 35) (bm 23 3) HT_ rfl rfl ?_
           refine pU 4 (some 38) (bm 23 19) HT_ rfl rfl ?_
           refine pU 5 (some 39) (bm 23 51) HT_ rfl rfl ?_
           refine pU 6 (some 40) (bm 23 115) HT_ rfl rfl ?_
           refine pU 7 (some 41) (bm 23 243) HT_ rfl rfl ?_
           refine pU 13 (some 47) (bm 23 8435) HT_ rfl rfl ?_
           refine pU 15 (some 49) (bm 23 41203) HT_ rfl rfl ?_
           refine tU 2 (some 36) (bm 23 41207) HT_ HW_ rfl rfl hHeld ?_
           refine tU 3 (some 37) (bm 23 41215) HT_ HW_ rfl rfl hHeld ?_
           refine tU 8 (some 42) (bm 23 41471) HT_ HW_ rfl rfl hHeld ?_
           refine tU 14 (some 48) (bm 23 57855) HT_ HW_ rfl rfl hHeld ?_
           refine pU 16 (some 50) (bm 23 123391) HT_ rfl rfl ?_
           refine pU 17 (some 51) (bm 23 254463) HT_ rfl rfl ?_
           refine tU 18 (some 52) (bm 23 516607) HT_ HW_ rfl rfl hHeld ?_
           refine one_ (i := 9) (N := some 43) (bm 23 517119) rfl rfl (one_of HT_.out (by kernel_rfl)) (by decide) (fun K hK => ?_)
           refine goes_ Try.func50 (by kernel_rfl) rfl #[.agg #[.int .i64 a0_0, .slice A0_1 l0_1.length c0_1, .slice (some ad219) l0_2.length c0_2], .int .i64 a2, .bool true, .int .i64 (rd t212 x11_1)] (by rfl) rfl rfl zG ?_
           with_reducible refine (spec_MoveOf.calls k1 a0_0 _ _ l0_1 _ _ l0_2 a2 true (rd t212 x11_1) t218 _ ?side1 ?side2 ?side3 ?side4 A17.out).mono ?_
           (case side1 => exact cS HR0_1 HB)
           (case side2 => exact HC0_1.out)
           (case side3 => exact cS HR0_2 HB)
           (case side4 => exact HC0_2.out)
           rintro e w27 ⟨rfl, hb⟩
           have HS6_ := (hb.cell (World.block_lt_of_cell? _ _ (hHeld.2.2.2.2.2.2.1))).trans (hHeld.2.2.2.2.2.2.1)
           refine ⟨_, rfl, ?_⟩
           have n0_ := Aside0.mk (Kd.S_below (zS HO_9) hb)
           have n1_ := Aside0.mk (Kd.R_below (zR HO_10) hb)
           have n2_ := kB BK207 hb
           have n3_ := kB BK208 hb
           have n4_ := bS HB hb
           clear HO_9
           clear HO_10
           clear BK207
           clear BK208
           clear HB
           have HO_9 := n0_
           have HO_10 := n1_
           have BK207 := n2_
           have BK208 := n3_
           have HB := n4_
           clear n0_ n1_ n2_ n3_ n4_
           (try clear hb)
           (try clear hb2)
           (try clear hk)
           (try clear hi)
           refine hK.out _ _ ⟨bc0 BK207, bc1 BK207, bc2 BK207, bc0 BK208, bc1 BK208, bc2 BK208, HS6_, ((HB.out.cell (World.block_lt_of_cell? w _ hw220_0)).trans hw220_0), ((HB.out.cell (World.block_lt_of_cell? w _ hw220_1)).trans hw220_1), ((HB.out.cell (World.block_lt_of_cell? w _ hw220_2)).trans hw220_2), ((HB.out.cell (World.block_lt_of_cell? w _ hw220_3)).trans hw220_3), ((HB.out.cell (World.block_lt_of_cell? w _ hw219_0)).trans hw219_0), ((HB.out.cell (World.block_lt_of_cell? w _ hw219_1)).trans hw219_1), ((HB.out.cell (World.block_lt_of_cell? w _ hw219_2)).trans hw219_2), ((HB.out.cell (World.block_lt_of_cell? w _ hw219_3)).trans hw219_3)⟩ (fun hHeld => ?_)
           clear hK K
           refine norm_ (a' := ?_) ?_ ?_
           rotate_left
           ·show Act.put _ (some 43) _ = _
            simp only [Act.put, List.setIfInBounds_toArray, List.set_cons_zero, List.set_cons_succ, i64_w, i32_w]
            rfl
           refine pU 10 (some 44) (bm 23 518143) HT_ rfl rfl ?_
           refine pU 11 (some 45) (bm 23 520191) HT_ rfl rfl ?_
           refine tU 12 (some 46) (bm 23 524287) HT_ HW_ rfl rfl hHeld ?_
           refine one_ (i := 19) (N := some 53) (bm 23 1048575) rfl rfl (one_of HT_.out (by kernel_rfl)) (by decide) (fun K hK => ?_)
           refine Kd.R_lit_step (Kd.int .i64) _ 3 ?hg (N := 53) ?hd (xs := ([(rd_T64 l0_2 t218).f3, (rd_T64 l1_2 t216).f3] : List Int)) (inner := [.int .i64 ((rd_T64 l0_2 t218).f3), .int .i64 ((rd_T64 l1_2 t216).f3)]) (ok := fun _ => True) (okp := fun _ => True) ?hr ?hp (fun _ hk => hk) trivial (Below.refl _ _) (Nat.le_refl _) (by simp) ?_; (case hd => rfl); (case hg => rfl); (case hr => first | (go_simp; done) | (go_simp; rfl)); (case hp => exact (Reps.one (show Kd.M (Kd.int .i64) _ _ _ ((rd_T64 l0_2 t218).f3) [.int .i64 ((rd_T64 l0_2 t218).f3)] from rfl) (Reps.one (show Kd.M (Kd.int .i64) _ _ _ ((rd_T64 l1_2 t216).f3) [.int .i64 ((rd_T64 l1_2 t216).f3)] from rfl) (Reps.none _ _))))
           intro v222 w28 ho29 hb hg_ hnew_
           have HS6_ := (hb.cell (World.block_lt_of_cell? _ _ (hHeld.2.2.2.2.2.2.1))).trans (hHeld.2.2.2.2.2.2.1)
           clear hg_ hnew_
           (first | rw [← Ny221.out] at ho29 | (simp only [Int.reduceToNat] at ho29; rw [← Ny221.out] at ho29))
           have n0_ := Aside0.mk (Kd.S_elder' (zS HO_9) (Kd.R_base ho29) hb)
           have n1_ := Aside0.mk (Kd.R_elder' (zR HO_10) (Kd.R_base ho29) hb)
           have n2_ := Aside0.mk (Kd.R_lower (Kd.R_new' ho29 (Kd.R_lt (zR HO_10))) (below_size (zB HB)))
           have n3_ := kB BK207 hb
           have n4_ := kB BK208 hb
           have n5_ := bS HB hb
           clear HO_9
           clear HO_10
           clear BK207
           clear BK208
           clear HB
           have HO_9 := n0_
           have HO_10 := n1_
           have HO223 := n2_
           have BK207 := n3_
           have BK208 := n4_
           have HB := n5_
           clear n0_ n1_ n2_ n3_ n4_ n5_
           clear hb ho29
           obtain ⟨Ao31, co31, eo31⟩ := Kd.R_slice HO223.out
           (first | subst eo31 | (injection eo31 with f1_ f2_ f3_; have f4_ := f1_.symm; have f5_ := f3_.symm; clear f1_ f2_ f3_; subst f4_; subst f5_))
           refine hK.out _ _ ⟨bc0 BK207, bc1 BK207, bc2 BK207, bc0 BK208, bc1 BK208, bc2 BK208, HS6_, ((HB.out.cell (World.block_lt_of_cell? w _ hw220_0)).trans hw220_0), ((HB.out.cell (World.block_lt_of_cell? w _ hw220_1)).trans hw220_1), ((HB.out.cell (World.block_lt_of_cell? w _ hw220_2)).trans hw220_2), ((HB.out.cell (World.block_lt_of_cell? w _ hw220_3)).trans hw220_3), ((HB.out.cell (World.block_lt_of_cell? w _ hw219_0)).trans hw219_0), ((HB.out.cell (World.block_lt_of_cell? w _ hw219_1)).trans hw219_1), ((HB.out.cell (World.block_lt_of_cell? w _ hw219_2)).trans hw219_2), ((HB.out.cell (World.block_lt_of_cell? w _ hw219_3)).trans hw219_3)⟩ (fun hHeld => ?_)
           clear hK K
           refine norm_ (a' := ?_) ?_ ?_
           rotate_left
           ·show Act.put _ (some 53) _ = _
            simp only [Act.put, List.setIfInBounds_toArray, List.set_cons_zero, List.set_cons_succ, i64_w, i32_w]
            rfl
           refine last_ (i := 20) (N := some 54) (bm 23 2097151) rfl rfl (one_of HT_.out (by kernel_rfl)) (by decide) (fun K hK => ?_)
           refine value_ (w1 := ?_) (v := ?_) (by rfl) rfl ?_ ?_
           rotate_left 2
           ·go_simp
            constructor
            ·rfl
            ·rfl
           refine hK.out _ _ ?_
           clear hK K
           refine norm_ (a' := ?_) ?_ ?_
           rotate_left
           ·show Act.put _ (some 54) _ = _
            simp only [Act.put, List.setIfInBounds_toArray, List.set_cons_zero, List.set_cons_succ, i64_w, i32_w]
            rfl
           refine last_ (i := 21) (N := some 55) (bm 23 4194303) rfl rfl (one_of HT_.out (by kernel_rfl)) (by decide) (fun K hK => ?_)
           refine Kd.S_append_step (Kd.slice 3 (Kd.int .i64)) (w0 := w) w.heap.size (by rfl) (.tmp 34) (.tmp 54) 27 38 (.slice none 0 0) 24 rfl Try.underlying27 info38 rfl (by decide) (by omega) u9 x9_1 y221 [.slice Ao31 y221.length co31] (fun k_ => some k_ ≠ (.slice (some ad215) t212.length co23 : Value).ownBlock) (fun k_ => some k_ = (.slice Ao31 y221.length co31 : Value).ownBlock) rfl rfl ?aP (fun k_ hk_ => ((Kd.R_mono (ok' := fun k_ => ((fun k_ => some k_ ≠ (.slice (some ad215) t212.length co23 : Value).ownBlock)) k_ ∧ some k_ ≠ (u9 : Value).ownBlock) (Kd.R_apart' (HO223.out) (Kd.S_typed HO_9.out) (by decide)) (fun k_ hk => ⟨hk.1.2, hk.2⟩))).1 k_ hk_.symm) ?aF ?aO ?aB ?aS ?aL ?_
           (case aP => exact Kd.M_row (Kd.R_mono (Kd.R_tight rfl (Kd.R_mono (ok' := fun k_ => ((fun k_ => some k_ ≠ (.slice (some ad215) t212.length co23 : Value).ownBlock)) k_ ∧ some k_ ≠ (u9 : Value).ownBlock) (Kd.R_apart' (HO223.out) (Kd.S_typed HO_9.out) (by decide)) (fun k_ hk => ⟨hk.1.2, hk.2⟩))) (fun _ h_ => h_)))
           (case aB => exact (zB HB))
           (case aF => exact (fun k_ hk => Kd.fresh' (Kd.R_lt (zR HO_10)) k_ hk))
           (case aO => exact (by (with_reducible repeat (first | apply Kd.S_alloc | apply Kd.S_drewN | apply Kd.S_drew)); exact Kd.S_mono HO_9.out (fun k_ hk => ⟨hk.1, fun e_ => hk.2 e_⟩)))
           (case aS => exact (below_size (zB HB)))
           (case aL => have := LMc22.out; omega)
           intro v225 w30 ho hb hg hat
           rw [← Ny224.out] at ho
           have n0_ := Aside0.mk (Kd.R_over' (zR HO_10) (Kd.S_typed (zS HO_9)) (by decide) hg)
           have n1_ := Aside0.mk (blk_grown (g := gb207) (o := .cells #[.int .i64 a0_0, .slice A0_1 l0_1.length c0_1, .slice (some ad219) l0_2.length c0_2] 31 (0, 0)) (zK BK207) hg (Kd.S_ne HO_9.out BK207.out (by decide)))
           have n2_ := Aside0.mk (blk_grown (g := gb208) (o := .cells #[.int .i64 a1_0, .slice A1_1 l1_1.length c1_1, .slice (some ad220) l1_2.length c1_2] 31 (0, 0)) (zK BK208) hg (Kd.S_ne HO_9.out BK208.out (by decide)))
           have n3_ := Aside0.mk (hb)
           have n4_ := Aside0.mk (ho)
           clear HO_10
           clear BK207
           clear BK208
           clear HB
           clear HO_9
           clear HO223
           have HO_10 := n0_
           have BK207 := n1_
           have BK208 := n2_
           have HB := n3_
           have HO226 := n4_
           clear n0_ n1_ n2_ n3_ n4_
           clear ho hb hg hat
           refine hK.out _ _ ?_
           clear hK K
           refine norm_ (a' := ?_) ?_ ?_
           rotate_left
           ·show Act.put _ (some 55) _ = _
            simp only [Act.put, List.setIfInBounds_toArray, List.set_cons_zero, List.set_cons_succ, i64_w, i32_w]
            rfl
           refine pU 22 (some 9) (bm 23 8388607) HT_ rfl rfl ?_
           refine done_ (done_of HT_.out (by kernel_rfl)) ?_
           try clear hHeld
           try go_wp2
           go_roundg k1
           case measure => have := HK1.out; omega
           case rel => exact ⟨(y224), (wrap64 (x11_1 + 1)), zF, H', ⟨by have := HK1.out; omega⟩, ⟨zS HO226⟩, ⟨by (with_reducible repeat (first | apply Kd.R_alloc | apply Kd.R_drewN | apply Kd.R_drew)); exact Kd.R_mono HO_10.out (fun _ hk => trivial)⟩, ⟨zK BK207⟩, ⟨zK BK208⟩, ⟨zB HB⟩⟩
          ·rw [if_neg c22] at H
           exact absurd H (by simp)
         ·rw [if_neg c21] at H
          exact absurd H (by simp)
        ·rw [if_neg c20] at H
         exact absurd H (by simp)
       ·rw [if_neg c19] at H
        exact absurd H (by simp)
      ·rw [if_neg c18] at H
       exact absurd H (by simp)
     ·rw [if_neg c16] at H
      have c16b0 : decide (0 ≤ t216) = false := decide_eq_false c16
      clear c16
      have H' := Aside0.mk H
      clear H
      obtain ⟨Ao32, co32, eo32⟩ := Kd.R_slice HO_10.out
      subst eo32
      try go_wp2
      have n0_ := Aside0.mk (Kd.S_drew HO_9.out)
      have n1_ := Aside0.mk (Kd.R_drew HO_10.out)
      have n2_ := Aside0.mk (blk_drew BK207.out)
      have n3_ := Aside0.mk (blk_drew BK208.out)
      have n4_ := Aside0.mk (below_drew1 HB.out)
      clear HO_9
      clear HO_10
      clear BK207
      clear BK208
      clear HB
      have HO_9 := n0_
      have HO_10 := n1_
      have BK207 := n2_
      have BK208 := n3_
      have HB := n4_
      clear n0_ n1_ n2_ n3_ n4_
      have p215 : 0 ≤ (x11_1 : Int) := of_decide_eq_true (by first | (with_reducible assumption) | assumption)
      have q215 : x11_1 < (t212.length : Int) := of_decide_eq_true (by first | (with_reducible assumption) | assumption)
      obtain ⟨ad215, e215, hx215_0⟩ := Kd.at_int (Kd.R_reads' HO_10.out).2.2 x11_1 p215 q215
      cases e215
      replace p215 := eq_true p215
      replace q215 := eq_true q215
      refine start_ (n := 8) (S := fun w' => w'.cell? ⟨gb208, 0, none⟩ = some (.int .i64 a1_0) ∧ w'.cell? ⟨gb208, 1, none⟩ = some (.slice A1_1 l1_1.length c1_1) ∧ w'.cell? ⟨gb208, 2, none⟩ = some (.slice A1_2 l1_2.length c1_2) ∧ w'.cell? (ad215.add (x11_1).toNat) = some (.int .i64 (rd t212 x11_1))) (ds := []) (bm 8 0) (by kernel_rfl) rfl (bm0 _) ⟨bc0 BK208, bc1 BK208, bc2 BK208, hx215_0⟩ (fun hHeld => ?_); refine with_tabW spec_NextPairs.tab6 spec_NextPairs.bits6 (fun HT_ HW_ => ?_)
      generalize wr.drew = w33 at HO_9 HO_10 BK207 BK208 HB hx215_0 hHeld ⊢
      refine pU 1 (some 26) (bm 8 2) HT_ rfl rfl ?_
      refine pU 2 (some 27) (bm 8 6) HT_ rfl rfl ?_
      refine pU 3 (some 28) (bm 8 14) HT_ rfl rfl ?_
      refine pU 4 (some 29) (bm 8 30) HT_ rfl rfl ?_
      refine tU 0 (some 25) (bm 8 31) HT_ HW_ rfl rfl hHeld ?_
      refine tU 5 (some 30) (bm 8 63) HT_ HW_ rfl rfl hHeld ?_
      refine one_ (i := 6) (N := some 31) (bm 8 127) rfl rfl (one_of HT_.out (by kernel_rfl)) (by decide) (fun K hK => ?_)
      refine goes_ Try.func50 (by kernel_rfl) rfl #[.agg #[.int .i64 a1_0, .slice A1_1 l1_1.length c1_1, .slice A1_2 l1_2.length c1_2], .int .i64 a3, .bool false, .int .i64 (rd t212 x11_1)] (by rfl) rfl rfl zG ?_
      with_reducible refine (spec_MoveOf.calls k1 a1_0 _ _ l1_1 _ _ l1_2 a3 false (rd t212 x11_1) t216 _ ?side1 ?side2 ?side3 ?side4 A15.out).mono ?_
      (case side1 => exact cS HR1_1 HB)
      (case side2 => exact HC1_1.out)
      (case side3 => exact cS HR1_2 HB)
      (case side4 => exact HC1_2.out)
      rintro e w34 ⟨rfl, hb⟩
      have HS3_ := (hb.cell (World.block_lt_of_cell? _ _ (hHeld.2.2.2))).trans (hHeld.2.2.2)
      refine ⟨_, rfl, ?_⟩
      have n0_ := Aside0.mk (Kd.S_below (zS HO_9) hb)
      have n1_ := Aside0.mk (Kd.R_below (zR HO_10) hb)
      have n2_ := kB BK207 hb
      have n3_ := kB BK208 hb
      have n4_ := bS HB hb
      clear HO_9
      clear HO_10
      clear BK207
      clear BK208
      clear HB
      have HO_9 := n0_
      have HO_10 := n1_
      have BK207 := n2_
      have BK208 := n3_
      have HB := n4_
      clear n0_ n1_ n2_ n3_ n4_
      (try clear hb)
      (try clear hb2)
      (try clear hk)
      (try clear hi)
      refine hK.out _ _ ⟨bc0 BK208, bc1 BK208, bc2 BK208, HS3_⟩ (fun hHeld => ?_)
      clear hK K
      refine norm_ (a' := ?_) ?_ ?_
      rotate_left
      ·show Act.put _ (some 31) _ = _
       simp only [Act.put, List.setIfInBounds_toArray, List.set_cons_zero, List.set_cons_succ, i64_w, i32_w]
       rfl
      refine pU 7 (some 12) (bm 8 255) HT_ rfl rfl ?_
      refine done_ (done_of HT_.out (by kernel_rfl)) ?_
      try clear hHeld
      try go_wp2
      go_roundg k1
      case measure => have := HK1.out; omega
      case rel => exact ⟨(x9_1), (wrap64 (x11_1 + 1)), zF, H', ⟨by have := HK1.out; omega⟩, ⟨zS HO_9⟩, ⟨zR HO_10⟩, ⟨zK BK207⟩, ⟨zK BK208⟩, ⟨zB HB⟩⟩
    ·rw [if_neg c14] at H
     exact absurd H (by simp)
   ·rw [if_neg c13] at H
    have c13b0 : decide (x11_1 < (t212.length : Int)) = false := decide_eq_false c13
    clear c13
    replace H := Option.bind_eq_some_iff.mp H
    obtain ⟨t227, A350, H⟩ := H
    replace H : (spec_NextPairs.l1 k1 a2 a3 x9_1 t227 0 a0_0 l0_1 l0_2 a1_0 l1_1 l1_2) = some r := H
    have A35 := Aside0.mk A350
    clear A350
    have H' := Aside0.mk H
    clear H
    obtain ⟨Ao36, co36, eo36⟩ := Kd.R_slice HO_10.out
    subst eo36
    have hnb37 := NB208_207.out
    have hnc37 := NB207_208.out
    have hcz38_0 := bc0 BK208
    have hcz38_1 := bc1 BK208
    have hcz38_2 := bc2 BK208
    have hfz38_0 := bf BK208 0
    have hfz38_1 := bf BK208 1
    have hfz38_2 := bf BK208 2
    go_wp2_with (first | ((with_reducible refine gate_callee (f := 49) rfl ?_); refine goesL_ (some 58) rfl rfl Try.func49 (by kernel_rfl) rfl #[.agg #[.int .i64 a1_0, .slice A1_1 l1_1.length c1_1, .slice A1_2 l1_2.length c1_2], .int .i64 a3, .bool true] rfl zG ?_; (with_reducible refine (spec_MovesFrom.calls k1 a1_0 _ _ l1_1 _ _ l1_2 a3 true t227 _ ?side1 ?side2 ?side3 ?side4 A35.out).mono ?_); (case side1 => exact cS HR1_1 HB); (case side2 => exact HC1_1.out); (case side3 => exact cS HR1_2 HB); (case side4 => exact HC1_2.out); rintro e w39 ⟨v228, rfl, ho0, hb⟩; refine ⟨_, rfl, ?_⟩; have n0_ := Aside0.mk (Kd.S_elder' (zS HO_9) (Kd.R_base ho0) hb); have n1_ := Aside0.mk (Kd.R_elder' (zR HO_10) (Kd.R_base ho0) hb); have n2_ := Aside0.mk (Kd.R_lower (Kd.R_new' ho0 (Kd.R_lt (zR HO_10))) (below_size (zB HB))); have n3_ := kB BK207 hb; have n4_ := kB BK208 hb; have n5_ := bS HB hb; clear HO_9; clear HO_10; clear BK207; clear BK208; clear HB; have HO_9 := n0_; have HO_10 := n1_; have HO229 := n2_; have BK207 := n3_; have BK208 := n4_; have HB := n5_; clear n0_ n1_ n2_ n3_ n4_ n5_; (try clear hb); (try clear ho0)))
    go_loopg [9, 13] k1 (fun kq v9 v13 w' => ∃ (x9_2 : List (List Int)) (x13_2 : Int), v13 = .int .i64 x13_2 ∧ Aside0 (spec_NextPairs.l1 kq a2 a3 x9_2 t227 x13_2 a0_0 l0_1 l0_2 a1_0 l1_1 l1_2 = some r) ∧ Aside0 (kq ≤ k1) ∧ Aside0 (Kd.S (Kd.slice 3 (Kd.int .i64)) 38 w' w.heap.size (fun k_ => some k_ ≠ (v228 : Value).ownBlock) v9 x9_2) ∧ Aside0 (Kd.R (Kd.int .i64) 3 w' w.heap.size (fun _ => True) v228 t227) ∧ Aside0 (w'.heap[gb207]? = some (.cells #[.int .i64 a0_0, (.slice A0_1 l0_1.length c0_1), (.slice A0_2 l0_2.length c0_2)] 31 (0, 0))) ∧ Aside0 (w'.heap[gb208]? = some (.cells #[.int .i64 a1_0, (.slice A1_1 l1_1.length c1_1), (.slice A1_2 l1_2.length c1_2)] 31 (0, 0))) ∧ Aside0 (Below w.heap.size w w'))
    case atStart => exact ⟨(x9_1), (0), zF, H', ⟨Nat.le_refl _⟩, ⟨by (with_reducible repeat (first | apply Kd.S_alloc | apply Kd.S_drewN | apply Kd.S_drew)); exact Kd.S_mono HO_9.out (fun _ hk => hk.2)⟩, ⟨by (with_reducible repeat (first | apply Kd.R_alloc | apply Kd.R_drewN | apply Kd.R_drew)); exact Kd.R_mono HO229.out (fun _ hk => trivial)⟩, ⟨zK BK207⟩, ⟨zK BK208⟩, ⟨zB HB⟩⟩
    case round =>
     clear H'
     try clear c1
     try clear c2
     try clear p2
     try clear q2
     try clear hx2
     try clear c3
     try clear c4
     try clear c5
     try clear p6
     try clear c13
     try clear c13b0
     try clear c14
     try clear c16
     try clear c16b0
     try clear c18
     try clear c19
     try clear c20
     try clear c21
     try clear p21
     try clear q21
     try clear hx21
     try clear c22
     try clear p22
     try clear q22
     try clear hx22
     try clear c37
     try clear hcz38_0
     try clear hcz38_1
     try clear hcz38_2
     try clear hfz38_0
     try clear hfz38_1
     try clear hfz38_2
     try clear hx215_0
     try clear hx217_0
     try clear hx219_0
     try clear hx219_1
     try clear hx219_2
     try clear hx219_3
     try clear hx220_0
     try clear hx220_1
     try clear hx220_2
     try clear hx220_3
     try clear p215
     try clear p217
     try clear p219
     try clear p220
     try clear q215
     try clear q217
     try clear q219
     try clear q220
     obtain ⟨x9_2, x13_2, rfl, HA, HK2, HO_9, HO_10, BK207, BK208, HB⟩ := hrel
     cases gk with
     | zero => exact absurd HA.out (by simp [spec_NextPairs.l1])
     | succ k2 =>
      have H := HA.out
      clear HA
      simp only [spec_NextPairs.l1] at H
      by_cases c40 : x13_2 < (t227.length : Int)
      ·rw [if_pos c40] at H
       have c40b0 : decide (x13_2 < (t227.length : Int)) = true := decide_eq_true c40
       clear c40
       by_cases c41 : 0 ≤ x13_2
       ·rw [if_pos c41] at H
        have c41b0 : decide (0 ≤ x13_2) = true := decide_eq_true c41
        clear c41
        replace H := Option.bind_eq_some_iff.mp H
        obtain ⟨t231, A420, H⟩ := H
        replace H : (if t231 ≥ 0 then (if 0 ≤ t231 then (if t231 < (l0_2.length : Int) then ((spec_MoveOf.f k2 a1_0 l1_1 l1_2 a3 true (rd t227 x13_2)).bind fun t234 => (if 0 ≤ t234 then (if t234 < (l1_2.length : Int) then (if x9_2.length < 5864062014805 then (spec_NextPairs.l1 k2 a2 a3 (x9_2 ++ [(([(rd_T64 l0_2 t231).f3, (rd_T64 l1_2 t234).f3] : List Int))]) t227 (wrap64 (x13_2 + 1)) a0_0 l0_1 l0_2 a1_0 l1_1 l1_2) else (none)) else (none)) else (none))) else (none)) else (none)) else (spec_NextPairs.l1 k2 a2 a3 x9_2 t227 (wrap64 (x13_2 + 1)) a0_0 l0_1 l0_2 a1_0 l1_1 l1_2)) = some r := H
        have A42 := Aside0.mk A420
        clear A420
        by_cases c43 : t231 ≥ 0
        ·rw [if_pos c43] at H
         have c43b0 : decide (0 ≤ t231) = true := decide_eq_true c43
         clear c43
         by_cases c44 : 0 ≤ t231
         ·rw [if_pos c44] at H
          have c44b0 : decide (0 ≤ t231) = true := decide_eq_true c44
          clear c44
          by_cases c45 : t231 < (l0_2.length : Int)
          ·rw [if_pos c45] at H
           have c45b0 : decide (t231 < (l0_2.length : Int)) = true := decide_eq_true c45
           clear c45
           replace H := Option.bind_eq_some_iff.mp H
           obtain ⟨t234, A460, H⟩ := H
           replace H : (if 0 ≤ t234 then (if t234 < (l1_2.length : Int) then (if x9_2.length < 5864062014805 then (spec_NextPairs.l1 k2 a2 a3 (x9_2 ++ [(([(rd_T64 l0_2 t231).f3, (rd_T64 l1_2 t234).f3] : List Int))]) t227 (wrap64 (x13_2 + 1)) a0_0 l0_1 l0_2 a1_0 l1_1 l1_2) else (none)) else (none)) else (none)) = some r := H
           have A46 := Aside0.mk A460
           clear A460
           by_cases c47 : 0 ≤ t234
           ·rw [if_pos c47] at H
            have c47b0 : decide (0 ≤ t234) = true := decide_eq_true c47
            clear c47
            by_cases c48 : t234 < (l1_2.length : Int)
            ·rw [if_pos c48] at H
             have c48b0 : decide (t234 < (l1_2.length : Int)) = true := decide_eq_true c48
             clear c48
             obtain ⟨y236, hy236⟩ : ∃ y_ : List Int, y_ = (([(rd_T64 l0_2 t231).f3, (rd_T64 l1_2 t234).f3] : List Int)) := ⟨_, rfl⟩
             replace H : (if x9_2.length < 5864062014805 then (spec_NextPairs.l1 k2 a2 a3 (x9_2 ++ [y236]) t227 (wrap64 (x13_2 + 1)) a0_0 l0_1 l0_2 a1_0 l1_1 l1_2) else (none)) = some r := by first | (rw [hy236]; with_reducible exact H) | (have H2_ := (Option.bind_some _ _).symm.trans H; rw [hy236]; with_reducible exact H2_) | (have H2_ := (Option.bind_some _ _).symm.trans H; with_reducible exact H2_) | with_reducible exact H | (rw [hy236]; exact H) | exact H
             have Ny236 := Aside0.mk hy236
             clear hy236
             by_cases c49 : x9_2.length < 5864062014805
             ·rw [if_pos c49] at H
              have LMc49 := Aside0.mk c49
              clear c49
              obtain ⟨y239, hy239⟩ : ∃ y_ : List (List Int), y_ = (x9_2 ++ [y236]) := ⟨_, rfl⟩
              replace H : (spec_NextPairs.l1 k2 a2 a3 y239 t227 (wrap64 (x13_2 + 1)) a0_0 l0_1 l0_2 a1_0 l1_1 l1_2) = some r := by first | (rw [hy239]; with_reducible exact H) | (have H2_ := (Option.bind_some _ _).symm.trans H; rw [hy239]; with_reducible exact H2_) | (have H2_ := (Option.bind_some _ _).symm.trans H; with_reducible exact H2_) | with_reducible exact H | (rw [hy239]; exact H) | exact H
              have Ny239 := Aside0.mk hy239
              clear hy239
              have H' := Aside0.mk H
              clear H
              obtain ⟨Ao50, co50, eo50⟩ := Kd.R_slice HO_10.out
              subst eo50
              try go_wp2
              have n0_ := Aside0.mk (Kd.S_drew HO_9.out)
              have n1_ := Aside0.mk (Kd.R_drew HO_10.out)
              have n2_ := Aside0.mk (blk_drew BK207.out)
              have n3_ := Aside0.mk (blk_drew BK208.out)
              have n4_ := Aside0.mk (below_drew1 HB.out)
              clear HO_9
              clear HO_10
              clear BK207
              clear BK208
              clear HB
              have HO_9 := n0_
              have HO_10 := n1_
              have BK207 := n2_
              have BK208 := n3_
              have HB := n4_
              clear n0_ n1_ n2_ n3_ n4_
              have p230 : 0 ≤ (x13_2 : Int) := of_decide_eq_true (by first | (with_reducible assumption) | assumption)
              have q230 : x13_2 < (t227.length : Int) := of_decide_eq_true (by first | (with_reducible assumption) | assumption)
              obtain ⟨ad230, e230, hx230_0⟩ := Kd.at_int (Kd.R_reads' HO_10.out).2.2 x13_2 p230 q230
              cases e230
              replace p230 := eq_true p230
              replace q230 := eq_true q230
              refine start_ (n := 8) (S := fun w' => w'.cell? ⟨gb207, 0, none⟩ = some (.int .i64 a0_0) ∧ w'.cell? ⟨gb207, 1, none⟩ = some (.slice A0_1 l0_1.length c0_1) ∧ w'.cell? ⟨gb207, 2, none⟩ = some (.slice A0_2 l0_2.length c0_2) ∧ w'.cell? (ad230.add (x13_2).toNat) = some (.int .i64 (rd t227 x13_2))) (ds := []) (bm 8 0) (by kernel_rfl) rfl (bm0 _) ⟨bc0 BK207, bc1 BK207, bc2 BK207, hx230_0⟩ (fun hHeld => ?_); refine with_tabW spec_NextPairs.tab13 spec_NextPairs.bits13 (fun HT_ HW_ => ?_)
              generalize wr.drew = w51 at HO_9 HO_10 BK207 BK208 HB hx230_0 hHeld ⊢
              refine pU 1 (some 66) (bm 8 2) HT_ rfl rfl ?_
              refine pU 2 (some 67) (bm 8 6) HT_ rfl rfl ?_
              refine pU 3 (some 68) (bm 8 14) HT_ rfl rfl ?_
              refine pU 4 (some 69) (bm 8 30) HT_ rfl rfl ?_
              refine tU 0 (some 65) (bm 8 31) HT_ HW_ rfl rfl hHeld ?_
              refine tU 5 (some 70) (bm 8 63) HT_ HW_ rfl rfl hHeld ?_
              refine one_ (i := 6) (N := some 71) (bm 8 127) rfl rfl (one_of HT_.out (by kernel_rfl)) (by decide) (fun K hK => ?_)
              refine goes_ Try.func50 (by kernel_rfl) rfl #[.agg #[.int .i64 a0_0, .slice A0_1 l0_1.length c0_1, .slice A0_2 l0_2.length c0_2], .int .i64 a2, .bool false, .int .i64 (rd t227 x13_2)] (by rfl) rfl rfl zG ?_
              with_reducible refine (spec_MoveOf.calls k2 a0_0 _ _ l0_1 _ _ l0_2 a2 false (rd t227 x13_2) t231 _ ?side1 ?side2 ?side3 ?side4 A42.out).mono ?_
              (case side1 => exact cS HR0_1 HB)
              (case side2 => exact HC0_1.out)
              (case side3 => exact cS HR0_2 HB)
              (case side4 => exact HC0_2.out)
              rintro e w52 ⟨rfl, hb⟩
              have HS3_ := (hb.cell (World.block_lt_of_cell? _ _ (hHeld.2.2.2))).trans (hHeld.2.2.2)
              refine ⟨_, rfl, ?_⟩
              have n0_ := Aside0.mk (Kd.S_below (zS HO_9) hb)
              have n1_ := Aside0.mk (Kd.R_below (zR HO_10) hb)
              have n2_ := kB BK207 hb
              have n3_ := kB BK208 hb
              have n4_ := bS HB hb
              clear HO_9
              clear HO_10
              clear BK207
              clear BK208
              clear HB
              have HO_9 := n0_
              have HO_10 := n1_
              have BK207 := n2_
              have BK208 := n3_
              have HB := n4_
              clear n0_ n1_ n2_ n3_ n4_
              (try clear hb)
              (try clear hb2)
              (try clear hk)
              (try clear hi)
              refine hK.out _ _ ⟨bc0 BK207, bc1 BK207, bc2 BK207, HS3_⟩ (fun hHeld => ?_)
              clear hK K
              refine norm_ (a' := ?_) ?_ ?_
              rotate_left
              ·show Act.put _ (some 71) _ = _
               simp only [Act.put, List.setIfInBounds_toArray, List.set_cons_zero, List.set_cons_succ, i64_w, i32_w]
               rfl
              refine pU 7 (some 14) (bm 8 255) HT_ rfl rfl ?_
              refine done_ (done_of HT_.out (by kernel_rfl)) ?_
              try clear hHeld
              try go_wp2
              have n0_ := Aside0.mk (Kd.S_drew HO_9.out)
              have n1_ := Aside0.mk (Kd.R_drew HO_10.out)
              have n2_ := Aside0.mk (blk_drew BK207.out)
              have n3_ := Aside0.mk (blk_drew BK208.out)
              have n4_ := Aside0.mk (below_drew1 HB.out)
              clear HO_9
              clear HO_10
              clear BK207
              clear BK208
              clear HB
              have HO_9 := n0_
              have HO_10 := n1_
              have BK207 := n2_
              have BK208 := n3_
              have HB := n4_
              clear n0_ n1_ n2_ n3_ n4_
              have p232 : 0 ≤ (t231 : Int) := of_decide_eq_true (by first | (with_reducible assumption) | assumption)
              have q232 : t231 < (l0_2.length : Int) := of_decide_eq_true (by first | (with_reducible assumption) | assumption)
              obtain ⟨ad232, e232, hx232_0, hx232_1, hx232_2, hx232_3⟩ := at_T64 HR0_2.out t231 p232 q232
              have hw232_3 := hx232_3
              have hw232_2 := hx232_2
              have hw232_1 := hx232_1
              have hw232_0 := hx232_0
              cases e232
              replace hx232_0 := (HB.out.cell (World.block_lt_of_cell? w _ hx232_0)).trans hx232_0
              replace hx232_1 := (HB.out.cell (World.block_lt_of_cell? w _ hx232_1)).trans hx232_1
              replace hx232_2 := (HB.out.cell (World.block_lt_of_cell? w _ hx232_2)).trans hx232_2
              replace hx232_3 := (HB.out.cell (World.block_lt_of_cell? w _ hx232_3)).trans hx232_3
              replace p232 := eq_true p232
              replace q232 := eq_true q232
              have p233 : 0 ≤ (x13_2 : Int) := of_decide_eq_true (by first | (with_reducible assumption) | assumption)
              have q233 : x13_2 < (t227.length : Int) := of_decide_eq_true (by first | (with_reducible assumption) | assumption)
              obtain ⟨ad233, e233, hx233_0⟩ := Kd.at_int (Kd.R_reads' HO_10.out).2.2 x13_2 p233 q233
              obtain rfl : ad230 = ad233 := (by injection e233)
              replace p233 := eq_true p233
              replace q233 := eq_true q233
              have p235 : 0 ≤ (t234 : Int) := of_decide_eq_true (by first | (with_reducible assumption) | assumption)
              have q235 : t234 < (l1_2.length : Int) := of_decide_eq_true (by first | (with_reducible assumption) | assumption)
              obtain ⟨ad235, e235, hx235_0, hx235_1, hx235_2, hx235_3⟩ := at_T64 HR1_2.out t234 p235 q235
              have hw235_3 := hx235_3
              have hw235_2 := hx235_2
              have hw235_1 := hx235_1
              have hw235_0 := hx235_0
              cases e235
              replace hx235_0 := (HB.out.cell (World.block_lt_of_cell? w _ hx235_0)).trans hx235_0
              replace hx235_1 := (HB.out.cell (World.block_lt_of_cell? w _ hx235_1)).trans hx235_1
              replace hx235_2 := (HB.out.cell (World.block_lt_of_cell? w _ hx235_2)).trans hx235_2
              replace hx235_3 := (HB.out.cell (World.block_lt_of_cell? w _ hx235_3)).trans hx235_3
              replace p235 := eq_true p235
              replace q235 := eq_true q235
              refine start_ (n := 23) (S := fun w' => w'.cell? ⟨gb207, 0, none⟩ = some (.int .i64 a0_0) ∧ w'.cell? ⟨gb207, 1, none⟩ = some (.slice A0_1 l0_1.length c0_1) ∧ w'.cell? ⟨gb207, 2, none⟩ = some (.slice (some ad232) l0_2.length c0_2) ∧ w'.cell? ⟨gb208, 0, none⟩ = some (.int .i64 a1_0) ∧ w'.cell? ⟨gb208, 1, none⟩ = some (.slice A1_1 l1_1.length c1_1) ∧ w'.cell? ⟨gb208, 2, none⟩ = some (.slice (some ad235) l1_2.length c1_2) ∧ w'.cell? (ad232.add ((t231).toNat * 4)) = some (.int .i64 ((rd_T64 l0_2 t231).f0)) ∧ w'.cell? ⟨(ad232.add ((t231).toNat * 4)).block, (ad232.add ((t231).toNat * 4)).off + 1, none⟩ = some (.bool ((rd_T64 l0_2 t231).f1)) ∧ w'.cell? ⟨(ad232.add ((t231).toNat * 4)).block, (ad232.add ((t231).toNat * 4)).off + 2, none⟩ = some (.int .i64 ((rd_T64 l0_2 t231).f2)) ∧ w'.cell? ⟨(ad232.add ((t231).toNat * 4)).block, (ad232.add ((t231).toNat * 4)).off + 3, none⟩ = some (.int .i64 ((rd_T64 l0_2 t231).f3)) ∧ w'.cell? (ad230.add (x13_2).toNat) = some (.int .i64 (rd t227 x13_2)) ∧ w'.cell? (ad235.add ((t234).toNat * 4)) = some (.int .i64 ((rd_T64 l1_2 t234).f0)) ∧ w'.cell? ⟨(ad235.add ((t234).toNat * 4)).block, (ad235.add ((t234).toNat * 4)).off + 1, none⟩ = some (.bool ((rd_T64 l1_2 t234).f1)) ∧ w'.cell? ⟨(ad235.add ((t234).toNat * 4)).block, (ad235.add ((t234).toNat * 4)).off + 2, none⟩ = some (.int .i64 ((rd_T64 l1_2 t234).f2)) ∧ w'.cell? ⟨(ad235.add ((t234).toNat * 4)).block, (ad235.add ((t234).toNat * 4)).off + 3, none⟩ = some (.int .i64 ((rd_T64 l1_2 t234).f3))) (ds := [20, 21]) (bm 23 0) (by kernel_rfl) rfl (bm0 _) ⟨bc0 BK207, bc1 BK207, bc2 BK207, bc0 BK208, bc1 BK208, bc2 BK208, ((HB.out.cell (World.block_lt_of_cell? w _ hw232_0)).trans hw232_0), ((HB.out.cell (World.block_lt_of_cell? w _ hw232_1)).trans hw232_1), ((HB.out.cell (World.block_lt_of_cell? w _ hw232_2)).trans hw232_2), ((HB.out.cell (World.block_lt_of_cell? w _ hw232_3)).trans hw232_3), hx233_0, ((HB.out.cell (World.block_lt_of_cell? w _ hw235_0)).trans hw235_0), ((HB.out.cell (World.block_lt_of_cell? w _ hw235_1)).trans hw235_1), ((HB.out.cell (World.block_lt_of_cell? w _ hw235_2)).trans hw235_2), ((HB.out.cell (World.block_lt_of_cell? w _ hw235_3)).trans hw235_3)⟩ (fun hHeld => ?_); refine with_tabW spec_NextPairs.tab15 spec_NextPairs.bits15 (fun HT_ HW_ => ?_)
              generalize w52.drew = w53 at HO_9 HO_10 BK207 BK208 HB hx232_0 hx232_1 hx232_2 hx232_3 hx233_0 hx235_0 hx235_1 hx235_2 hx235_3 hHeld ⊢
              refine pU 0 (some 74) (bm 23 1) HT_ rfl rfl ?_
              refine pU 1 (some 75) (bm 23 3) HT_ rfl rfl ?_
              refine pU 3 (some 77) (bm 23 11) HT_ rfl rfl ?_
              refine pU 7 (some 81) (bm 23 139) HT_ rfl rfl ?_
              refine pU 10 (some 84) (bm 23 1163) HT_ rfl rfl ?_
              refine pU 11 (some 85) (bm 23 3211) HT_ rfl rfl ?_
              refine pU 12 (some 86) (bm 23 7307) HT_ rfl rfl ?_
              refine pU 13 (some 87) (bm 23 15499) HT_ rfl rfl ?_
              refine tU 2 (some 76) (bm 23 15503) HT_ HW_ rfl rfl hHeld ?_
              refine pU 4 (some 78) (bm 23 15519) HT_ rfl rfl ?_
              refine pU 5 (some 79) (bm 23 15551) HT_ rfl rfl ?_
              refine tU 6 (some 80) (bm 23 15615) HT_ HW_ rfl rfl hHeld ?_
              refine tU 8 (some 82) (bm 23 15871) HT_ HW_ rfl rfl hHeld ?_
              refine tU 9 (some 83) (bm 23 16383) HT_ HW_ rfl rfl hHeld ?_
              refine tU 14 (some 88) (bm 23 32767) HT_ HW_ rfl rfl hHeld ?_
              refine one_ (i := 15) (N := some 89) (bm 23 65535) rfl rfl (one_of HT_.out (by kernel_rfl)) (by decide) (fun K hK => ?_)
              refine goes_ Try.func50 (by kernel_rfl) rfl #[.agg #[.int .i64 a1_0, .slice A1_1 l1_1.length c1_1, .slice (some ad235) l1_2.length c1_2], .int .i64 a3, .bool true, .int .i64 (rd t227 x13_2)] (by rfl) rfl rfl zG ?_
              with_reducible refine (spec_MoveOf.calls k2 a1_0 _ _ l1_1 _ _ l1_2 a3 true (rd t227 x13_2) t234 _ ?side1 ?side2 ?side3 ?side4 A46.out).mono ?_
              (case side1 => exact cS HR1_1 HB)
              (case side2 => exact HC1_1.out)
              (case side3 => exact cS HR1_2 HB)
              (case side4 => exact HC1_2.out)
              rintro e w54 ⟨rfl, hb⟩
              have HS10_ := (hb.cell (World.block_lt_of_cell? _ _ (hHeld.2.2.2.2.2.2.2.2.2.2.1))).trans (hHeld.2.2.2.2.2.2.2.2.2.2.1)
              refine ⟨_, rfl, ?_⟩
              have n0_ := Aside0.mk (Kd.S_below (zS HO_9) hb)
              have n1_ := Aside0.mk (Kd.R_below (zR HO_10) hb)
              have n2_ := kB BK207 hb
              have n3_ := kB BK208 hb
              have n4_ := bS HB hb
              clear HO_9
              clear HO_10
              clear BK207
              clear BK208
              clear HB
              have HO_9 := n0_
              have HO_10 := n1_
              have BK207 := n2_
              have BK208 := n3_
              have HB := n4_
              clear n0_ n1_ n2_ n3_ n4_
              (try clear hb)
              (try clear hb2)
              (try clear hk)
              (try clear hi)
              refine hK.out _ _ ⟨bc0 BK207, bc1 BK207, bc2 BK207, bc0 BK208, bc1 BK208, bc2 BK208, ((HB.out.cell (World.block_lt_of_cell? w _ hw232_0)).trans hw232_0), ((HB.out.cell (World.block_lt_of_cell? w _ hw232_1)).trans hw232_1), ((HB.out.cell (World.block_lt_of_cell? w _ hw232_2)).trans hw232_2), ((HB.out.cell (World.block_lt_of_cell? w _ hw232_3)).trans hw232_3), HS10_, ((HB.out.cell (World.block_lt_of_cell? w _ hw235_0)).trans hw235_0), ((HB.out.cell (World.block_lt_of_cell? w _ hw235_1)).trans hw235_1), ((HB.out.cell (World.block_lt_of_cell? w _ hw235_2)).trans hw235_2), ((HB.out.cell (World.block_lt_of_cell? w _ hw235_3)).trans hw235_3)⟩ (fun hHeld => ?_)
              clear hK K
              refine norm_ (a' := ?_) ?_ ?_
              rotate_left
              ·show Act.put _ (some 89) _ = _
               simp only [Act.put, List.setIfInBounds_toArray, List.set_cons_zero, List.set_cons_succ, i64_w, i32_w]
               rfl
              refine pU 16 (some 90) (bm 23 131071) HT_ rfl rfl ?_
              refine pU 17 (some 91) (bm 23 262143) HT_ rfl rfl ?_
              refine tU 18 (some 92) (bm 23 524287) HT_ HW_ rfl rfl hHeld ?_
              refine one_ (i := 19) (N := some 93) (bm 23 1048575) rfl rfl (one_of HT_.out (by kernel_rfl)) (by decide) (fun K hK => ?_)
              refine Kd.R_lit_step (Kd.int .i64) _ 3 ?hg (N := 93) ?hd (xs := ([(rd_T64 l0_2 t231).f3, (rd_T64 l1_2 t234).f3] : List Int)) (inner := [.int .i64 ((rd_T64 l0_2 t231).f3), .int .i64 ((rd_T64 l1_2 t234).f3)]) (ok := fun _ => True) (okp := fun _ => True) ?hr ?hp (fun _ hk => hk) trivial (Below.refl _ _) (Nat.le_refl _) (by simp) ?_; (case hd => rfl); (case hg => rfl); (case hr => first | (go_simp; done) | (go_simp; rfl)); (case hp => exact (Reps.one (show Kd.M (Kd.int .i64) _ _ _ ((rd_T64 l0_2 t231).f3) [.int .i64 ((rd_T64 l0_2 t231).f3)] from rfl) (Reps.one (show Kd.M (Kd.int .i64) _ _ _ ((rd_T64 l1_2 t234).f3) [.int .i64 ((rd_T64 l1_2 t234).f3)] from rfl) (Reps.none _ _))))
              intro v237 w55 ho56 hb hg_ hnew_
              have HS10_ := (hb.cell (World.block_lt_of_cell? _ _ (hHeld.2.2.2.2.2.2.2.2.2.2.1))).trans (hHeld.2.2.2.2.2.2.2.2.2.2.1)
              clear hg_ hnew_
              (first | rw [← Ny236.out] at ho56 | (simp only [Int.reduceToNat] at ho56; rw [← Ny236.out] at ho56))
              have n0_ := Aside0.mk (Kd.S_elder' (zS HO_9) (Kd.R_base ho56) hb)
              have n1_ := Aside0.mk (Kd.R_elder' (zR HO_10) (Kd.R_base ho56) hb)
              have n2_ := Aside0.mk (Kd.R_lower (Kd.R_new' ho56 (Kd.R_lt (zR HO_10))) (below_size (zB HB)))
              have n3_ := kB BK207 hb
              have n4_ := kB BK208 hb
              have n5_ := bS HB hb
              clear HO_9
              clear HO_10
              clear BK207
              clear BK208
              clear HB
              have HO_9 := n0_
              have HO_10 := n1_
              have HO238 := n2_
              have BK207 := n3_
              have BK208 := n4_
              have HB := n5_
              clear n0_ n1_ n2_ n3_ n4_ n5_
              clear hb ho56
              obtain ⟨Ao58, co58, eo58⟩ := Kd.R_slice HO238.out
              (first | subst eo58 | (injection eo58 with f1_ f2_ f3_; have f4_ := f1_.symm; have f5_ := f3_.symm; clear f1_ f2_ f3_; subst f4_; subst f5_))
              refine hK.out _ _ ⟨bc0 BK207, bc1 BK207, bc2 BK207, bc0 BK208, bc1 BK208, bc2 BK208, ((HB.out.cell (World.block_lt_of_cell? w _ hw232_0)).trans hw232_0), ((HB.out.cell (World.block_lt_of_cell? w _ hw232_1)).trans hw232_1), ((HB.out.cell (World.block_lt_of_cell? w _ hw232_2)).trans hw232_2), ((HB.out.cell (World.block_lt_of_cell? w _ hw232_3)).trans hw232_3), HS10_, ((HB.out.cell (World.block_lt_of_cell? w _ hw235_0)).trans hw235_0), ((HB.out.cell (World.block_lt_of_cell? w _ hw235_1)).trans hw235_1), ((HB.out.cell (World.block_lt_of_cell? w _ hw235_2)).trans hw235_2), ((HB.out.cell (World.block_lt_of_cell? w _ hw235_3)).trans hw235_3)⟩ (fun hHeld => ?_)
              clear hK K
              refine norm_ (a' := ?_) ?_ ?_
              rotate_left
              ·show Act.put _ (some 93) _ = _
               simp only [Act.put, List.setIfInBounds_toArray, List.set_cons_zero, List.set_cons_succ, i64_w, i32_w]
               rfl
              refine last_ (i := 20) (N := some 94) (bm 23 2097151) rfl rfl (one_of HT_.out (by kernel_rfl)) (by decide) (fun K hK => ?_)
              refine value_ (w1 := ?_) (v := ?_) (by rfl) rfl ?_ ?_
              rotate_left 2
              ·go_simp
               constructor
               ·rfl
               ·rfl
              refine hK.out _ _ ?_
              clear hK K
              refine norm_ (a' := ?_) ?_ ?_
              rotate_left
              ·show Act.put _ (some 94) _ = _
               simp only [Act.put, List.setIfInBounds_toArray, List.set_cons_zero, List.set_cons_succ, i64_w, i32_w]
               rfl
              refine last_ (i := 21) (N := some 95) (bm 23 4194303) rfl rfl (one_of HT_.out (by kernel_rfl)) (by decide) (fun K hK => ?_)
              refine Kd.S_append_step (Kd.slice 3 (Kd.int .i64)) (w0 := w) w.heap.size (by rfl) (.tmp 74) (.tmp 94) 27 38 (.slice none 0 0) 24 rfl Try.underlying27 info38 rfl (by decide) (by omega) u9 x9_2 y236 [.slice Ao58 y236.length co58] (fun k_ => some k_ ≠ (.slice (some ad230) t227.length co50 : Value).ownBlock) (fun k_ => some k_ = (.slice Ao58 y236.length co58 : Value).ownBlock) rfl rfl ?aP (fun k_ hk_ => ((Kd.R_mono (ok' := fun k_ => ((fun k_ => some k_ ≠ (.slice (some ad230) t227.length co50 : Value).ownBlock)) k_ ∧ some k_ ≠ (u9 : Value).ownBlock) (Kd.R_apart' (HO238.out) (Kd.S_typed HO_9.out) (by decide)) (fun k_ hk => ⟨hk.1.2, hk.2⟩))).1 k_ hk_.symm) ?aF ?aO ?aB ?aS ?aL ?_
              (case aP => exact Kd.M_row (Kd.R_mono (Kd.R_tight rfl (Kd.R_mono (ok' := fun k_ => ((fun k_ => some k_ ≠ (.slice (some ad230) t227.length co50 : Value).ownBlock)) k_ ∧ some k_ ≠ (u9 : Value).ownBlock) (Kd.R_apart' (HO238.out) (Kd.S_typed HO_9.out) (by decide)) (fun k_ hk => ⟨hk.1.2, hk.2⟩))) (fun _ h_ => h_)))
              (case aB => exact (zB HB))
              (case aF => exact (fun k_ hk => Kd.fresh' (Kd.R_lt (zR HO_10)) k_ hk))
              (case aO => exact (by (with_reducible repeat (first | apply Kd.S_alloc | apply Kd.S_drewN | apply Kd.S_drew)); exact Kd.S_mono HO_9.out (fun k_ hk => ⟨hk.1, fun e_ => hk.2 e_⟩)))
              (case aS => exact (below_size (zB HB)))
              (case aL => have := LMc49.out; omega)
              intro v240 w57 ho hb hg hat
              rw [← Ny239.out] at ho
              have n0_ := Aside0.mk (Kd.R_over' (zR HO_10) (Kd.S_typed (zS HO_9)) (by decide) hg)
              have n1_ := Aside0.mk (blk_grown (g := gb207) (o := .cells #[.int .i64 a0_0, .slice A0_1 l0_1.length c0_1, .slice (some ad232) l0_2.length c0_2] 31 (0, 0)) (zK BK207) hg (Kd.S_ne HO_9.out BK207.out (by decide)))
              have n2_ := Aside0.mk (blk_grown (g := gb208) (o := .cells #[.int .i64 a1_0, .slice A1_1 l1_1.length c1_1, .slice (some ad235) l1_2.length c1_2] 31 (0, 0)) (zK BK208) hg (Kd.S_ne HO_9.out BK208.out (by decide)))
              have n3_ := Aside0.mk (hb)
              have n4_ := Aside0.mk (ho)
              clear HO_10
              clear BK207
              clear BK208
              clear HB
              clear HO_9
              clear HO238
              have HO_10 := n0_
              have BK207 := n1_
              have BK208 := n2_
              have HB := n3_
              have HO241 := n4_
              clear n0_ n1_ n2_ n3_ n4_
              clear ho hb hg hat
              refine hK.out _ _ ?_
              clear hK K
              refine norm_ (a' := ?_) ?_ ?_
              rotate_left
              ·show Act.put _ (some 95) _ = _
               simp only [Act.put, List.setIfInBounds_toArray, List.set_cons_zero, List.set_cons_succ, i64_w, i32_w]
               rfl
              refine pU 22 (some 9) (bm 23 8388607) HT_ rfl rfl ?_
              refine done_ (done_of HT_.out (by kernel_rfl)) ?_
              try clear hHeld
              try go_wp2
              go_roundg k2
              case measure => have := HK1.out; have := HK2.out; omega
              case rel => exact ⟨(y239), (wrap64 (x13_2 + 1)), zF, H', ⟨by have := HK1.out; have := HK2.out; omega⟩, ⟨zS HO241⟩, ⟨by (with_reducible repeat (first | apply Kd.R_alloc | apply Kd.R_drewN | apply Kd.R_drew)); exact Kd.R_mono HO_10.out (fun _ hk => trivial)⟩, ⟨zK BK207⟩, ⟨zK BK208⟩, ⟨zB HB⟩⟩
             ·rw [if_neg c49] at H
              exact absurd H (by simp)
            ·rw [if_neg c48] at H
             exact absurd H (by simp)
           ·rw [if_neg c47] at H
            exact absurd H (by simp)
          ·rw [if_neg c45] at H
           exact absurd H (by simp)
         ·rw [if_neg c44] at H
          exact absurd H (by simp)
        ·rw [if_neg c43] at H
         have c43b0 : decide (0 ≤ t231) = false := decide_eq_false c43
         clear c43
         have H' := Aside0.mk H
         clear H
         obtain ⟨Ao59, co59, eo59⟩ := Kd.R_slice HO_10.out
         subst eo59
         try go_wp2
         have n0_ := Aside0.mk (Kd.S_drew HO_9.out)
         have n1_ := Aside0.mk (Kd.R_drew HO_10.out)
         have n2_ := Aside0.mk (blk_drew BK207.out)
         have n3_ := Aside0.mk (blk_drew BK208.out)
         have n4_ := Aside0.mk (below_drew1 HB.out)
         clear HO_9
         clear HO_10
         clear BK207
         clear BK208
         clear HB
         have HO_9 := n0_
         have HO_10 := n1_
         have BK207 := n2_
         have BK208 := n3_
         have HB := n4_
         clear n0_ n1_ n2_ n3_ n4_
         have p230 : 0 ≤ (x13_2 : Int) := of_decide_eq_true (by first | (with_reducible assumption) | assumption)
         have q230 : x13_2 < (t227.length : Int) := of_decide_eq_true (by first | (with_reducible assumption) | assumption)
         obtain ⟨ad230, e230, hx230_0⟩ := Kd.at_int (Kd.R_reads' HO_10.out).2.2 x13_2 p230 q230
         cases e230
         replace p230 := eq_true p230
         replace q230 := eq_true q230
         refine start_ (n := 8) (S := fun w' => w'.cell? ⟨gb207, 0, none⟩ = some (.int .i64 a0_0) ∧ w'.cell? ⟨gb207, 1, none⟩ = some (.slice A0_1 l0_1.length c0_1) ∧ w'.cell? ⟨gb207, 2, none⟩ = some (.slice A0_2 l0_2.length c0_2) ∧ w'.cell? (ad230.add (x13_2).toNat) = some (.int .i64 (rd t227 x13_2))) (ds := []) (bm 8 0) (by kernel_rfl) rfl (bm0 _) ⟨bc0 BK207, bc1 BK207, bc2 BK207, hx230_0⟩ (fun hHeld => ?_); refine with_tabW spec_NextPairs.tab13 spec_NextPairs.bits13 (fun HT_ HW_ => ?_)
         generalize wr.drew = w60 at HO_9 HO_10 BK207 BK208 HB hx230_0 hHeld ⊢
         refine pU 1 (some 66) (bm 8 2) HT_ rfl rfl ?_
         refine pU 2 (some 67) (bm 8 6) HT_ rfl rfl ?_
         refine pU 3 (some 68) (bm 8 14) HT_ rfl rfl ?_
         refine pU 4 (some 69) (bm 8 30) HT_ rfl rfl ?_
         refine tU 0 (some 65) (bm 8 31) HT_ HW_ rfl rfl hHeld ?_
         refine tU 5 (some 70) (bm 8 63) HT_ HW_ rfl rfl hHeld ?_
         refine one_ (i := 6) (N := some 71) (bm 8 127) rfl rfl (one_of HT_.out (by kernel_rfl)) (by decide) (fun K hK => ?_)
         refine goes_ Try.func50 (by kernel_rfl) rfl #[.agg #[.int .i64 a0_0, .slice A0_1 l0_1.length c0_1, .slice A0_2 l0_2.length c0_2], .int .i64 a2, .bool false, .int .i64 (rd t227 x13_2)] (by rfl) rfl rfl zG ?_
         with_reducible refine (spec_MoveOf.calls k2 a0_0 _ _ l0_1 _ _ l0_2 a2 false (rd t227 x13_2) t231 _ ?side1 ?side2 ?side3 ?side4 A42.out).mono ?_
         (case side1 => exact cS HR0_1 HB)
         (case side2 => exact HC0_1.out)
         (case side3 => exact cS HR0_2 HB)
         (case side4 => exact HC0_2.out)
         rintro e w61 ⟨rfl, hb⟩
         have HS3_ := (hb.cell (World.block_lt_of_cell? _ _ (hHeld.2.2.2))).trans (hHeld.2.2.2)
         refine ⟨_, rfl, ?_⟩
         have n0_ := Aside0.mk (Kd.S_below (zS HO_9) hb)
         have n1_ := Aside0.mk (Kd.R_below (zR HO_10) hb)
         have n2_ := kB BK207 hb
         have n3_ := kB BK208 hb
         have n4_ := bS HB hb
         clear HO_9
         clear HO_10
         clear BK207
         clear BK208
         clear HB
         have HO_9 := n0_
         have HO_10 := n1_
         have BK207 := n2_
         have BK208 := n3_
         have HB := n4_
         clear n0_ n1_ n2_ n3_ n4_
         (try clear hb)
         (try clear hb2)
         (try clear hk)
         (try clear hi)
         refine hK.out _ _ ⟨bc0 BK207, bc1 BK207, bc2 BK207, HS3_⟩ (fun hHeld => ?_)
         clear hK K
         refine norm_ (a' := ?_) ?_ ?_
         rotate_left
         ·show Act.put _ (some 71) _ = _
          simp only [Act.put, List.setIfInBounds_toArray, List.set_cons_zero, List.set_cons_succ, i64_w, i32_w]
          rfl
         refine pU 7 (some 14) (bm 8 255) HT_ rfl rfl ?_
         refine done_ (done_of HT_.out (by kernel_rfl)) ?_
         try clear hHeld
         try go_wp2
         go_roundg k2
         case measure => have := HK1.out; have := HK2.out; omega
         case rel => exact ⟨(x9_2), (wrap64 (x13_2 + 1)), zF, H', ⟨by have := HK1.out; have := HK2.out; omega⟩, ⟨zS HO_9⟩, ⟨zR HO_10⟩, ⟨zK BK207⟩, ⟨zK BK208⟩, ⟨zB HB⟩⟩
       ·rw [if_neg c41] at H
        exact absurd H (by simp)
      ·rw [if_neg c40] at H
       have c40b0 : decide (x13_2 < (t227.length : Int)) = false := decide_eq_false c40
       clear c40
       obtain rfl := Option.some.inj H
       obtain ⟨Ao62, co62, eo62⟩ := Kd.R_slice HO_10.out
       subst eo62
       go_wp2
       go_ret
       exact ⟨_, by first | rfl | (simp [errW_none, errW_some] <;> rfl) | (simp [*, errW_none, errW_some] <;> rfl), by (with_reducible repeat (first | apply Kd.S_alloc | apply Kd.S_drewN | apply Kd.S_drew)); exact Kd.S_mono HO_9.out (fun _ hk => trivial), by repeat (first | (with_reducible first | exact HB.out | apply below_alloc | apply pw_below_drewN | apply below_drew1 | refine below_set ?_ GE207.out | refine below_set ?_ GE208.out) | exact HB.out)⟩

end Go.Proofs.Ytmenijbpglknbaa.PFnExactIsSafe
