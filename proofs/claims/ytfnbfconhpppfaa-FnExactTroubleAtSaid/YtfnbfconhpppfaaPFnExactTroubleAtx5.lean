-- WRITTEN by pp.py, this session's own wrapper around the print; not trusted: Lean checks it
import Derived.Test.YtfnbfconhpppfaaPFnExactTroubleAtx0
import Derived.Test.YtfnbfconhpppfaaPFnExactTroubleAtx2
import Derived.Test.YtfnbfconhpppfaaPFnExactTroubleAtx4
namespace Go.Proofs.Ytfnbfconhpppfaa.PFnExactTroubleAt
open Go.RowKit Go.Proofs.Ytfnbfconhpppfaa.Hw Go.Proofs.YtfnbfconhpppfaaW.PrintWords Go.Proofs.YtfnbfconhpppfaaW.PrintLast Go.Proofs.YtfnbfconhpppfaaW.PrintMore
attribute [local go_sem] max2_int min2_int max_two min_two max_three min_three max_four min_four   -- for this text's walks alone
set_option linter.unusedVariables false
set_option linter.unusedSimpArgs false
set_option linter.unusedSectionVars false

/-! ### spec_NextPairs: function 58 -/
mutual
def spec_NextPairs.l0 : Nat → Int → Int → List (List Int) → List Int → Int → Int → List Bool → List (S80) → Int → List Bool → List (S80) → Option ((List (List Int)))
 | 0, _, _, _, _, _, _, _, _, _, _, _ => none
 | k + 1, x2, x3, x9, x10, x11, x197000, x197001, x197002, x198000, x198001, x198002 => if x11 < (x10.length : Int) then (if 0 ≤ x11 then ((spec_MoveOf.f k x198000 x198001 x198002 x3 false (rd x10 x11)).bind fun t205 => (if t205 ≥ 0 then ((spec_MoveOf.f k x197000 x197001 x197002 x2 true (rd x10 x11)).bind fun t207 => (if 0 ≤ t207 then (if t207 < (x197002.length : Int) then (if 0 ≤ t205 then (if t205 < (x198002.length : Int) then (if x9.length < 5864062014805 then (spec_NextPairs.l0 k x2 x3 (x9 ++ [(([(rd_T80 x197002 t207).f3, (rd_T80 x198002 t205).f3] : List Int))]) x10 (wrap64 (x11 + 1)) x197000 x197001 x197002 x198000 x198001 x198002) else (none)) else (none)) else (none)) else (none)) else (none))) else (spec_NextPairs.l0 k x2 x3 x9 x10 (wrap64 (x11 + 1)) x197000 x197001 x197002 x198000 x198001 x198002))) else (none)) else ((spec_MovesFrom.f k x198000 x198001 x198002 x3 true).bind fun t216 => (spec_NextPairs.l1 k x2 x3 x9 t216 0 x197000 x197001 x197002 x198000 x198001 x198002))
def spec_NextPairs.l1 : Nat → Int → Int → List (List Int) → List Int → Int → Int → List Bool → List (S80) → Int → List Bool → List (S80) → Option ((List (List Int)))
 | 0, _, _, _, _, _, _, _, _, _, _, _ => none
 | k + 1, x2, x3, x9, x10, x13, x197000, x197001, x197002, x198000, x198001, x198002 => if x13 < (x10.length : Int) then (if 0 ≤ x13 then ((spec_MoveOf.f k x197000 x197001 x197002 x2 false (rd x10 x13)).bind fun t220 => (if t220 ≥ 0 then (if 0 ≤ t220 then (if t220 < (x197002.length : Int) then ((spec_MoveOf.f k x198000 x198001 x198002 x3 true (rd x10 x13)).bind fun t223 => (if 0 ≤ t223 then (if t223 < (x198002.length : Int) then (if x9.length < 5864062014805 then (spec_NextPairs.l1 k x2 x3 (x9 ++ [(([(rd_T80 x197002 t220).f3, (rd_T80 x198002 t223).f3] : List Int))]) x10 (wrap64 (x13 + 1)) x197000 x197001 x197002 x198000 x198001 x198002) else (none)) else (none)) else (none))) else (none)) else (none)) else (spec_NextPairs.l1 k x2 x3 x9 x10 (wrap64 (x13 + 1)) x197000 x197001 x197002 x198000 x198001 x198002))) else (none)) else (some x9)
end
def spec_NextPairs.f (k : Nat) (a0_0 : Int) (l0_1 : List Bool) (l0_2 : List (S80)) (a1_0 : Int) (l1_1 : List Bool) (l1_2 : List (S80)) (a2 : Int) (a3 : Int) : Option ((List (List Int))) := (spec_MovesFrom.f k a0_0 l0_1 l0_2 a2 true).bind fun t201 => (spec_NextPairs.l0 k a2 a3 (([] : List (List Int))) t201 0 a0_0 l0_1 l0_2 a1_0 l1_1 l1_2)
theorem spec_NextPairs.mono_l : ∀ k, (∀ y0 y1 y2 y3 y4 y5 y6 y7 y8 y9 y10, LeO (spec_NextPairs.l0 k y0 y1 y2 y3 y4 y5 y6 y7 y8 y9 y10) (spec_NextPairs.l0 (k + 1) y0 y1 y2 y3 y4 y5 y6 y7 y8 y9 y10)) ∧ (∀ y0 y1 y2 y3 y4 y5 y6 y7 y8 y9 y10, LeO (spec_NextPairs.l1 k y0 y1 y2 y3 y4 y5 y6 y7 y8 y9 y10) (spec_NextPairs.l1 (k + 1) y0 y1 y2 y3 y4 y5 y6 y7 y8 y9 y10))
 | 0 => ⟨fun _ _ _ _ _ _ _ _ _ _ _ r h => by simp [spec_NextPairs.l0] at h, fun _ _ _ _ _ _ _ _ _ _ _ r h => by simp [spec_NextPairs.l1] at h⟩
 | k + 1 => by
  obtain ⟨ih0, ih1⟩ := spec_NextPairs.mono_l k
  refine ⟨?_, ?_⟩
  ·intro y0 y1 y2 y3 y4 y5 y6 y7 y8 y9 y10
   unfold spec_NextPairs.l0
   repeat' first
   | (with_reducible exact ih0 _ _ _ _ _ _ _ _ _ _ _)
   | (with_reducible exact ih1 _ _ _ _ _ _ _ _ _ _ _)
   | (with_reducible exact spec_MoveOf.mono _ _ _ _ _ _ _)
   | (with_reducible exact spec_MovesFrom.mono _ _ _ _ _ _)
   | (with_reducible exact LeO.refl _)
   | (with_reducible exact LeO.none _)
   | (with_reducible refine LeO.ite ?_ ?_)
   | (with_reducible refine LeO.bind ?_ (fun _ => ?_))
   | exact ih0 _ _ _ _ _ _ _ _ _ _ _
   | exact ih1 _ _ _ _ _ _ _ _ _ _ _
   | exact spec_MoveOf.mono _ _ _ _ _ _ _
   | exact spec_MovesFrom.mono _ _ _ _ _ _
   | exact LeO.none _
   | refine LeO.ite ?_ ?_
   | refine LeO.bind ?_ (fun _ => ?_)
  ·intro y0 y1 y2 y3 y4 y5 y6 y7 y8 y9 y10
   unfold spec_NextPairs.l1
   repeat' first
   | (with_reducible exact ih0 _ _ _ _ _ _ _ _ _ _ _)
   | (with_reducible exact ih1 _ _ _ _ _ _ _ _ _ _ _)
   | (with_reducible exact spec_MoveOf.mono _ _ _ _ _ _ _)
   | (with_reducible exact spec_MovesFrom.mono _ _ _ _ _ _)
   | (with_reducible exact LeO.refl _)
   | (with_reducible exact LeO.none _)
   | (with_reducible refine LeO.ite ?_ ?_)
   | (with_reducible refine LeO.bind ?_ (fun _ => ?_))
   | exact ih0 _ _ _ _ _ _ _ _ _ _ _
   | exact ih1 _ _ _ _ _ _ _ _ _ _ _
   | exact spec_MoveOf.mono _ _ _ _ _ _ _
   | exact spec_MovesFrom.mono _ _ _ _ _ _
   | exact LeO.none _
   | refine LeO.ite ?_ ?_
   | refine LeO.bind ?_ (fun _ => ?_)
theorem spec_NextPairs.mono : ∀ a0 a1 a2 a3 a4 a5 a6 a7 k, LeO (spec_NextPairs.f k a0 a1 a2 a3 a4 a5 a6 a7) (spec_NextPairs.f (k + 1) a0 a1 a2 a3 a4 a5 a6 a7) := by
 intro a0 a1 a2 a3 a4 a5 a6 a7 k
 obtain ⟨ih0, ih1⟩ := spec_NextPairs.mono_l k
 unfold spec_NextPairs.f
 repeat' first
   | (with_reducible exact ih0 _ _ _ _ _ _ _ _ _ _ _)
   | (with_reducible exact ih1 _ _ _ _ _ _ _ _ _ _ _)
   | (with_reducible exact spec_MoveOf.mono _ _ _ _ _ _ _)
   | (with_reducible exact spec_MovesFrom.mono _ _ _ _ _ _)
   | (with_reducible exact LeO.refl _)
   | (with_reducible exact LeO.none _)
   | (with_reducible refine LeO.ite ?_ ?_)
   | (with_reducible refine LeO.bind ?_ (fun _ => ?_))
   | exact ih0 _ _ _ _ _ _ _ _ _ _ _
   | exact ih1 _ _ _ _ _ _ _ _ _ _ _
   | exact spec_MoveOf.mono _ _ _ _ _ _ _
   | exact spec_MovesFrom.mono _ _ _ _ _ _
   | exact LeO.none _
   | refine LeO.ite ?_ ?_
   | refine LeO.bind ?_ (fun _ => ?_)
def spec_NextPairs.T6 : Bool × List (List Nat × List Nat) := (true, [([], []), ([], []), ([], []), ([], []), ([2, 3], [2, 3]), ([4], [4]), ([0, 1, 5], [0, 1, 5]), ([6, 6, 0, 1, 2, 3, 4, 5, 6], [6])])
def spec_NextPairs.B6 : List Nat := [0, 0, 0, 0, 12, 28, 63, 127]
theorem spec_NextPairs.tab6 : rtab .any (opsOf Try.f58 6) = spec_NextPairs.T6 := by kernel_rfl
theorem spec_NextPairs.bits6 : waitsOk spec_NextPairs.T6.2 spec_NextPairs.B6 = true := by kernel_rfl
def spec_NextPairs.T8 : Bool × List (List Nat × List Nat) := (true, [([], []), ([], []), ([1], [1]), ([], []), ([], []), ([], []), ([], []), ([5, 6], [5, 6]), ([7], [7]), ([3, 4, 8], [3, 4, 8]), ([2, 9], [2, 9]), ([10], [10]), ([11], [11]), ([], []), ([13], [13]), ([], []), ([14, 15], [14, 15]), ([16], [16]), ([17], [17]), ([12, 18], [12, 18]), ([19], [19]), ([0, 20, 9], [0, 20]), ([21, 21, 0, 1, 2, 3, 4, 5, 6, 7, 8, 9, 10, 11, 12, 13, 14, 15, 16, 17, 18, 19, 20, 21], [0, 21])])
def spec_NextPairs.B8 : List Nat := [0, 0, 2, 0, 0, 0, 0, 96, 224, 504, 1022, 2046, 4094, 0, 8192, 0, 57344, 122880, 253952, 524286, 1048574, 2097151, 4194303]
theorem spec_NextPairs.tab8 : rtab .any (opsOf Try.f58 8) = spec_NextPairs.T8 := by kernel_rfl
theorem spec_NextPairs.bits8 : waitsOk spec_NextPairs.T8.2 spec_NextPairs.B8 = true := by kernel_rfl
def spec_NextPairs.T13 : Bool × List (List Nat × List Nat) := (true, [([], []), ([], []), ([], []), ([], []), ([2, 3], [2, 3]), ([4], [4]), ([0, 1, 5], [0, 1, 5]), ([6, 6, 0, 1, 2, 3, 4, 5, 6], [6])])
def spec_NextPairs.B13 : List Nat := [0, 0, 0, 0, 12, 28, 63, 127]
theorem spec_NextPairs.tab13 : rtab .any (opsOf Try.f58 13) = spec_NextPairs.T13 := by kernel_rfl
theorem spec_NextPairs.bits13 : waitsOk spec_NextPairs.T13.2 spec_NextPairs.B13 = true := by kernel_rfl
def spec_NextPairs.T15 : Bool × List (List Nat × List Nat) := (true, [([], []), ([], []), ([1], [1]), ([], []), ([2, 3], [2, 3]), ([4], [4]), ([5], [5]), ([], []), ([7], [7]), ([], []), ([], []), ([], []), ([], []), ([11, 12], [11, 12]), ([13], [13]), ([9, 10, 14], [9, 10, 14]), ([8, 15], [8, 15]), ([16], [16]), ([17], [17]), ([6, 18], [6, 18]), ([19], [19]), ([0, 20, 15], [0, 20]), ([21, 21, 0, 1, 2, 3, 4, 5, 6, 7, 8, 9, 10, 11, 12, 13, 14, 15, 16, 17, 18, 19, 20, 21], [0, 21])])
def spec_NextPairs.B15 : List Nat := [0, 0, 2, 0, 14, 30, 62, 0, 128, 0, 0, 0, 0, 6144, 14336, 32256, 65408, 130944, 262016, 524286, 1048574, 2097151, 4194303]
theorem spec_NextPairs.tab15 : rtab .any (opsOf Try.f58 15) = spec_NextPairs.T15 := by kernel_rfl
theorem spec_NextPairs.bits15 : waitsOk spec_NextPairs.T15.2 spec_NextPairs.B15 = true := by kernel_rfl
set_option maxHeartbeats 8000000 in
set_option maxRecDepth 100000 in
theorem spec_NextPairs.calls (k : Nat) (a0_0 : Int) (A0_1 : Option Addr) (c0_1 : Nat) (l0_1 : List Bool) (A0_2 : Option Addr) (c0_2 : Nat) (l0_2 : List (S80)) (a1_0 : Int) (A1_1 : Option Addr) (c1_1 : Nat) (l1_1 : List Bool) (A1_2 : Option Addr) (c1_2 : Nat) (l1_2 : List (S80)) (a2 : Int) (a3 : Int) (r : List (List Int)) (w : World) (hr0_1 : Kd.C Kd.bool w A0_1 l0_1.length l0_1) (hc0_1 : l0_1.length ≤ c0_1) (hr0_2 : Kd.C k80 w A0_2 l0_2.length l0_2) (hc0_2 : l0_2.length ≤ c0_2) (hr1_1 : Kd.C Kd.bool w A1_1 l1_1.length l1_1) (hc1_1 : l1_1.length ≤ c1_1) (hr1_2 : Kd.C k80 w A1_2 l1_2.length l1_2) (hc1_2 : l1_2.length ≤ c1_2) (h : spec_NextPairs.f k a0_0 l0_1 l0_2 a1_0 l1_1 l1_2 a2 a3 = some r) :
  Calls Try.prog 58 #[.agg #[.int .i64 a0_0, .slice A0_1 l0_1.length c0_1, .slice A0_2 l0_2.length c0_2], .agg #[.int .i64 a1_0, .slice A1_1 l1_1.length c1_1, .slice A1_2 l1_2.length c1_2], .int .i64 a2, .int .i64 a3] w fun e w' => ∃ v0_ : Value, e = .returned (v0_) ∧ Kd.S (Kd.slice 3 (Kd.int .i64)) 37 w' w.heap.size (fun _ => True) v0_ r ∧ Below w.heap.size w w' := by
 have hu31 := Try.underlying31
 have HR0_1 := Aside0.mk hr0_1
 have HC0_1 := Aside0.mk hc0_1
 clear hr0_1 hc0_1
 have HR0_2 := Aside0.mk hr0_2
 have HC0_2 := Aside0.mk hc0_2
 clear hr0_2 hc0_2
 have HR1_1 := Aside0.mk hr1_1
 have HC1_1 := Aside0.mk hc1_1
 clear hr1_1 hc1_1
 have HR1_2 := Aside0.mk hr1_2
 have HC1_2 := Aside0.mk hc1_2
 clear hr1_2 hc1_2
 have HB := Aside0.mk (Below.refl w.heap.size w)
 have H : ((spec_MovesFrom.f k a0_0 l0_1 l0_2 a2 true).bind fun t201 => (spec_NextPairs.l0 k a2 a3 (([] : List (List Int))) t201 0 a0_0 l0_1 l0_2 a1_0 l1_1 l1_2)) = some r := h
 clear h
 obtain ⟨y198, hy198⟩ : ∃ y_ : List (List Int), y_ = (([] : List (List Int))) := ⟨_, rfl⟩
 replace H : ((spec_MovesFrom.f k a0_0 l0_1 l0_2 a2 true).bind fun t201 => (spec_NextPairs.l0 k a2 a3 y198 t201 0 a0_0 l0_1 l0_2 a1_0 l1_1 l1_2)) = some r := by first | (rw [hy198]; with_reducible exact H) | (have H2_ := (Option.bind_some _ _).symm.trans H; rw [hy198]; with_reducible exact H2_) | (have H2_ := (Option.bind_some _ _).symm.trans H; with_reducible exact H2_) | with_reducible exact H | (rw [hy198]; exact H) | exact H
 have Ny198 := Aside0.mk hy198
 clear hy198
 replace H := Option.bind_eq_some_iff.mp H
 obtain ⟨t201, A50, H⟩ := H
 replace H : (spec_NextPairs.l0 k a2 a3 y198 t201 0 a0_0 l0_1 l0_2 a1_0 l1_1 l1_2) = some r := H
 have A5 := Aside0.mk A50
 clear A50
 have H' := Aside0.mk H
 clear H
 go_enter Try.func58, Try.ntmps58
 go_wp2_with (first | ((with_reducible refine gate_dst (N := 4) rfl ?_); refine box_event ?hg (N := 4) ?hd (cs := #[.int .i64 a0_0, .slice A0_1 l0_1.length c0_1, .slice A0_2 l0_2.length c0_2]) (t := 31) ?hr ?_; (case hd => rfl); (case hg => rfl); (case hr => first | (go_simp; done) | (go_simp; rfl)); intro gb196 hg w6 hbox hb; have n0_ := bS HB hb; have n1_ := Aside0.mk (hbox); have n2_ := gS HB hg; have n3_ := gS HB hg; clear HB; have HB := n0_; have BK196 := n1_; have GW196 := n2_; have GE196 := n3_; clear n0_ n1_ n2_ n3_; clear hb hbox hg) | ((with_reducible refine gate_dst (N := 5) rfl ?_); refine box_event ?hg (N := 5) ?hd (cs := #[.int .i64 a1_0, .slice A1_1 l1_1.length c1_1, .slice A1_2 l1_2.length c1_2]) (t := 31) ?hr ?_; (case hd => rfl); (case hg => rfl); (case hr => first | (go_simp; done) | (go_simp; rfl)); intro gb197 hg w7 hbox hb; have n0_ := kB BK196 hb; have n1_ := bS HB hb; have n2_ := Aside0.mk (hbox); have n3_ := gS HB hg; have n4_ := gS HB hg; have n5_ := Aside0.mk ((by rw [hg]; exact Nat.ne_of_lt (blk_lt (g := gb196) (o := .cells #[.int .i64 a0_0, .slice A0_1 l0_1.length c0_1, .slice A0_2 l0_2.length c0_2] 31 (0, 0)) (zK BK196)) : gb196 ≠ gb197)); have n6_ := Aside0.mk ((by rw [hg]; exact Nat.ne_of_gt (blk_lt (g := gb196) (o := .cells #[.int .i64 a0_0, .slice A0_1 l0_1.length c0_1, .slice A0_2 l0_2.length c0_2] 31 (0, 0)) (zK BK196)) : gb197 ≠ gb196)); clear BK196; clear HB; have BK196 := n0_; have HB := n1_; have BK197 := n2_; have GW197 := n3_; have GE197 := n4_; have NB196_197 := n5_; have NB197_196 := n6_; clear n0_ n1_ n2_ n3_ n4_ n5_ n6_; clear hb hbox hg) | ((with_reducible refine gate_dst (N := 15) rfl ?_); refine Kd.S_lit (Kd.slice 3 (Kd.int .i64)) _ 37 ?hg (N := 15) ?hd (xs := ([] : List (List Int))) (inner := []) (ok := fun _ => True) (okp := fun _ => True) ?hr ?hp (fun _ hk => hk) trivial (Below.refl _ _) (Nat.le_refl _) (by simp) ?_; (case hd => rfl); (case hg => rfl); (case hr => first | (go_simp; done) | (go_simp; rfl)); (case hp => exact (Reps.none _ _)); intro v199 w8 ho9 hb hg_ hnew_; clear hg_ hnew_; (first | rw [← Ny198.out] at ho9 | (simp only [Int.reduceToNat] at ho9; rw [← Ny198.out] at ho9)); have n0_ := Aside0.mk (Kd.S_lower ho9 (below_size (zB HB))); have n1_ := kB BK196 hb; have n2_ := kB BK197 hb; have n3_ := bS HB hb; clear BK196; clear BK197; clear HB; have HO200 := n0_; have BK196 := n1_; have BK197 := n2_; have HB := n3_; clear n0_ n1_ n2_ n3_; clear hb ho9; have hnb10 := NB196_197.out; have hnc10 := NB197_196.out; have hcz11_0 := bc0 BK196; have hcz11_1 := bc1 BK196; have hcz11_2 := bc2 BK196; have hfz11_0 := bf BK196 0; have hfz11_1 := bf BK196 1; have hfz11_2 := bf BK196 2) | ((with_reducible refine gate_callee (f := 50) rfl ?_); refine goesL_ (some 18) rfl rfl Try.func50 (by kernel_rfl) rfl #[.agg #[.int .i64 a0_0, .slice A0_1 l0_1.length c0_1, .slice A0_2 l0_2.length c0_2], .int .i64 a2, .bool true] rfl zG ?_; (with_reducible refine (spec_MovesFrom.calls k a0_0 _ _ l0_1 _ _ l0_2 a2 true t201 _ ?side1 ?side2 ?side3 ?side4 A5.out).mono ?_); (case side1 => exact cS HR0_1 HB); (case side2 => exact HC0_1.out); (case side3 => exact cS HR0_2 HB); (case side4 => exact HC0_2.out); rintro e w12 ⟨v202, rfl, ho0, hb⟩; refine ⟨_, rfl, ?_⟩; have n0_ := Aside0.mk (Kd.S_elder' (zS HO200) (Kd.R_base ho0) hb); have n1_ := Aside0.mk (Kd.R_lower ho0 (below_size (zB HB))); have n2_ := kB BK196 hb; have n3_ := kB BK197 hb; have n4_ := bS HB hb; clear HO200; clear BK196; clear BK197; clear HB; have HO200 := n0_; have HO203 := n1_; have BK196 := n2_; have BK197 := n3_; have HB := n4_; clear n0_ n1_ n2_ n3_ n4_; (try clear hb); (try clear ho0)))
 go_loopg [9, 11] k (fun kq v9 v11 w' => ∃ (x9_1 : List (List Int)) (x11_1 : Int), v11 = .int .i64 x11_1 ∧ Aside0 (spec_NextPairs.l0 kq a2 a3 x9_1 t201 x11_1 a0_0 l0_1 l0_2 a1_0 l1_1 l1_2 = some r) ∧ Aside0 (kq ≤ k) ∧ Aside0 (Kd.S (Kd.slice 3 (Kd.int .i64)) 37 w' w.heap.size (fun k_ => some k_ ≠ (v202 : Value).ownBlock) v9 x9_1) ∧ Aside0 (Kd.R (Kd.int .i64) 3 w' w.heap.size (fun _ => True) v202 t201) ∧ Aside0 (w'.heap[gb196]? = some (.cells #[.int .i64 a0_0, (.slice A0_1 l0_1.length c0_1), (.slice A0_2 l0_2.length c0_2)] 31 (0, 0))) ∧ Aside0 (w'.heap[gb197]? = some (.cells #[.int .i64 a1_0, (.slice A1_1 l1_1.length c1_1), (.slice A1_2 l1_2.length c1_2)] 31 (0, 0))) ∧ Aside0 (Below w.heap.size w w'))
 case atStart => exact ⟨(y198), (0), zF, H', ⟨Nat.le_refl _⟩, ⟨by (with_reducible repeat (first | apply Kd.S_alloc | apply Kd.S_drewN | apply Kd.S_drew)); exact Kd.S_mono HO200.out (fun _ hk => hk.2)⟩, ⟨zR HO203⟩, ⟨zK BK196⟩, ⟨zK BK197⟩, ⟨zB HB⟩⟩
 case round =>
  clear H'
  try clear c1
  try clear p2
  try clear c5
  try clear c10
  try clear hcz11_0
  try clear hcz11_1
  try clear hcz11_2
  try clear hfz11_0
  try clear hfz11_1
  try clear hfz11_2
  obtain ⟨x9_1, x11_1, rfl, HA, HK1, HO_9, HO_10, BK196, BK197, HB⟩ := hrel
  cases gk with
  | zero => exact absurd HA.out (by simp [spec_NextPairs.l0])
  | succ k1 =>
   have H := HA.out
   clear HA
   simp only [spec_NextPairs.l0] at H
   by_cases c13 : x11_1 < (t201.length : Int)
   ·rw [if_pos c13] at H
    have c13b0 : decide (x11_1 < (t201.length : Int)) = true := decide_eq_true c13
    clear c13
    by_cases c14 : 0 ≤ x11_1
    ·rw [if_pos c14] at H
     have c14b0 : decide (0 ≤ x11_1) = true := decide_eq_true c14
     clear c14
     replace H := Option.bind_eq_some_iff.mp H
     obtain ⟨t205, A150, H⟩ := H
     replace H : (if t205 ≥ 0 then ((spec_MoveOf.f k1 a0_0 l0_1 l0_2 a2 true (rd t201 x11_1)).bind fun t207 => (if 0 ≤ t207 then (if t207 < (l0_2.length : Int) then (if 0 ≤ t205 then (if t205 < (l1_2.length : Int) then (if x9_1.length < 5864062014805 then (spec_NextPairs.l0 k1 a2 a3 (x9_1 ++ [(([(rd_T80 l0_2 t207).f3, (rd_T80 l1_2 t205).f3] : List Int))]) t201 (wrap64 (x11_1 + 1)) a0_0 l0_1 l0_2 a1_0 l1_1 l1_2) else (none)) else (none)) else (none)) else (none)) else (none))) else (spec_NextPairs.l0 k1 a2 a3 x9_1 t201 (wrap64 (x11_1 + 1)) a0_0 l0_1 l0_2 a1_0 l1_1 l1_2)) = some r := H
     have A15 := Aside0.mk A150
     clear A150
     by_cases c16 : t205 ≥ 0
     ·rw [if_pos c16] at H
      have c16b0 : decide (0 ≤ t205) = true := decide_eq_true c16
      clear c16
      replace H := Option.bind_eq_some_iff.mp H
      obtain ⟨t207, A170, H⟩ := H
      replace H : (if 0 ≤ t207 then (if t207 < (l0_2.length : Int) then (if 0 ≤ t205 then (if t205 < (l1_2.length : Int) then (if x9_1.length < 5864062014805 then (spec_NextPairs.l0 k1 a2 a3 (x9_1 ++ [(([(rd_T80 l0_2 t207).f3, (rd_T80 l1_2 t205).f3] : List Int))]) t201 (wrap64 (x11_1 + 1)) a0_0 l0_1 l0_2 a1_0 l1_1 l1_2) else (none)) else (none)) else (none)) else (none)) else (none)) = some r := H
      have A17 := Aside0.mk A170
      clear A170
      by_cases c18 : 0 ≤ t207
      ·rw [if_pos c18] at H
       have c18b0 : decide (0 ≤ t207) = true := decide_eq_true c18
       clear c18
       by_cases c19 : t207 < (l0_2.length : Int)
       ·rw [if_pos c19] at H
        have c19b0 : decide (t207 < (l0_2.length : Int)) = true := decide_eq_true c19
        clear c19
        by_cases c20 : 0 ≤ t205
        ·rw [if_pos c20] at H
         have c20b0 : decide (0 ≤ t205) = true := decide_eq_true c20
         clear c20
         by_cases c21 : t205 < (l1_2.length : Int)
         ·rw [if_pos c21] at H
          have c21b0 : decide (t205 < (l1_2.length : Int)) = true := decide_eq_true c21
          clear c21
          obtain ⟨y210, hy210⟩ : ∃ y_ : List Int, y_ = (([(rd_T80 l0_2 t207).f3, (rd_T80 l1_2 t205).f3] : List Int)) := ⟨_, rfl⟩
          replace H : (if x9_1.length < 5864062014805 then (spec_NextPairs.l0 k1 a2 a3 (x9_1 ++ [y210]) t201 (wrap64 (x11_1 + 1)) a0_0 l0_1 l0_2 a1_0 l1_1 l1_2) else (none)) = some r := by first | (rw [hy210]; with_reducible exact H) | (have H2_ := (Option.bind_some _ _).symm.trans H; rw [hy210]; with_reducible exact H2_) | (have H2_ := (Option.bind_some _ _).symm.trans H; with_reducible exact H2_) | with_reducible exact H | (rw [hy210]; exact H) | exact H
          have Ny210 := Aside0.mk hy210
          clear hy210
          by_cases c22 : x9_1.length < 5864062014805
          ·rw [if_pos c22] at H
           have LMc22 := Aside0.mk c22
           clear c22
           obtain ⟨y213, hy213⟩ : ∃ y_ : List (List Int), y_ = (x9_1 ++ [y210]) := ⟨_, rfl⟩
           replace H : (spec_NextPairs.l0 k1 a2 a3 y213 t201 (wrap64 (x11_1 + 1)) a0_0 l0_1 l0_2 a1_0 l1_1 l1_2) = some r := by first | (rw [hy213]; with_reducible exact H) | (have H2_ := (Option.bind_some _ _).symm.trans H; rw [hy213]; with_reducible exact H2_) | (have H2_ := (Option.bind_some _ _).symm.trans H; with_reducible exact H2_) | with_reducible exact H | (rw [hy213]; exact H) | exact H
           have Ny213 := Aside0.mk hy213
           clear hy213
           have H' := Aside0.mk H
           clear H
           obtain ⟨Ao23, co23, eo23⟩ := Kd.R_slice HO_10.out
           subst eo23
           try go_wp2
           have n0_ := Aside0.mk (Kd.S_drew HO_9.out)
           have n1_ := Aside0.mk (Kd.R_drew HO_10.out)
           have n2_ := Aside0.mk (blk_drew BK196.out)
           have n3_ := Aside0.mk (blk_drew BK197.out)
           have n4_ := Aside0.mk (below_drew1 HB.out)
           clear HO_9
           clear HO_10
           clear BK196
           clear BK197
           clear HB
           have HO_9 := n0_
           have HO_10 := n1_
           have BK196 := n2_
           have BK197 := n3_
           have HB := n4_
           clear n0_ n1_ n2_ n3_ n4_
           have p204 : 0 ≤ (x11_1 : Int) := of_decide_eq_true (by first | (with_reducible assumption) | assumption)
           have q204 : x11_1 < (t201.length : Int) := of_decide_eq_true (by first | (with_reducible assumption) | assumption)
           obtain ⟨ad204, e204, hx204_0⟩ := Kd.at_int (Kd.R_reads' HO_10.out).2.2 x11_1 p204 q204
           cases e204
           replace p204 := eq_true p204
           replace q204 := eq_true q204
           refine start_ (n := 8) (S := fun w' => w'.cell? ⟨gb197, 0, none⟩ = some (.int .i64 a1_0) ∧ w'.cell? ⟨gb197, 1, none⟩ = some (.slice A1_1 l1_1.length c1_1) ∧ w'.cell? ⟨gb197, 2, none⟩ = some (.slice A1_2 l1_2.length c1_2) ∧ w'.cell? (ad204.add (x11_1).toNat) = some (.int .i64 (rd t201 x11_1))) (ds := []) (bm 8 0) (by kernel_rfl) rfl (bm0 _) ⟨bc0 BK197, bc1 BK197, bc2 BK197, hx204_0⟩ (fun hHeld => ?_); refine with_tabW spec_NextPairs.tab6 spec_NextPairs.bits6 (fun HT_ HW_ => ?_)
           generalize wr.drew = w24 at HO_9 HO_10 BK196 BK197 HB hx204_0 hHeld ⊢
           refine pure_ (i := 1) (N := some 26) (v := ?_) (a' := ?_) (bm 8 2) rfl rfl (any_of HT_.out (by kernel_rfl)) (fun _ _ _ h => h) (Or.inl ⟨by rfl, ?_⟩) ?_ ?_
           rotate_left
           ·intro w'
            go_simp
            with_reducible rfl
           rotate_left
           ·simp only [Act.put, List.setIfInBounds_toArray, List.set_cons_zero, List.set_cons_succ, i64_w, i32_w]
            rfl
           refine pure_ (i := 2) (N := some 27) (v := ?_) (a' := ?_) (bm 8 6) rfl rfl (any_of HT_.out (by kernel_rfl)) (fun _ _ _ h => h) (Or.inl ⟨by rfl, ?_⟩) ?_ ?_
           rotate_left
           ·intro w'
            go_simp
            with_reducible rfl
           rotate_left
           ·simp only [Act.put, List.setIfInBounds_toArray, List.set_cons_zero, List.set_cons_succ, i64_w, i32_w]
            rfl
           refine pure_ (i := 3) (N := some 28) (v := ?_) (a' := ?_) (bm 8 14) rfl rfl (any_of HT_.out (by kernel_rfl)) (fun _ _ _ h => h) (Or.inl ⟨by rfl, ?_⟩) ?_ ?_
           rotate_left
           ·intro w'
            go_simp
            with_reducible rfl
           rotate_left
           ·simp only [Act.put, List.setIfInBounds_toArray, List.set_cons_zero, List.set_cons_succ, i64_w, i32_w]
            rfl
           refine pure_ (i := 4) (N := some 29) (v := ?_) (a' := ?_) (bm 8 30) rfl rfl (any_of HT_.out (by kernel_rfl)) (fun _ _ _ h => h) (Or.inl ⟨by rfl, ?_⟩) ?_ ?_
           rotate_left
           ·intro w'
            go_simp
            with_reducible rfl
           rotate_left
           ·simp only [Act.put, List.setIfInBounds_toArray, List.set_cons_zero, List.set_cons_succ, i64_w, i32_w]
            rfl
           refine take_ (i := 0) (N := some 25) (v := ?_) (a' := ?_) (bm 8 31) rfl rfl (take_ofW HT_.out HW_.out (by kernel_rfl)) (fun _ _ _ h => h) (Or.inl ⟨by rfl, ?_⟩) hHeld ?_ ?_
           rotate_left
           ·rintro w' ⟨s0, s1, s2, s3⟩
            go_simp
            with_reducible rfl
           rotate_left
           ·simp only [Act.put, List.setIfInBounds_toArray, List.set_cons_zero, List.set_cons_succ, i64_w, i32_w]
            rfl
           refine take_ (i := 5) (N := some 30) (v := ?_) (a' := ?_) (bm 8 63) rfl rfl (take_ofW HT_.out HW_.out (by kernel_rfl)) (fun _ _ _ h => h) (Or.inl ⟨by rfl, ?_⟩) hHeld ?_ ?_
           rotate_left
           ·rintro w' ⟨s0, s1, s2, s3⟩
            go_simp
            with_reducible rfl
           rotate_left
           ·simp only [Act.put, List.setIfInBounds_toArray, List.set_cons_zero, List.set_cons_succ, i64_w, i32_w]
            rfl
           refine one_ (i := 6) (N := some 31) (bm 8 127) rfl rfl (one_of HT_.out (by kernel_rfl)) (by decide) (fun K hK => ?_)
           refine goes_ Try.func36 (by kernel_rfl) rfl #[.agg #[.int .i64 a1_0, .slice A1_1 l1_1.length c1_1, .slice A1_2 l1_2.length c1_2], .int .i64 a3, .bool false, .int .i64 (rd t201 x11_1)] (by rfl) rfl rfl zG ?_
           with_reducible refine (spec_MoveOf.calls k1 a1_0 _ _ l1_1 _ _ l1_2 a3 false (rd t201 x11_1) t205 _ ?side1 ?side2 ?side3 ?side4 A15.out).mono ?_
           (case side1 => exact cS HR1_1 HB)
           (case side2 => exact HC1_1.out)
           (case side3 => exact cS HR1_2 HB)
           (case side4 => exact HC1_2.out)
           rintro e w25 ⟨rfl, hb⟩
           have HS3_ := (hb.cell (World.block_lt_of_cell? _ _ (hHeld.2.2.2))).trans (hHeld.2.2.2)
           refine ⟨_, rfl, ?_⟩
           have n0_ := Aside0.mk (Kd.S_below (zS HO_9) hb)
           have n1_ := Aside0.mk (Kd.R_below (zR HO_10) hb)
           have n2_ := kB BK196 hb
           have n3_ := kB BK197 hb
           have n4_ := bS HB hb
           clear HO_9
           clear HO_10
           clear BK196
           clear BK197
           clear HB
           have HO_9 := n0_
           have HO_10 := n1_
           have BK196 := n2_
           have BK197 := n3_
           have HB := n4_
           clear n0_ n1_ n2_ n3_ n4_
           (try clear hb)
           (try clear hb2)
           (try clear hk)
           (try clear hi)
           refine hK.out _ _ ⟨bc0 BK197, bc1 BK197, bc2 BK197, HS3_⟩ (fun hHeld => ?_)
           clear hK K
           refine norm_ (a' := ?_) ?_ ?_
           rotate_left
           ·show Act.put _ (some 31) _ = _
            simp only [Act.put, List.setIfInBounds_toArray, List.set_cons_zero, List.set_cons_succ, i64_w, i32_w]
            rfl
           refine pure_ (i := 7) (N := some 12) (v := ?_) (a' := ?_) (bm 8 255) rfl rfl (any_of HT_.out (by kernel_rfl)) (fun _ _ _ h => h) (Or.inl ⟨by rfl, ?_⟩) ?_ ?_
           rotate_left
           ·intro w'
            go_simp
            with_reducible rfl
           rotate_left
           ·simp only [Act.put, List.setIfInBounds_toArray, List.set_cons_zero, List.set_cons_succ, i64_w, i32_w]
            rfl
           refine done_ (done_of HT_.out (by kernel_rfl)) ?_
           try clear hHeld
           try go_wp2
           have n0_ := Aside0.mk (Kd.S_drew HO_9.out)
           have n1_ := Aside0.mk (Kd.R_drew HO_10.out)
           have n2_ := Aside0.mk (blk_drew BK196.out)
           have n3_ := Aside0.mk (blk_drew BK197.out)
           have n4_ := Aside0.mk (below_drew1 HB.out)
           clear HO_9
           clear HO_10
           clear BK196
           clear BK197
           clear HB
           have HO_9 := n0_
           have HO_10 := n1_
           have BK196 := n2_
           have BK197 := n3_
           have HB := n4_
           clear n0_ n1_ n2_ n3_ n4_
           have p206 : 0 ≤ (x11_1 : Int) := of_decide_eq_true (by first | (with_reducible assumption) | assumption)
           have q206 : x11_1 < (t201.length : Int) := of_decide_eq_true (by first | (with_reducible assumption) | assumption)
           obtain ⟨ad206, e206, hx206_0⟩ := Kd.at_int (Kd.R_reads' HO_10.out).2.2 x11_1 p206 q206
           obtain rfl : ad204 = ad206 := (by injection e206)
           replace p206 := eq_true p206
           replace q206 := eq_true q206
           have p209 : 0 ≤ (t205 : Int) := of_decide_eq_true (by first | (with_reducible assumption) | assumption)
           have q209 : t205 < (l1_2.length : Int) := of_decide_eq_true (by first | (with_reducible assumption) | assumption)
           obtain ⟨ad209, e209, hx209_0, hx209_1, hx209_2, hx209_3⟩ := at_T80 HR1_2.out t205 p209 q209
           have hw209_3 := hx209_3
           have hw209_2 := hx209_2
           have hw209_1 := hx209_1
           have hw209_0 := hx209_0
           cases e209
           replace hx209_0 := (HB.out.cell (World.block_lt_of_cell? w _ hx209_0)).trans hx209_0
           replace hx209_1 := (HB.out.cell (World.block_lt_of_cell? w _ hx209_1)).trans hx209_1
           replace hx209_2 := (HB.out.cell (World.block_lt_of_cell? w _ hx209_2)).trans hx209_2
           replace hx209_3 := (HB.out.cell (World.block_lt_of_cell? w _ hx209_3)).trans hx209_3
           replace p209 := eq_true p209
           replace q209 := eq_true q209
           have p208 : 0 ≤ (t207 : Int) := of_decide_eq_true (by first | (with_reducible assumption) | assumption)
           have q208 : t207 < (l0_2.length : Int) := of_decide_eq_true (by first | (with_reducible assumption) | assumption)
           obtain ⟨ad208, e208, hx208_0, hx208_1, hx208_2, hx208_3⟩ := at_T80 HR0_2.out t207 p208 q208
           have hw208_3 := hx208_3
           have hw208_2 := hx208_2
           have hw208_1 := hx208_1
           have hw208_0 := hx208_0
           cases e208
           replace hx208_0 := (HB.out.cell (World.block_lt_of_cell? w _ hx208_0)).trans hx208_0
           replace hx208_1 := (HB.out.cell (World.block_lt_of_cell? w _ hx208_1)).trans hx208_1
           replace hx208_2 := (HB.out.cell (World.block_lt_of_cell? w _ hx208_2)).trans hx208_2
           replace hx208_3 := (HB.out.cell (World.block_lt_of_cell? w _ hx208_3)).trans hx208_3
           replace p208 := eq_true p208
           replace q208 := eq_true q208
           refine start_ (n := 23) (S := fun w' => w'.cell? ⟨gb196, 0, none⟩ = some (.int .i64 a0_0) ∧ w'.cell? ⟨gb196, 1, none⟩ = some (.slice A0_1 l0_1.length c0_1) ∧ w'.cell? ⟨gb196, 2, none⟩ = some (.slice (some ad208) l0_2.length c0_2) ∧ w'.cell? ⟨gb197, 0, none⟩ = some (.int .i64 a1_0) ∧ w'.cell? ⟨gb197, 1, none⟩ = some (.slice A1_1 l1_1.length c1_1) ∧ w'.cell? ⟨gb197, 2, none⟩ = some (.slice (some ad209) l1_2.length c1_2) ∧ w'.cell? (ad204.add (x11_1).toNat) = some (.int .i64 (rd t201 x11_1)) ∧ w'.cell? (ad209.add ((t205).toNat * 4)) = some (.int .i64 ((rd_T80 l1_2 t205).f0)) ∧ w'.cell? ⟨(ad209.add ((t205).toNat * 4)).block, (ad209.add ((t205).toNat * 4)).off + 1, none⟩ = some (.bool ((rd_T80 l1_2 t205).f1)) ∧ w'.cell? ⟨(ad209.add ((t205).toNat * 4)).block, (ad209.add ((t205).toNat * 4)).off + 2, none⟩ = some (.int .i64 ((rd_T80 l1_2 t205).f2)) ∧ w'.cell? ⟨(ad209.add ((t205).toNat * 4)).block, (ad209.add ((t205).toNat * 4)).off + 3, none⟩ = some (.int .i64 ((rd_T80 l1_2 t205).f3)) ∧ w'.cell? (ad208.add ((t207).toNat * 4)) = some (.int .i64 ((rd_T80 l0_2 t207).f0)) ∧ w'.cell? ⟨(ad208.add ((t207).toNat * 4)).block, (ad208.add ((t207).toNat * 4)).off + 1, none⟩ = some (.bool ((rd_T80 l0_2 t207).f1)) ∧ w'.cell? ⟨(ad208.add ((t207).toNat * 4)).block, (ad208.add ((t207).toNat * 4)).off + 2, none⟩ = some (.int .i64 ((rd_T80 l0_2 t207).f2)) ∧ w'.cell? ⟨(ad208.add ((t207).toNat * 4)).block, (ad208.add ((t207).toNat * 4)).off + 3, none⟩ = some (.int .i64 ((rd_T80 l0_2 t207).f3))) (ds := [20, 21]) (bm 23 0) (by kernel_rfl) rfl (bm0 _) ⟨bc0 BK196, bc1 BK196, bc2 BK196, bc0 BK197, bc1 BK197, bc2 BK197, hx206_0, ((HB.out.cell (World.block_lt_of_cell? w _ hw209_0)).trans hw209_0), ((HB.out.cell (World.block_lt_of_cell? w _ hw209_1)).trans hw209_1), ((HB.out.cell (World.block_lt_of_cell? w _ hw209_2)).trans hw209_2), ((HB.out.cell (World.block_lt_of_cell? w _ hw209_3)).trans hw209_3), ((HB.out.cell (World.block_lt_of_cell? w _ hw208_0)).trans hw208_0), ((HB.out.cell (World.block_lt_of_cell? w _ hw208_1)).trans hw208_1), ((HB.out.cell (World.block_lt_of_cell? w _ hw208_2)).trans hw208_2), ((HB.out.cell (World.block_lt_of_cell? w _ hw208_3)).trans hw208_3)⟩ (fun hHeld => ?_); refine with_tabW spec_NextPairs.tab8 spec_NextPairs.bits8 (fun HT_ HW_ => ?_)
           generalize w25.drew = w26 at HO_9 HO_10 BK196 BK197 HB hx206_0 hx208_0 hx208_1 hx208_2 hx208_3 hx209_0 hx209_1 hx209_2 hx209_3 hHeld ⊢
           refine pure_ (i := 0) (N := some 34) (v := ?_) (a' := ?_) (bm 23 1) rfl rfl (any_of HT_.out (by kernel_rfl)) (fun _ _ _ h => h) (Or.inl ⟨by rfl, ?_⟩) ?_ ?_
           rotate_left
           ·intro w'
            go_simp
            with_reducible rfl
           rotate_left
           ·simp only [Act.put, List.setIfInBounds_toArray, List.set_cons_zero, List.set_cons_succ, i64_w, i32_w]
            rfl
           refine pure_ (i := 1) (N := some 35) (v := ?_) (a' := ?_) (bm 23 3) rfl rfl (any_of HT_.out (by kernel_rfl)) (fun _ _ _ h => h) (Or.inl ⟨by rfl, ?_⟩) ?_ ?_
           rotate_left
           ·intro w'
            go_simp
            with_reducible rfl
           rotate_left
           ·simp only [Act.put, List.setIfInBounds_toArray, List.set_cons_zero, List.set_cons_succ, i64_w, i32_w]
            rfl
           refine pure_ (i := 4) (N := some 38) (v := ?_) (a' := ?_) (bm 23 19) rfl rfl (any_of HT_.out (by kernel_rfl)) (fun _ _ _ h => h) (Or.inl ⟨by rfl, ?_⟩) ?_ ?_
           rotate_left
           ·intro w'
            go_simp
            with_reducible rfl
           rotate_left
           ·simp only [Act.put, List.setIfInBounds_toArray, List.set_cons_zero, List.set_cons_succ, i64_w, i32_w]
            rfl
           refine pure_ (i := 5) (N := some 39) (v := ?_) (a' := ?_) (bm 23 51) rfl rfl (any_of HT_.out (by kernel_rfl)) (fun _ _ _ h => h) (Or.inl ⟨by rfl, ?_⟩) ?_ ?_
           rotate_left
           ·intro w'
            go_simp
            with_reducible rfl
           rotate_left
           ·simp only [Act.put, List.setIfInBounds_toArray, List.set_cons_zero, List.set_cons_succ, i64_w, i32_w]
            rfl
           refine pure_ (i := 6) (N := some 40) (v := ?_) (a' := ?_) (bm 23 115) rfl rfl (any_of HT_.out (by kernel_rfl)) (fun _ _ _ h => h) (Or.inl ⟨by rfl, ?_⟩) ?_ ?_
           rotate_left
           ·intro w'
            go_simp
            with_reducible rfl
           rotate_left
           ·simp only [Act.put, List.setIfInBounds_toArray, List.set_cons_zero, List.set_cons_succ, i64_w, i32_w]
            rfl
           refine pure_ (i := 7) (N := some 41) (v := ?_) (a' := ?_) (bm 23 243) rfl rfl (any_of HT_.out (by kernel_rfl)) (fun _ _ _ h => h) (Or.inl ⟨by rfl, ?_⟩) ?_ ?_
           rotate_left
           ·intro w'
            go_simp
            with_reducible rfl
           rotate_left
           ·simp only [Act.put, List.setIfInBounds_toArray, List.set_cons_zero, List.set_cons_succ, i64_w, i32_w]
            rfl
           refine pure_ (i := 13) (N := some 47) (v := ?_) (a' := ?_) (bm 23 8435) rfl rfl (any_of HT_.out (by kernel_rfl)) (fun _ _ _ h => h) (Or.inl ⟨by rfl, ?_⟩) ?_ ?_
           rotate_left
           ·intro w'
            go_simp
            with_reducible rfl
           rotate_left
           ·simp only [Act.put, List.setIfInBounds_toArray, List.set_cons_zero, List.set_cons_succ, i64_w, i32_w]
            rfl
           refine pure_ (i := 15) (N := some 49) (v := ?_) (a' := ?_) (bm 23 41203) rfl rfl (any_of HT_.out (by kernel_rfl)) (fun _ _ _ h => h) (Or.inl ⟨by rfl, ?_⟩) ?_ ?_
           rotate_left
           ·intro w'
            go_simp
            with_reducible rfl
           rotate_left
           ·simp only [Act.put, List.setIfInBounds_toArray, List.set_cons_zero, List.set_cons_succ, i64_w, i32_w]
            rfl
           refine take_ (i := 2) (N := some 36) (v := ?_) (a' := ?_) (bm 23 41207) rfl rfl (take_ofW HT_.out HW_.out (by kernel_rfl)) (fun _ _ _ h => h) (Or.inl ⟨by rfl, ?_⟩) hHeld ?_ ?_
           rotate_left
           ·rintro w' ⟨s0, s1, s2, s3, s4, s5, s6, s7, s8, s9, s10, s11, s12, s13, s14⟩
            go_simp
            with_reducible rfl
           rotate_left
           ·simp only [Act.put, List.setIfInBounds_toArray, List.set_cons_zero, List.set_cons_succ, i64_w, i32_w]
            rfl
           refine take_ (i := 3) (N := some 37) (v := ?_) (a' := ?_) (bm 23 41215) rfl rfl (take_ofW HT_.out HW_.out (by kernel_rfl)) (fun _ _ _ h => h) (Or.inl ⟨by rfl, ?_⟩) hHeld ?_ ?_
           rotate_left
           ·rintro w' ⟨s0, s1, s2, s3, s4, s5, s6, s7, s8, s9, s10, s11, s12, s13, s14⟩
            go_simp
            with_reducible rfl
           rotate_left
           ·simp only [Act.put, List.setIfInBounds_toArray, List.set_cons_zero, List.set_cons_succ, i64_w, i32_w]
            rfl
           refine take_ (i := 8) (N := some 42) (v := ?_) (a' := ?_) (bm 23 41471) rfl rfl (take_ofW HT_.out HW_.out (by kernel_rfl)) (fun _ _ _ h => h) (Or.inl ⟨by rfl, ?_⟩) hHeld ?_ ?_
           rotate_left
           ·rintro w' ⟨s0, s1, s2, s3, s4, s5, s6, s7, s8, s9, s10, s11, s12, s13, s14⟩
            go_simp
            with_reducible rfl
           rotate_left
           ·simp only [Act.put, List.setIfInBounds_toArray, List.set_cons_zero, List.set_cons_succ, i64_w, i32_w]
            rfl
           refine take_ (i := 14) (N := some 48) (v := ?_) (a' := ?_) (bm 23 57855) rfl rfl (take_ofW HT_.out HW_.out (by kernel_rfl)) (fun _ _ _ h => h) (Or.inl ⟨by rfl, ?_⟩) hHeld ?_ ?_
           rotate_left
           ·rintro w' ⟨s0, s1, s2, s3, s4, s5, s6, s7, s8, s9, s10, s11, s12, s13, s14⟩
            go_simp
            with_reducible rfl
           rotate_left
           ·simp only [Act.put, List.setIfInBounds_toArray, List.set_cons_zero, List.set_cons_succ, i64_w, i32_w]
            rfl
           refine pure_ (i := 16) (N := some 50) (v := ?_) (a' := ?_) (bm 23 123391) rfl rfl (any_of HT_.out (by kernel_rfl)) (fun _ _ _ h => h) (Or.inl ⟨by rfl, ?_⟩) ?_ ?_
           rotate_left
           ·intro w'
            go_simp
            with_reducible rfl
           rotate_left
           ·simp only [Act.put, List.setIfInBounds_toArray, List.set_cons_zero, List.set_cons_succ, i64_w, i32_w]
            rfl
           refine pure_ (i := 17) (N := some 51) (v := ?_) (a' := ?_) (bm 23 254463) rfl rfl (any_of HT_.out (by kernel_rfl)) (fun _ _ _ h => h) (Or.inl ⟨by rfl, ?_⟩) ?_ ?_
           rotate_left
           ·intro w'
            go_simp
            with_reducible rfl
           rotate_left
           ·simp only [Act.put, List.setIfInBounds_toArray, List.set_cons_zero, List.set_cons_succ, i64_w, i32_w]
            rfl
           refine take_ (i := 18) (N := some 52) (v := ?_) (a' := ?_) (bm 23 516607) rfl rfl (take_ofW HT_.out HW_.out (by kernel_rfl)) (fun _ _ _ h => h) (Or.inl ⟨by rfl, ?_⟩) hHeld ?_ ?_
           rotate_left
           ·rintro w' ⟨s0, s1, s2, s3, s4, s5, s6, s7, s8, s9, s10, s11, s12, s13, s14⟩
            go_simp
            with_reducible rfl
           rotate_left
           ·simp only [Act.put, List.setIfInBounds_toArray, List.set_cons_zero, List.set_cons_succ, i64_w, i32_w]
            rfl
           refine one_ (i := 9) (N := some 43) (bm 23 517119) rfl rfl (one_of HT_.out (by kernel_rfl)) (by decide) (fun K hK => ?_)
           refine goes_ Try.func36 (by kernel_rfl) rfl #[.agg #[.int .i64 a0_0, .slice A0_1 l0_1.length c0_1, .slice (some ad208) l0_2.length c0_2], .int .i64 a2, .bool true, .int .i64 (rd t201 x11_1)] (by rfl) rfl rfl zG ?_
           with_reducible refine (spec_MoveOf.calls k1 a0_0 _ _ l0_1 _ _ l0_2 a2 true (rd t201 x11_1) t207 _ ?side1 ?side2 ?side3 ?side4 A17.out).mono ?_
           (case side1 => exact cS HR0_1 HB)
           (case side2 => exact HC0_1.out)
           (case side3 => exact cS HR0_2 HB)
           (case side4 => exact HC0_2.out)
           rintro e w27 ⟨rfl, hb⟩
           have HS6_ := (hb.cell (World.block_lt_of_cell? _ _ (hHeld.2.2.2.2.2.2.1))).trans (hHeld.2.2.2.2.2.2.1)
           refine ⟨_, rfl, ?_⟩
           have n0_ := Aside0.mk (Kd.S_below (zS HO_9) hb)
           have n1_ := Aside0.mk (Kd.R_below (zR HO_10) hb)
           have n2_ := kB BK196 hb
           have n3_ := kB BK197 hb
           have n4_ := bS HB hb
           clear HO_9
           clear HO_10
           clear BK196
           clear BK197
           clear HB
           have HO_9 := n0_
           have HO_10 := n1_
           have BK196 := n2_
           have BK197 := n3_
           have HB := n4_
           clear n0_ n1_ n2_ n3_ n4_
           (try clear hb)
           (try clear hb2)
           (try clear hk)
           (try clear hi)
           refine hK.out _ _ ⟨bc0 BK196, bc1 BK196, bc2 BK196, bc0 BK197, bc1 BK197, bc2 BK197, HS6_, ((HB.out.cell (World.block_lt_of_cell? w _ hw209_0)).trans hw209_0), ((HB.out.cell (World.block_lt_of_cell? w _ hw209_1)).trans hw209_1), ((HB.out.cell (World.block_lt_of_cell? w _ hw209_2)).trans hw209_2), ((HB.out.cell (World.block_lt_of_cell? w _ hw209_3)).trans hw209_3), ((HB.out.cell (World.block_lt_of_cell? w _ hw208_0)).trans hw208_0), ((HB.out.cell (World.block_lt_of_cell? w _ hw208_1)).trans hw208_1), ((HB.out.cell (World.block_lt_of_cell? w _ hw208_2)).trans hw208_2), ((HB.out.cell (World.block_lt_of_cell? w _ hw208_3)).trans hw208_3)⟩ (fun hHeld => ?_)
           clear hK K
           refine norm_ (a' := ?_) ?_ ?_
           rotate_left
           ·show Act.put _ (some 43) _ = _
            simp only [Act.put, List.setIfInBounds_toArray, List.set_cons_zero, List.set_cons_succ, i64_w, i32_w]
            rfl
           refine pure_ (i := 10) (N := some 44) (v := ?_) (a' := ?_) (bm 23 518143) rfl rfl (any_of HT_.out (by kernel_rfl)) (fun _ _ _ h => h) (Or.inl ⟨by rfl, ?_⟩) ?_ ?_
           rotate_left
           ·intro w'
            go_simp
            with_reducible rfl
           rotate_left
           ·simp only [Act.put, List.setIfInBounds_toArray, List.set_cons_zero, List.set_cons_succ, i64_w, i32_w]
            rfl
           refine pure_ (i := 11) (N := some 45) (v := ?_) (a' := ?_) (bm 23 520191) rfl rfl (any_of HT_.out (by kernel_rfl)) (fun _ _ _ h => h) (Or.inl ⟨by rfl, ?_⟩) ?_ ?_
           rotate_left
           ·intro w'
            go_simp
            with_reducible rfl
           rotate_left
           ·simp only [Act.put, List.setIfInBounds_toArray, List.set_cons_zero, List.set_cons_succ, i64_w, i32_w]
            rfl
           refine take_ (i := 12) (N := some 46) (v := ?_) (a' := ?_) (bm 23 524287) rfl rfl (take_ofW HT_.out HW_.out (by kernel_rfl)) (fun _ _ _ h => h) (Or.inl ⟨by rfl, ?_⟩) hHeld ?_ ?_
           rotate_left
           ·rintro w' ⟨s0, s1, s2, s3, s4, s5, s6, s7, s8, s9, s10, s11, s12, s13, s14⟩
            go_simp
            with_reducible rfl
           rotate_left
           ·simp only [Act.put, List.setIfInBounds_toArray, List.set_cons_zero, List.set_cons_succ, i64_w, i32_w]
            rfl
           refine one_ (i := 19) (N := some 53) (bm 23 1048575) rfl rfl (one_of HT_.out (by kernel_rfl)) (by decide) (fun K hK => ?_)
           refine Kd.R_lit_step (Kd.int .i64) _ 3 ?hg (N := 53) ?hd (xs := ([(rd_T80 l0_2 t207).f3, (rd_T80 l1_2 t205).f3] : List Int)) (inner := [.int .i64 ((rd_T80 l0_2 t207).f3), .int .i64 ((rd_T80 l1_2 t205).f3)]) (ok := fun _ => True) (okp := fun _ => True) ?hr ?hp (fun _ hk => hk) trivial (Below.refl _ _) (Nat.le_refl _) (by simp) ?_; (case hd => rfl); (case hg => rfl); (case hr => first | (go_simp; done) | (go_simp; rfl)); (case hp => exact (Reps.one (show Kd.M (Kd.int .i64) _ _ _ ((rd_T80 l0_2 t207).f3) [.int .i64 ((rd_T80 l0_2 t207).f3)] from rfl) (Reps.one (show Kd.M (Kd.int .i64) _ _ _ ((rd_T80 l1_2 t205).f3) [.int .i64 ((rd_T80 l1_2 t205).f3)] from rfl) (Reps.none _ _))))
           intro v211 w28 ho29 hb hg_ hnew_
           have HS6_ := (hb.cell (World.block_lt_of_cell? _ _ (hHeld.2.2.2.2.2.2.1))).trans (hHeld.2.2.2.2.2.2.1)
           clear hg_ hnew_
           (first | rw [← Ny210.out] at ho29 | (simp only [Int.reduceToNat] at ho29; rw [← Ny210.out] at ho29))
           have n0_ := Aside0.mk (Kd.S_elder' (zS HO_9) (Kd.R_base ho29) hb)
           have n1_ := Aside0.mk (Kd.R_elder' (zR HO_10) (Kd.R_base ho29) hb)
           have n2_ := Aside0.mk (Kd.R_lower (Kd.R_new' ho29 (Kd.R_lt (zR HO_10))) (below_size (zB HB)))
           have n3_ := kB BK196 hb
           have n4_ := kB BK197 hb
           have n5_ := bS HB hb
           clear HO_9
           clear HO_10
           clear BK196
           clear BK197
           clear HB
           have HO_9 := n0_
           have HO_10 := n1_
           have HO212 := n2_
           have BK196 := n3_
           have BK197 := n4_
           have HB := n5_
           clear n0_ n1_ n2_ n3_ n4_ n5_
           clear hb ho29
           obtain ⟨Ao31, co31, eo31⟩ := Kd.R_slice HO212.out
           (first | subst eo31 | (injection eo31 with f1_ f2_ f3_; have f4_ := f1_.symm; have f5_ := f3_.symm; clear f1_ f2_ f3_; subst f4_; subst f5_))
           refine hK.out _ _ ⟨bc0 BK196, bc1 BK196, bc2 BK196, bc0 BK197, bc1 BK197, bc2 BK197, HS6_, ((HB.out.cell (World.block_lt_of_cell? w _ hw209_0)).trans hw209_0), ((HB.out.cell (World.block_lt_of_cell? w _ hw209_1)).trans hw209_1), ((HB.out.cell (World.block_lt_of_cell? w _ hw209_2)).trans hw209_2), ((HB.out.cell (World.block_lt_of_cell? w _ hw209_3)).trans hw209_3), ((HB.out.cell (World.block_lt_of_cell? w _ hw208_0)).trans hw208_0), ((HB.out.cell (World.block_lt_of_cell? w _ hw208_1)).trans hw208_1), ((HB.out.cell (World.block_lt_of_cell? w _ hw208_2)).trans hw208_2), ((HB.out.cell (World.block_lt_of_cell? w _ hw208_3)).trans hw208_3)⟩ (fun hHeld => ?_)
           clear hK K
           refine norm_ (a' := ?_) ?_ ?_
           rotate_left
           ·show Act.put _ (some 53) _ = _
            simp only [Act.put, List.setIfInBounds_toArray, List.set_cons_zero, List.set_cons_succ, i64_w, i32_w]
            rfl
           refine last_ (i := 20) (N := some 54) (bm 23 2097151) rfl rfl (one_of HT_.out (by kernel_rfl)) (by decide) (fun K hK => ?_)
           refine value_ (w1 := ?_) (v := ?_) (by rfl) rfl ?_ ?_
           rotate_left 2
           ·go_simp
            constructor
            ·rfl
            ·rfl
           refine hK.out _ _ ?_
           clear hK K
           refine norm_ (a' := ?_) ?_ ?_
           rotate_left
           ·show Act.put _ (some 54) _ = _
            simp only [Act.put, List.setIfInBounds_toArray, List.set_cons_zero, List.set_cons_succ, i64_w, i32_w]
            rfl
           refine last_ (i := 21) (N := some 55) (bm 23 4194303) rfl rfl (one_of HT_.out (by kernel_rfl)) (by decide) (fun K hK => ?_)
           refine Kd.S_append_step (Kd.slice 3 (Kd.int .i64)) (w0 := w) w.heap.size (by rfl) (.tmp 34) (.tmp 54) 65 37 (.slice none 0 0) 24 rfl Try.underlying65 info37 rfl (by decide) (by omega) u9 x9_1 y210 [.slice Ao31 y210.length co31] (fun k_ => some k_ ≠ (.slice (some ad204) t201.length co23 : Value).ownBlock) (fun k_ => some k_ = (.slice Ao31 y210.length co31 : Value).ownBlock) rfl rfl ?aP (fun k_ hk_ => ((Kd.R_mono (ok' := fun k_ => ((fun k_ => some k_ ≠ (.slice (some ad204) t201.length co23 : Value).ownBlock)) k_ ∧ some k_ ≠ (u9 : Value).ownBlock) (Kd.R_apart' (HO212.out) (Kd.S_typed HO_9.out) (by decide)) (fun k_ hk => ⟨hk.1.2, hk.2⟩))).1 k_ hk_.symm) ?aF ?aO ?aB ?aS ?aL ?_
           (case aP => exact Kd.M_row (Kd.R_mono (Kd.R_tight rfl (Kd.R_mono (ok' := fun k_ => ((fun k_ => some k_ ≠ (.slice (some ad204) t201.length co23 : Value).ownBlock)) k_ ∧ some k_ ≠ (u9 : Value).ownBlock) (Kd.R_apart' (HO212.out) (Kd.S_typed HO_9.out) (by decide)) (fun k_ hk => ⟨hk.1.2, hk.2⟩))) (fun _ h_ => h_)))
           (case aB => exact (zB HB))
           (case aF => exact (fun k_ hk => Kd.fresh' (Kd.R_lt (zR HO_10)) k_ hk))
           (case aO => exact (by (with_reducible repeat (first | apply Kd.S_alloc | apply Kd.S_drewN | apply Kd.S_drew)); exact Kd.S_mono HO_9.out (fun k_ hk => ⟨hk.1, fun e_ => hk.2 e_⟩)))
           (case aS => exact (below_size (zB HB)))
           (case aL => have := LMc22.out; omega)
           intro v214 w30 ho hb hg hat
           rw [← Ny213.out] at ho
           have n0_ := Aside0.mk (Kd.R_over' (zR HO_10) (Kd.S_typed (zS HO_9)) (by decide) hg)
           have n1_ := Aside0.mk (blk_grown (g := gb196) (o := .cells #[.int .i64 a0_0, .slice A0_1 l0_1.length c0_1, .slice (some ad208) l0_2.length c0_2] 31 (0, 0)) (zK BK196) hg (Kd.S_ne HO_9.out BK196.out (by decide)))
           have n2_ := Aside0.mk (blk_grown (g := gb197) (o := .cells #[.int .i64 a1_0, .slice A1_1 l1_1.length c1_1, .slice (some ad209) l1_2.length c1_2] 31 (0, 0)) (zK BK197) hg (Kd.S_ne HO_9.out BK197.out (by decide)))
           have n3_ := Aside0.mk (hb)
           have n4_ := Aside0.mk (ho)
           clear HO_10
           clear BK196
           clear BK197
           clear HB
           clear HO_9
           clear HO212
           have HO_10 := n0_
           have BK196 := n1_
           have BK197 := n2_
           have HB := n3_
           have HO215 := n4_
           clear n0_ n1_ n2_ n3_ n4_
           clear ho hb hg hat
           refine hK.out _ _ ?_
           clear hK K
           refine norm_ (a' := ?_) ?_ ?_
           rotate_left
           ·show Act.put _ (some 55) _ = _
            simp only [Act.put, List.setIfInBounds_toArray, List.set_cons_zero, List.set_cons_succ, i64_w, i32_w]
            rfl
           refine pure_ (i := 22) (N := some 9) (v := ?_) (a' := ?_) (bm 23 8388607) rfl rfl (any_of HT_.out (by kernel_rfl)) (fun _ _ _ h => h) (Or.inl ⟨by rfl, ?_⟩) ?_ ?_
           rotate_left
           ·intro w'
            go_simp
            with_reducible rfl
           rotate_left
           ·simp only [Act.put, List.setIfInBounds_toArray, List.set_cons_zero, List.set_cons_succ, i64_w, i32_w]
            rfl
           refine done_ (done_of HT_.out (by kernel_rfl)) ?_
           try clear hHeld
           try go_wp2
           go_roundg k1
           case measure => have := HK1.out; omega
           case rel => exact ⟨(y213), (wrap64 (x11_1 + 1)), zF, H', ⟨by have := HK1.out; omega⟩, ⟨zS HO215⟩, ⟨by (with_reducible repeat (first | apply Kd.R_alloc | apply Kd.R_drewN | apply Kd.R_drew)); exact Kd.R_mono HO_10.out (fun _ hk => trivial)⟩, ⟨zK BK196⟩, ⟨zK BK197⟩, ⟨zB HB⟩⟩
          ·rw [if_neg c22] at H
           exact absurd H (by simp)
         ·rw [if_neg c21] at H
          exact absurd H (by simp)
        ·rw [if_neg c20] at H
         exact absurd H (by simp)
       ·rw [if_neg c19] at H
        exact absurd H (by simp)
      ·rw [if_neg c18] at H
       exact absurd H (by simp)
     ·rw [if_neg c16] at H
      have c16b0 : decide (0 ≤ t205) = false := decide_eq_false c16
      clear c16
      have H' := Aside0.mk H
      clear H
      obtain ⟨Ao32, co32, eo32⟩ := Kd.R_slice HO_10.out
      subst eo32
      try go_wp2
      have n0_ := Aside0.mk (Kd.S_drew HO_9.out)
      have n1_ := Aside0.mk (Kd.R_drew HO_10.out)
      have n2_ := Aside0.mk (blk_drew BK196.out)
      have n3_ := Aside0.mk (blk_drew BK197.out)
      have n4_ := Aside0.mk (below_drew1 HB.out)
      clear HO_9
      clear HO_10
      clear BK196
      clear BK197
      clear HB
      have HO_9 := n0_
      have HO_10 := n1_
      have BK196 := n2_
      have BK197 := n3_
      have HB := n4_
      clear n0_ n1_ n2_ n3_ n4_
      have p204 : 0 ≤ (x11_1 : Int) := of_decide_eq_true (by first | (with_reducible assumption) | assumption)
      have q204 : x11_1 < (t201.length : Int) := of_decide_eq_true (by first | (with_reducible assumption) | assumption)
      obtain ⟨ad204, e204, hx204_0⟩ := Kd.at_int (Kd.R_reads' HO_10.out).2.2 x11_1 p204 q204
      cases e204
      replace p204 := eq_true p204
      replace q204 := eq_true q204
      refine start_ (n := 8) (S := fun w' => w'.cell? ⟨gb197, 0, none⟩ = some (.int .i64 a1_0) ∧ w'.cell? ⟨gb197, 1, none⟩ = some (.slice A1_1 l1_1.length c1_1) ∧ w'.cell? ⟨gb197, 2, none⟩ = some (.slice A1_2 l1_2.length c1_2) ∧ w'.cell? (ad204.add (x11_1).toNat) = some (.int .i64 (rd t201 x11_1))) (ds := []) (bm 8 0) (by kernel_rfl) rfl (bm0 _) ⟨bc0 BK197, bc1 BK197, bc2 BK197, hx204_0⟩ (fun hHeld => ?_); refine with_tabW spec_NextPairs.tab6 spec_NextPairs.bits6 (fun HT_ HW_ => ?_)
      generalize wr.drew = w33 at HO_9 HO_10 BK196 BK197 HB hx204_0 hHeld ⊢
      refine pure_ (i := 1) (N := some 26) (v := ?_) (a' := ?_) (bm 8 2) rfl rfl (any_of HT_.out (by kernel_rfl)) (fun _ _ _ h => h) (Or.inl ⟨by rfl, ?_⟩) ?_ ?_
      rotate_left
      ·intro w'
       go_simp
       with_reducible rfl
      rotate_left
      ·simp only [Act.put, List.setIfInBounds_toArray, List.set_cons_zero, List.set_cons_succ, i64_w, i32_w]
       rfl
      refine pure_ (i := 2) (N := some 27) (v := ?_) (a' := ?_) (bm 8 6) rfl rfl (any_of HT_.out (by kernel_rfl)) (fun _ _ _ h => h) (Or.inl ⟨by rfl, ?_⟩) ?_ ?_
      rotate_left
      ·intro w'
       go_simp
       with_reducible rfl
      rotate_left
      ·simp only [Act.put, List.setIfInBounds_toArray, List.set_cons_zero, List.set_cons_succ, i64_w, i32_w]
       rfl
      refine pure_ (i := 3) (N := some 28) (v := ?_) (a' := ?_) (bm 8 14) rfl rfl (any_of HT_.out (by kernel_rfl)) (fun _ _ _ h => h) (Or.inl ⟨by rfl, ?_⟩) ?_ ?_
      rotate_left
      ·intro w'
       go_simp
       with_reducible rfl
      rotate_left
      ·simp only [Act.put, List.setIfInBounds_toArray, List.set_cons_zero, List.set_cons_succ, i64_w, i32_w]
       rfl
      refine pure_ (i := 4) (N := some 29) (v := ?_) (a' := ?_) (bm 8 30) rfl rfl (any_of HT_.out (by kernel_rfl)) (fun _ _ _ h => h) (Or.inl ⟨by rfl, ?_⟩) ?_ ?_
      rotate_left
      ·intro w'
       go_simp
       with_reducible rfl
      rotate_left
      ·simp only [Act.put, List.setIfInBounds_toArray, List.set_cons_zero, List.set_cons_succ, i64_w, i32_w]
       rfl
      refine take_ (i := 0) (N := some 25) (v := ?_) (a' := ?_) (bm 8 31) rfl rfl (take_ofW HT_.out HW_.out (by kernel_rfl)) (fun _ _ _ h => h) (Or.inl ⟨by rfl, ?_⟩) hHeld ?_ ?_
      rotate_left
      ·rintro w' ⟨s0, s1, s2, s3⟩
       go_simp
       with_reducible rfl
      rotate_left
      ·simp only [Act.put, List.setIfInBounds_toArray, List.set_cons_zero, List.set_cons_succ, i64_w, i32_w]
       rfl
      refine take_ (i := 5) (N := some 30) (v := ?_) (a' := ?_) (bm 8 63) rfl rfl (take_ofW HT_.out HW_.out (by kernel_rfl)) (fun _ _ _ h => h) (Or.inl ⟨by rfl, ?_⟩) hHeld ?_ ?_
      rotate_left
      ·rintro w' ⟨s0, s1, s2, s3⟩
       go_simp
       with_reducible rfl
      rotate_left
      ·simp only [Act.put, List.setIfInBounds_toArray, List.set_cons_zero, List.set_cons_succ, i64_w, i32_w]
       rfl
      refine one_ (i := 6) (N := some 31) (bm 8 127) rfl rfl (one_of HT_.out (by kernel_rfl)) (by decide) (fun K hK => ?_)
      refine goes_ Try.func36 (by kernel_rfl) rfl #[.agg #[.int .i64 a1_0, .slice A1_1 l1_1.length c1_1, .slice A1_2 l1_2.length c1_2], .int .i64 a3, .bool false, .int .i64 (rd t201 x11_1)] (by rfl) rfl rfl zG ?_
      with_reducible refine (spec_MoveOf.calls k1 a1_0 _ _ l1_1 _ _ l1_2 a3 false (rd t201 x11_1) t205 _ ?side1 ?side2 ?side3 ?side4 A15.out).mono ?_
      (case side1 => exact cS HR1_1 HB)
      (case side2 => exact HC1_1.out)
      (case side3 => exact cS HR1_2 HB)
      (case side4 => exact HC1_2.out)
      rintro e w34 ⟨rfl, hb⟩
      have HS3_ := (hb.cell (World.block_lt_of_cell? _ _ (hHeld.2.2.2))).trans (hHeld.2.2.2)
      refine ⟨_, rfl, ?_⟩
      have n0_ := Aside0.mk (Kd.S_below (zS HO_9) hb)
      have n1_ := Aside0.mk (Kd.R_below (zR HO_10) hb)
      have n2_ := kB BK196 hb
      have n3_ := kB BK197 hb
      have n4_ := bS HB hb
      clear HO_9
      clear HO_10
      clear BK196
      clear BK197
      clear HB
      have HO_9 := n0_
      have HO_10 := n1_
      have BK196 := n2_
      have BK197 := n3_
      have HB := n4_
      clear n0_ n1_ n2_ n3_ n4_
      (try clear hb)
      (try clear hb2)
      (try clear hk)
      (try clear hi)
      refine hK.out _ _ ⟨bc0 BK197, bc1 BK197, bc2 BK197, HS3_⟩ (fun hHeld => ?_)
      clear hK K
      refine norm_ (a' := ?_) ?_ ?_
      rotate_left
      ·show Act.put _ (some 31) _ = _
       simp only [Act.put, List.setIfInBounds_toArray, List.set_cons_zero, List.set_cons_succ, i64_w, i32_w]
       rfl
      refine pure_ (i := 7) (N := some 12) (v := ?_) (a' := ?_) (bm 8 255) rfl rfl (any_of HT_.out (by kernel_rfl)) (fun _ _ _ h => h) (Or.inl ⟨by rfl, ?_⟩) ?_ ?_
      rotate_left
      ·intro w'
       go_simp
       with_reducible rfl
      rotate_left
      ·simp only [Act.put, List.setIfInBounds_toArray, List.set_cons_zero, List.set_cons_succ, i64_w, i32_w]
       rfl
      refine done_ (done_of HT_.out (by kernel_rfl)) ?_
      try clear hHeld
      try go_wp2
      go_roundg k1
      case measure => have := HK1.out; omega
      case rel => exact ⟨(x9_1), (wrap64 (x11_1 + 1)), zF, H', ⟨by have := HK1.out; omega⟩, ⟨zS HO_9⟩, ⟨zR HO_10⟩, ⟨zK BK196⟩, ⟨zK BK197⟩, ⟨zB HB⟩⟩
    ·rw [if_neg c14] at H
     exact absurd H (by simp)
   ·rw [if_neg c13] at H
    have c13b0 : decide (x11_1 < (t201.length : Int)) = false := decide_eq_false c13
    clear c13
    replace H := Option.bind_eq_some_iff.mp H
    obtain ⟨t216, A350, H⟩ := H
    replace H : (spec_NextPairs.l1 k1 a2 a3 x9_1 t216 0 a0_0 l0_1 l0_2 a1_0 l1_1 l1_2) = some r := H
    have A35 := Aside0.mk A350
    clear A350
    have H' := Aside0.mk H
    clear H
    obtain ⟨Ao36, co36, eo36⟩ := Kd.R_slice HO_10.out
    subst eo36
    have hnb37 := NB197_196.out
    have hnc37 := NB196_197.out
    have hcz38_0 := bc0 BK197
    have hcz38_1 := bc1 BK197
    have hcz38_2 := bc2 BK197
    have hfz38_0 := bf BK197 0
    have hfz38_1 := bf BK197 1
    have hfz38_2 := bf BK197 2
    go_wp2_with (first | ((with_reducible refine gate_callee (f := 50) rfl ?_); refine goesL_ (some 58) rfl rfl Try.func50 (by kernel_rfl) rfl #[.agg #[.int .i64 a1_0, .slice A1_1 l1_1.length c1_1, .slice A1_2 l1_2.length c1_2], .int .i64 a3, .bool true] rfl zG ?_; (with_reducible refine (spec_MovesFrom.calls k1 a1_0 _ _ l1_1 _ _ l1_2 a3 true t216 _ ?side1 ?side2 ?side3 ?side4 A35.out).mono ?_); (case side1 => exact cS HR1_1 HB); (case side2 => exact HC1_1.out); (case side3 => exact cS HR1_2 HB); (case side4 => exact HC1_2.out); rintro e w39 ⟨v217, rfl, ho0, hb⟩; refine ⟨_, rfl, ?_⟩; have n0_ := Aside0.mk (Kd.S_elder' (zS HO_9) (Kd.R_base ho0) hb); have n1_ := Aside0.mk (Kd.R_elder' (zR HO_10) (Kd.R_base ho0) hb); have n2_ := Aside0.mk (Kd.R_lower (Kd.R_new' ho0 (Kd.R_lt (zR HO_10))) (below_size (zB HB))); have n3_ := kB BK196 hb; have n4_ := kB BK197 hb; have n5_ := bS HB hb; clear HO_9; clear HO_10; clear BK196; clear BK197; clear HB; have HO_9 := n0_; have HO_10 := n1_; have HO218 := n2_; have BK196 := n3_; have BK197 := n4_; have HB := n5_; clear n0_ n1_ n2_ n3_ n4_ n5_; (try clear hb); (try clear ho0)))
    go_loopg [9, 13] k1 (fun kq v9 v13 w' => ∃ (x9_2 : List (List Int)) (x13_2 : Int), v13 = .int .i64 x13_2 ∧ Aside0 (spec_NextPairs.l1 kq a2 a3 x9_2 t216 x13_2 a0_0 l0_1 l0_2 a1_0 l1_1 l1_2 = some r) ∧ Aside0 (kq ≤ k1) ∧ Aside0 (Kd.S (Kd.slice 3 (Kd.int .i64)) 37 w' w.heap.size (fun k_ => some k_ ≠ (v217 : Value).ownBlock) v9 x9_2) ∧ Aside0 (Kd.R (Kd.int .i64) 3 w' w.heap.size (fun _ => True) v217 t216) ∧ Aside0 (w'.heap[gb196]? = some (.cells #[.int .i64 a0_0, (.slice A0_1 l0_1.length c0_1), (.slice A0_2 l0_2.length c0_2)] 31 (0, 0))) ∧ Aside0 (w'.heap[gb197]? = some (.cells #[.int .i64 a1_0, (.slice A1_1 l1_1.length c1_1), (.slice A1_2 l1_2.length c1_2)] 31 (0, 0))) ∧ Aside0 (Below w.heap.size w w'))
    case atStart => exact ⟨(x9_1), (0), zF, H', ⟨Nat.le_refl _⟩, ⟨by (with_reducible repeat (first | apply Kd.S_alloc | apply Kd.S_drewN | apply Kd.S_drew)); exact Kd.S_mono HO_9.out (fun _ hk => hk.2)⟩, ⟨by (with_reducible repeat (first | apply Kd.R_alloc | apply Kd.R_drewN | apply Kd.R_drew)); exact Kd.R_mono HO218.out (fun _ hk => trivial)⟩, ⟨zK BK196⟩, ⟨zK BK197⟩, ⟨zB HB⟩⟩
    case round =>
     clear H'
     try clear c1
     try clear c2
     try clear p2
     try clear q2
     try clear hx2
     try clear c3
     try clear c5
     try clear p6
     try clear c13
     try clear c13b0
     try clear c14
     try clear c16
     try clear c16b0
     try clear c18
     try clear c19
     try clear c20
     try clear p20
     try clear q20
     try clear hx20
     try clear c21
     try clear c22
     try clear c36
     try clear c37
     try clear hcz38_0
     try clear hcz38_1
     try clear hcz38_2
     try clear hfz38_0
     try clear hfz38_1
     try clear hfz38_2
     try clear hx204_0
     try clear hx206_0
     try clear hx208_0
     try clear hx208_1
     try clear hx208_2
     try clear hx208_3
     try clear hx209_0
     try clear hx209_1
     try clear hx209_2
     try clear hx209_3
     try clear p204
     try clear p206
     try clear p208
     try clear p209
     try clear q204
     try clear q206
     try clear q208
     try clear q209
     obtain ⟨x9_2, x13_2, rfl, HA, HK2, HO_9, HO_10, BK196, BK197, HB⟩ := hrel
     cases gk with
     | zero => exact absurd HA.out (by simp [spec_NextPairs.l1])
     | succ k2 =>
      have H := HA.out
      clear HA
      simp only [spec_NextPairs.l1] at H
      by_cases c40 : x13_2 < (t216.length : Int)
      ·rw [if_pos c40] at H
       have c40b0 : decide (x13_2 < (t216.length : Int)) = true := decide_eq_true c40
       clear c40
       by_cases c41 : 0 ≤ x13_2
       ·rw [if_pos c41] at H
        have c41b0 : decide (0 ≤ x13_2) = true := decide_eq_true c41
        clear c41
        replace H := Option.bind_eq_some_iff.mp H
        obtain ⟨t220, A420, H⟩ := H
        replace H : (if t220 ≥ 0 then (if 0 ≤ t220 then (if t220 < (l0_2.length : Int) then ((spec_MoveOf.f k2 a1_0 l1_1 l1_2 a3 true (rd t216 x13_2)).bind fun t223 => (if 0 ≤ t223 then (if t223 < (l1_2.length : Int) then (if x9_2.length < 5864062014805 then (spec_NextPairs.l1 k2 a2 a3 (x9_2 ++ [(([(rd_T80 l0_2 t220).f3, (rd_T80 l1_2 t223).f3] : List Int))]) t216 (wrap64 (x13_2 + 1)) a0_0 l0_1 l0_2 a1_0 l1_1 l1_2) else (none)) else (none)) else (none))) else (none)) else (none)) else (spec_NextPairs.l1 k2 a2 a3 x9_2 t216 (wrap64 (x13_2 + 1)) a0_0 l0_1 l0_2 a1_0 l1_1 l1_2)) = some r := H
        have A42 := Aside0.mk A420
        clear A420
        by_cases c43 : t220 ≥ 0
        ·rw [if_pos c43] at H
         have c43b0 : decide (0 ≤ t220) = true := decide_eq_true c43
         clear c43
         by_cases c44 : 0 ≤ t220
         ·rw [if_pos c44] at H
          have c44b0 : decide (0 ≤ t220) = true := decide_eq_true c44
          clear c44
          by_cases c45 : t220 < (l0_2.length : Int)
          ·rw [if_pos c45] at H
           have c45b0 : decide (t220 < (l0_2.length : Int)) = true := decide_eq_true c45
           clear c45
           replace H := Option.bind_eq_some_iff.mp H
           obtain ⟨t223, A460, H⟩ := H
           replace H : (if 0 ≤ t223 then (if t223 < (l1_2.length : Int) then (if x9_2.length < 5864062014805 then (spec_NextPairs.l1 k2 a2 a3 (x9_2 ++ [(([(rd_T80 l0_2 t220).f3, (rd_T80 l1_2 t223).f3] : List Int))]) t216 (wrap64 (x13_2 + 1)) a0_0 l0_1 l0_2 a1_0 l1_1 l1_2) else (none)) else (none)) else (none)) = some r := H
           have A46 := Aside0.mk A460
           clear A460
           by_cases c47 : 0 ≤ t223
           ·rw [if_pos c47] at H
            have c47b0 : decide (0 ≤ t223) = true := decide_eq_true c47
            clear c47
            by_cases c48 : t223 < (l1_2.length : Int)
            ·rw [if_pos c48] at H
             have c48b0 : decide (t223 < (l1_2.length : Int)) = true := decide_eq_true c48
             clear c48
             obtain ⟨y225, hy225⟩ : ∃ y_ : List Int, y_ = (([(rd_T80 l0_2 t220).f3, (rd_T80 l1_2 t223).f3] : List Int)) := ⟨_, rfl⟩
             replace H : (if x9_2.length < 5864062014805 then (spec_NextPairs.l1 k2 a2 a3 (x9_2 ++ [y225]) t216 (wrap64 (x13_2 + 1)) a0_0 l0_1 l0_2 a1_0 l1_1 l1_2) else (none)) = some r := by first | (rw [hy225]; with_reducible exact H) | (have H2_ := (Option.bind_some _ _).symm.trans H; rw [hy225]; with_reducible exact H2_) | (have H2_ := (Option.bind_some _ _).symm.trans H; with_reducible exact H2_) | with_reducible exact H | (rw [hy225]; exact H) | exact H
             have Ny225 := Aside0.mk hy225
             clear hy225
             by_cases c49 : x9_2.length < 5864062014805
             ·rw [if_pos c49] at H
              have LMc49 := Aside0.mk c49
              clear c49
              obtain ⟨y228, hy228⟩ : ∃ y_ : List (List Int), y_ = (x9_2 ++ [y225]) := ⟨_, rfl⟩
              replace H : (spec_NextPairs.l1 k2 a2 a3 y228 t216 (wrap64 (x13_2 + 1)) a0_0 l0_1 l0_2 a1_0 l1_1 l1_2) = some r := by first | (rw [hy228]; with_reducible exact H) | (have H2_ := (Option.bind_some _ _).symm.trans H; rw [hy228]; with_reducible exact H2_) | (have H2_ := (Option.bind_some _ _).symm.trans H; with_reducible exact H2_) | with_reducible exact H | (rw [hy228]; exact H) | exact H
              have Ny228 := Aside0.mk hy228
              clear hy228
              have H' := Aside0.mk H
              clear H
              obtain ⟨Ao50, co50, eo50⟩ := Kd.R_slice HO_10.out
              subst eo50
              try go_wp2
              have n0_ := Aside0.mk (Kd.S_drew HO_9.out)
              have n1_ := Aside0.mk (Kd.R_drew HO_10.out)
              have n2_ := Aside0.mk (blk_drew BK196.out)
              have n3_ := Aside0.mk (blk_drew BK197.out)
              have n4_ := Aside0.mk (below_drew1 HB.out)
              clear HO_9
              clear HO_10
              clear BK196
              clear BK197
              clear HB
              have HO_9 := n0_
              have HO_10 := n1_
              have BK196 := n2_
              have BK197 := n3_
              have HB := n4_
              clear n0_ n1_ n2_ n3_ n4_
              have p219 : 0 ≤ (x13_2 : Int) := of_decide_eq_true (by first | (with_reducible assumption) | assumption)
              have q219 : x13_2 < (t216.length : Int) := of_decide_eq_true (by first | (with_reducible assumption) | assumption)
              obtain ⟨ad219, e219, hx219_0⟩ := Kd.at_int (Kd.R_reads' HO_10.out).2.2 x13_2 p219 q219
              cases e219
              replace p219 := eq_true p219
              replace q219 := eq_true q219
              refine start_ (n := 8) (S := fun w' => w'.cell? ⟨gb196, 0, none⟩ = some (.int .i64 a0_0) ∧ w'.cell? ⟨gb196, 1, none⟩ = some (.slice A0_1 l0_1.length c0_1) ∧ w'.cell? ⟨gb196, 2, none⟩ = some (.slice A0_2 l0_2.length c0_2) ∧ w'.cell? (ad219.add (x13_2).toNat) = some (.int .i64 (rd t216 x13_2))) (ds := []) (bm 8 0) (by kernel_rfl) rfl (bm0 _) ⟨bc0 BK196, bc1 BK196, bc2 BK196, hx219_0⟩ (fun hHeld => ?_); refine with_tabW spec_NextPairs.tab13 spec_NextPairs.bits13 (fun HT_ HW_ => ?_)
              generalize wr.drew = w51 at HO_9 HO_10 BK196 BK197 HB hx219_0 hHeld ⊢
              refine pure_ (i := 1) (N := some 66) (v := ?_) (a' := ?_) (bm 8 2) rfl rfl (any_of HT_.out (by kernel_rfl)) (fun _ _ _ h => h) (Or.inl ⟨by rfl, ?_⟩) ?_ ?_
              rotate_left
              ·intro w'
               go_simp
               with_reducible rfl
              rotate_left
              ·simp only [Act.put, List.setIfInBounds_toArray, List.set_cons_zero, List.set_cons_succ, i64_w, i32_w]
               rfl
              refine pure_ (i := 2) (N := some 67) (v := ?_) (a' := ?_) (bm 8 6) rfl rfl (any_of HT_.out (by kernel_rfl)) (fun _ _ _ h => h) (Or.inl ⟨by rfl, ?_⟩) ?_ ?_
              rotate_left
              ·intro w'
               go_simp
               with_reducible rfl
              rotate_left
              ·simp only [Act.put, List.setIfInBounds_toArray, List.set_cons_zero, List.set_cons_succ, i64_w, i32_w]
               rfl
              refine pure_ (i := 3) (N := some 68) (v := ?_) (a' := ?_) (bm 8 14) rfl rfl (any_of HT_.out (by kernel_rfl)) (fun _ _ _ h => h) (Or.inl ⟨by rfl, ?_⟩) ?_ ?_
              rotate_left
              ·intro w'
               go_simp
               with_reducible rfl
              rotate_left
              ·simp only [Act.put, List.setIfInBounds_toArray, List.set_cons_zero, List.set_cons_succ, i64_w, i32_w]
               rfl
              refine pure_ (i := 4) (N := some 69) (v := ?_) (a' := ?_) (bm 8 30) rfl rfl (any_of HT_.out (by kernel_rfl)) (fun _ _ _ h => h) (Or.inl ⟨by rfl, ?_⟩) ?_ ?_
              rotate_left
              ·intro w'
               go_simp
               with_reducible rfl
              rotate_left
              ·simp only [Act.put, List.setIfInBounds_toArray, List.set_cons_zero, List.set_cons_succ, i64_w, i32_w]
               rfl
              refine take_ (i := 0) (N := some 65) (v := ?_) (a' := ?_) (bm 8 31) rfl rfl (take_ofW HT_.out HW_.out (by kernel_rfl)) (fun _ _ _ h => h) (Or.inl ⟨by rfl, ?_⟩) hHeld ?_ ?_
              rotate_left
              ·rintro w' ⟨s0, s1, s2, s3⟩
               go_simp
               with_reducible rfl
              rotate_left
              ·simp only [Act.put, List.setIfInBounds_toArray, List.set_cons_zero, List.set_cons_succ, i64_w, i32_w]
               rfl
              refine take_ (i := 5) (N := some 70) (v := ?_) (a' := ?_) (bm 8 63) rfl rfl (take_ofW HT_.out HW_.out (by kernel_rfl)) (fun _ _ _ h => h) (Or.inl ⟨by rfl, ?_⟩) hHeld ?_ ?_
              rotate_left
              ·rintro w' ⟨s0, s1, s2, s3⟩
               go_simp
               with_reducible rfl
              rotate_left
              ·simp only [Act.put, List.setIfInBounds_toArray, List.set_cons_zero, List.set_cons_succ, i64_w, i32_w]
               rfl
              refine one_ (i := 6) (N := some 71) (bm 8 127) rfl rfl (one_of HT_.out (by kernel_rfl)) (by decide) (fun K hK => ?_)
              refine goes_ Try.func36 (by kernel_rfl) rfl #[.agg #[.int .i64 a0_0, .slice A0_1 l0_1.length c0_1, .slice A0_2 l0_2.length c0_2], .int .i64 a2, .bool false, .int .i64 (rd t216 x13_2)] (by rfl) rfl rfl zG ?_
              with_reducible refine (spec_MoveOf.calls k2 a0_0 _ _ l0_1 _ _ l0_2 a2 false (rd t216 x13_2) t220 _ ?side1 ?side2 ?side3 ?side4 A42.out).mono ?_
              (case side1 => exact cS HR0_1 HB)
              (case side2 => exact HC0_1.out)
              (case side3 => exact cS HR0_2 HB)
              (case side4 => exact HC0_2.out)
              rintro e w52 ⟨rfl, hb⟩
              have HS3_ := (hb.cell (World.block_lt_of_cell? _ _ (hHeld.2.2.2))).trans (hHeld.2.2.2)
              refine ⟨_, rfl, ?_⟩
              have n0_ := Aside0.mk (Kd.S_below (zS HO_9) hb)
              have n1_ := Aside0.mk (Kd.R_below (zR HO_10) hb)
              have n2_ := kB BK196 hb
              have n3_ := kB BK197 hb
              have n4_ := bS HB hb
              clear HO_9
              clear HO_10
              clear BK196
              clear BK197
              clear HB
              have HO_9 := n0_
              have HO_10 := n1_
              have BK196 := n2_
              have BK197 := n3_
              have HB := n4_
              clear n0_ n1_ n2_ n3_ n4_
              (try clear hb)
              (try clear hb2)
              (try clear hk)
              (try clear hi)
              refine hK.out _ _ ⟨bc0 BK196, bc1 BK196, bc2 BK196, HS3_⟩ (fun hHeld => ?_)
              clear hK K
              refine norm_ (a' := ?_) ?_ ?_
              rotate_left
              ·show Act.put _ (some 71) _ = _
               simp only [Act.put, List.setIfInBounds_toArray, List.set_cons_zero, List.set_cons_succ, i64_w, i32_w]
               rfl
              refine pure_ (i := 7) (N := some 14) (v := ?_) (a' := ?_) (bm 8 255) rfl rfl (any_of HT_.out (by kernel_rfl)) (fun _ _ _ h => h) (Or.inl ⟨by rfl, ?_⟩) ?_ ?_
              rotate_left
              ·intro w'
               go_simp
               with_reducible rfl
              rotate_left
              ·simp only [Act.put, List.setIfInBounds_toArray, List.set_cons_zero, List.set_cons_succ, i64_w, i32_w]
               rfl
              refine done_ (done_of HT_.out (by kernel_rfl)) ?_
              try clear hHeld
              try go_wp2
              have n0_ := Aside0.mk (Kd.S_drew HO_9.out)
              have n1_ := Aside0.mk (Kd.R_drew HO_10.out)
              have n2_ := Aside0.mk (blk_drew BK196.out)
              have n3_ := Aside0.mk (blk_drew BK197.out)
              have n4_ := Aside0.mk (below_drew1 HB.out)
              clear HO_9
              clear HO_10
              clear BK196
              clear BK197
              clear HB
              have HO_9 := n0_
              have HO_10 := n1_
              have BK196 := n2_
              have BK197 := n3_
              have HB := n4_
              clear n0_ n1_ n2_ n3_ n4_
              have p221 : 0 ≤ (t220 : Int) := of_decide_eq_true (by first | (with_reducible assumption) | assumption)
              have q221 : t220 < (l0_2.length : Int) := of_decide_eq_true (by first | (with_reducible assumption) | assumption)
              obtain ⟨ad221, e221, hx221_0, hx221_1, hx221_2, hx221_3⟩ := at_T80 HR0_2.out t220 p221 q221
              have hw221_3 := hx221_3
              have hw221_2 := hx221_2
              have hw221_1 := hx221_1
              have hw221_0 := hx221_0
              cases e221
              replace hx221_0 := (HB.out.cell (World.block_lt_of_cell? w _ hx221_0)).trans hx221_0
              replace hx221_1 := (HB.out.cell (World.block_lt_of_cell? w _ hx221_1)).trans hx221_1
              replace hx221_2 := (HB.out.cell (World.block_lt_of_cell? w _ hx221_2)).trans hx221_2
              replace hx221_3 := (HB.out.cell (World.block_lt_of_cell? w _ hx221_3)).trans hx221_3
              replace p221 := eq_true p221
              replace q221 := eq_true q221
              have p222 : 0 ≤ (x13_2 : Int) := of_decide_eq_true (by first | (with_reducible assumption) | assumption)
              have q222 : x13_2 < (t216.length : Int) := of_decide_eq_true (by first | (with_reducible assumption) | assumption)
              obtain ⟨ad222, e222, hx222_0⟩ := Kd.at_int (Kd.R_reads' HO_10.out).2.2 x13_2 p222 q222
              obtain rfl : ad219 = ad222 := (by injection e222)
              replace p222 := eq_true p222
              replace q222 := eq_true q222
              have p224 : 0 ≤ (t223 : Int) := of_decide_eq_true (by first | (with_reducible assumption) | assumption)
              have q224 : t223 < (l1_2.length : Int) := of_decide_eq_true (by first | (with_reducible assumption) | assumption)
              obtain ⟨ad224, e224, hx224_0, hx224_1, hx224_2, hx224_3⟩ := at_T80 HR1_2.out t223 p224 q224
              have hw224_3 := hx224_3
              have hw224_2 := hx224_2
              have hw224_1 := hx224_1
              have hw224_0 := hx224_0
              cases e224
              replace hx224_0 := (HB.out.cell (World.block_lt_of_cell? w _ hx224_0)).trans hx224_0
              replace hx224_1 := (HB.out.cell (World.block_lt_of_cell? w _ hx224_1)).trans hx224_1
              replace hx224_2 := (HB.out.cell (World.block_lt_of_cell? w _ hx224_2)).trans hx224_2
              replace hx224_3 := (HB.out.cell (World.block_lt_of_cell? w _ hx224_3)).trans hx224_3
              replace p224 := eq_true p224
              replace q224 := eq_true q224
              refine start_ (n := 23) (S := fun w' => w'.cell? ⟨gb196, 0, none⟩ = some (.int .i64 a0_0) ∧ w'.cell? ⟨gb196, 1, none⟩ = some (.slice A0_1 l0_1.length c0_1) ∧ w'.cell? ⟨gb196, 2, none⟩ = some (.slice (some ad221) l0_2.length c0_2) ∧ w'.cell? ⟨gb197, 0, none⟩ = some (.int .i64 a1_0) ∧ w'.cell? ⟨gb197, 1, none⟩ = some (.slice A1_1 l1_1.length c1_1) ∧ w'.cell? ⟨gb197, 2, none⟩ = some (.slice (some ad224) l1_2.length c1_2) ∧ w'.cell? (ad221.add ((t220).toNat * 4)) = some (.int .i64 ((rd_T80 l0_2 t220).f0)) ∧ w'.cell? ⟨(ad221.add ((t220).toNat * 4)).block, (ad221.add ((t220).toNat * 4)).off + 1, none⟩ = some (.bool ((rd_T80 l0_2 t220).f1)) ∧ w'.cell? ⟨(ad221.add ((t220).toNat * 4)).block, (ad221.add ((t220).toNat * 4)).off + 2, none⟩ = some (.int .i64 ((rd_T80 l0_2 t220).f2)) ∧ w'.cell? ⟨(ad221.add ((t220).toNat * 4)).block, (ad221.add ((t220).toNat * 4)).off + 3, none⟩ = some (.int .i64 ((rd_T80 l0_2 t220).f3)) ∧ w'.cell? (ad219.add (x13_2).toNat) = some (.int .i64 (rd t216 x13_2)) ∧ w'.cell? (ad224.add ((t223).toNat * 4)) = some (.int .i64 ((rd_T80 l1_2 t223).f0)) ∧ w'.cell? ⟨(ad224.add ((t223).toNat * 4)).block, (ad224.add ((t223).toNat * 4)).off + 1, none⟩ = some (.bool ((rd_T80 l1_2 t223).f1)) ∧ w'.cell? ⟨(ad224.add ((t223).toNat * 4)).block, (ad224.add ((t223).toNat * 4)).off + 2, none⟩ = some (.int .i64 ((rd_T80 l1_2 t223).f2)) ∧ w'.cell? ⟨(ad224.add ((t223).toNat * 4)).block, (ad224.add ((t223).toNat * 4)).off + 3, none⟩ = some (.int .i64 ((rd_T80 l1_2 t223).f3))) (ds := [20, 21]) (bm 23 0) (by kernel_rfl) rfl (bm0 _) ⟨bc0 BK196, bc1 BK196, bc2 BK196, bc0 BK197, bc1 BK197, bc2 BK197, ((HB.out.cell (World.block_lt_of_cell? w _ hw221_0)).trans hw221_0), ((HB.out.cell (World.block_lt_of_cell? w _ hw221_1)).trans hw221_1), ((HB.out.cell (World.block_lt_of_cell? w _ hw221_2)).trans hw221_2), ((HB.out.cell (World.block_lt_of_cell? w _ hw221_3)).trans hw221_3), hx222_0, ((HB.out.cell (World.block_lt_of_cell? w _ hw224_0)).trans hw224_0), ((HB.out.cell (World.block_lt_of_cell? w _ hw224_1)).trans hw224_1), ((HB.out.cell (World.block_lt_of_cell? w _ hw224_2)).trans hw224_2), ((HB.out.cell (World.block_lt_of_cell? w _ hw224_3)).trans hw224_3)⟩ (fun hHeld => ?_); refine with_tabW spec_NextPairs.tab15 spec_NextPairs.bits15 (fun HT_ HW_ => ?_)
              generalize w52.drew = w53 at HO_9 HO_10 BK196 BK197 HB hx221_0 hx221_1 hx221_2 hx221_3 hx222_0 hx224_0 hx224_1 hx224_2 hx224_3 hHeld ⊢
              refine pure_ (i := 0) (N := some 74) (v := ?_) (a' := ?_) (bm 23 1) rfl rfl (any_of HT_.out (by kernel_rfl)) (fun _ _ _ h => h) (Or.inl ⟨by rfl, ?_⟩) ?_ ?_
              rotate_left
              ·intro w'
               go_simp
               with_reducible rfl
              rotate_left
              ·simp only [Act.put, List.setIfInBounds_toArray, List.set_cons_zero, List.set_cons_succ, i64_w, i32_w]
               rfl
              refine pure_ (i := 1) (N := some 75) (v := ?_) (a' := ?_) (bm 23 3) rfl rfl (any_of HT_.out (by kernel_rfl)) (fun _ _ _ h => h) (Or.inl ⟨by rfl, ?_⟩) ?_ ?_
              rotate_left
              ·intro w'
               go_simp
               with_reducible rfl
              rotate_left
              ·simp only [Act.put, List.setIfInBounds_toArray, List.set_cons_zero, List.set_cons_succ, i64_w, i32_w]
               rfl
              refine pure_ (i := 3) (N := some 77) (v := ?_) (a' := ?_) (bm 23 11) rfl rfl (any_of HT_.out (by kernel_rfl)) (fun _ _ _ h => h) (Or.inl ⟨by rfl, ?_⟩) ?_ ?_
              rotate_left
              ·intro w'
               go_simp
               with_reducible rfl
              rotate_left
              ·simp only [Act.put, List.setIfInBounds_toArray, List.set_cons_zero, List.set_cons_succ, i64_w, i32_w]
               rfl
              refine pure_ (i := 7) (N := some 81) (v := ?_) (a' := ?_) (bm 23 139) rfl rfl (any_of HT_.out (by kernel_rfl)) (fun _ _ _ h => h) (Or.inl ⟨by rfl, ?_⟩) ?_ ?_
              rotate_left
              ·intro w'
               go_simp
               with_reducible rfl
              rotate_left
              ·simp only [Act.put, List.setIfInBounds_toArray, List.set_cons_zero, List.set_cons_succ, i64_w, i32_w]
               rfl
              refine pure_ (i := 10) (N := some 84) (v := ?_) (a' := ?_) (bm 23 1163) rfl rfl (any_of HT_.out (by kernel_rfl)) (fun _ _ _ h => h) (Or.inl ⟨by rfl, ?_⟩) ?_ ?_
              rotate_left
              ·intro w'
               go_simp
               with_reducible rfl
              rotate_left
              ·simp only [Act.put, List.setIfInBounds_toArray, List.set_cons_zero, List.set_cons_succ, i64_w, i32_w]
               rfl
              refine pure_ (i := 11) (N := some 85) (v := ?_) (a' := ?_) (bm 23 3211) rfl rfl (any_of HT_.out (by kernel_rfl)) (fun _ _ _ h => h) (Or.inl ⟨by rfl, ?_⟩) ?_ ?_
              rotate_left
              ·intro w'
               go_simp
               with_reducible rfl
              rotate_left
              ·simp only [Act.put, List.setIfInBounds_toArray, List.set_cons_zero, List.set_cons_succ, i64_w, i32_w]
               rfl
              refine pure_ (i := 12) (N := some 86) (v := ?_) (a' := ?_) (bm 23 7307) rfl rfl (any_of HT_.out (by kernel_rfl)) (fun _ _ _ h => h) (Or.inl ⟨by rfl, ?_⟩) ?_ ?_
              rotate_left
              ·intro w'
               go_simp
               with_reducible rfl
              rotate_left
              ·simp only [Act.put, List.setIfInBounds_toArray, List.set_cons_zero, List.set_cons_succ, i64_w, i32_w]
               rfl
              refine pure_ (i := 13) (N := some 87) (v := ?_) (a' := ?_) (bm 23 15499) rfl rfl (any_of HT_.out (by kernel_rfl)) (fun _ _ _ h => h) (Or.inl ⟨by rfl, ?_⟩) ?_ ?_
              rotate_left
              ·intro w'
               go_simp
               with_reducible rfl
              rotate_left
              ·simp only [Act.put, List.setIfInBounds_toArray, List.set_cons_zero, List.set_cons_succ, i64_w, i32_w]
               rfl
              refine take_ (i := 2) (N := some 76) (v := ?_) (a' := ?_) (bm 23 15503) rfl rfl (take_ofW HT_.out HW_.out (by kernel_rfl)) (fun _ _ _ h => h) (Or.inl ⟨by rfl, ?_⟩) hHeld ?_ ?_
              rotate_left
              ·rintro w' ⟨s0, s1, s2, s3, s4, s5, s6, s7, s8, s9, s10, s11, s12, s13, s14⟩
               go_simp
               with_reducible rfl
              rotate_left
              ·simp only [Act.put, List.setIfInBounds_toArray, List.set_cons_zero, List.set_cons_succ, i64_w, i32_w]
               rfl
              refine pure_ (i := 4) (N := some 78) (v := ?_) (a' := ?_) (bm 23 15519) rfl rfl (any_of HT_.out (by kernel_rfl)) (fun _ _ _ h => h) (Or.inl ⟨by rfl, ?_⟩) ?_ ?_
              rotate_left
              ·intro w'
               go_simp
               with_reducible rfl
              rotate_left
              ·simp only [Act.put, List.setIfInBounds_toArray, List.set_cons_zero, List.set_cons_succ, i64_w, i32_w]
               rfl
              refine pure_ (i := 5) (N := some 79) (v := ?_) (a' := ?_) (bm 23 15551) rfl rfl (any_of HT_.out (by kernel_rfl)) (fun _ _ _ h => h) (Or.inl ⟨by rfl, ?_⟩) ?_ ?_
              rotate_left
              ·intro w'
               go_simp
               with_reducible rfl
              rotate_left
              ·simp only [Act.put, List.setIfInBounds_toArray, List.set_cons_zero, List.set_cons_succ, i64_w, i32_w]
               rfl
              refine take_ (i := 6) (N := some 80) (v := ?_) (a' := ?_) (bm 23 15615) rfl rfl (take_ofW HT_.out HW_.out (by kernel_rfl)) (fun _ _ _ h => h) (Or.inl ⟨by rfl, ?_⟩) hHeld ?_ ?_
              rotate_left
              ·rintro w' ⟨s0, s1, s2, s3, s4, s5, s6, s7, s8, s9, s10, s11, s12, s13, s14⟩
               go_simp
               with_reducible rfl
              rotate_left
              ·simp only [Act.put, List.setIfInBounds_toArray, List.set_cons_zero, List.set_cons_succ, i64_w, i32_w]
               rfl
              refine take_ (i := 8) (N := some 82) (v := ?_) (a' := ?_) (bm 23 15871) rfl rfl (take_ofW HT_.out HW_.out (by kernel_rfl)) (fun _ _ _ h => h) (Or.inl ⟨by rfl, ?_⟩) hHeld ?_ ?_
              rotate_left
              ·rintro w' ⟨s0, s1, s2, s3, s4, s5, s6, s7, s8, s9, s10, s11, s12, s13, s14⟩
               go_simp
               with_reducible rfl
              rotate_left
              ·simp only [Act.put, List.setIfInBounds_toArray, List.set_cons_zero, List.set_cons_succ, i64_w, i32_w]
               rfl
              refine take_ (i := 9) (N := some 83) (v := ?_) (a' := ?_) (bm 23 16383) rfl rfl (take_ofW HT_.out HW_.out (by kernel_rfl)) (fun _ _ _ h => h) (Or.inl ⟨by rfl, ?_⟩) hHeld ?_ ?_
              rotate_left
              ·rintro w' ⟨s0, s1, s2, s3, s4, s5, s6, s7, s8, s9, s10, s11, s12, s13, s14⟩
               go_simp
               with_reducible rfl
              rotate_left
              ·simp only [Act.put, List.setIfInBounds_toArray, List.set_cons_zero, List.set_cons_succ, i64_w, i32_w]
               rfl
              refine take_ (i := 14) (N := some 88) (v := ?_) (a' := ?_) (bm 23 32767) rfl rfl (take_ofW HT_.out HW_.out (by kernel_rfl)) (fun _ _ _ h => h) (Or.inl ⟨by rfl, ?_⟩) hHeld ?_ ?_
              rotate_left
              ·rintro w' ⟨s0, s1, s2, s3, s4, s5, s6, s7, s8, s9, s10, s11, s12, s13, s14⟩
               go_simp
               with_reducible rfl
              rotate_left
              ·simp only [Act.put, List.setIfInBounds_toArray, List.set_cons_zero, List.set_cons_succ, i64_w, i32_w]
               rfl
              refine one_ (i := 15) (N := some 89) (bm 23 65535) rfl rfl (one_of HT_.out (by kernel_rfl)) (by decide) (fun K hK => ?_)
              refine goes_ Try.func36 (by kernel_rfl) rfl #[.agg #[.int .i64 a1_0, .slice A1_1 l1_1.length c1_1, .slice (some ad224) l1_2.length c1_2], .int .i64 a3, .bool true, .int .i64 (rd t216 x13_2)] (by rfl) rfl rfl zG ?_
              with_reducible refine (spec_MoveOf.calls k2 a1_0 _ _ l1_1 _ _ l1_2 a3 true (rd t216 x13_2) t223 _ ?side1 ?side2 ?side3 ?side4 A46.out).mono ?_
              (case side1 => exact cS HR1_1 HB)
              (case side2 => exact HC1_1.out)
              (case side3 => exact cS HR1_2 HB)
              (case side4 => exact HC1_2.out)
              rintro e w54 ⟨rfl, hb⟩
              have HS10_ := (hb.cell (World.block_lt_of_cell? _ _ (hHeld.2.2.2.2.2.2.2.2.2.2.1))).trans (hHeld.2.2.2.2.2.2.2.2.2.2.1)
              refine ⟨_, rfl, ?_⟩
              have n0_ := Aside0.mk (Kd.S_below (zS HO_9) hb)
              have n1_ := Aside0.mk (Kd.R_below (zR HO_10) hb)
              have n2_ := kB BK196 hb
              have n3_ := kB BK197 hb
              have n4_ := bS HB hb
              clear HO_9
              clear HO_10
              clear BK196
              clear BK197
              clear HB
              have HO_9 := n0_
              have HO_10 := n1_
              have BK196 := n2_
              have BK197 := n3_
              have HB := n4_
              clear n0_ n1_ n2_ n3_ n4_
              (try clear hb)
              (try clear hb2)
              (try clear hk)
              (try clear hi)
              refine hK.out _ _ ⟨bc0 BK196, bc1 BK196, bc2 BK196, bc0 BK197, bc1 BK197, bc2 BK197, ((HB.out.cell (World.block_lt_of_cell? w _ hw221_0)).trans hw221_0), ((HB.out.cell (World.block_lt_of_cell? w _ hw221_1)).trans hw221_1), ((HB.out.cell (World.block_lt_of_cell? w _ hw221_2)).trans hw221_2), ((HB.out.cell (World.block_lt_of_cell? w _ hw221_3)).trans hw221_3), HS10_, ((HB.out.cell (World.block_lt_of_cell? w _ hw224_0)).trans hw224_0), ((HB.out.cell (World.block_lt_of_cell? w _ hw224_1)).trans hw224_1), ((HB.out.cell (World.block_lt_of_cell? w _ hw224_2)).trans hw224_2), ((HB.out.cell (World.block_lt_of_cell? w _ hw224_3)).trans hw224_3)⟩ (fun hHeld => ?_)
              clear hK K
              refine norm_ (a' := ?_) ?_ ?_
              rotate_left
              ·show Act.put _ (some 89) _ = _
               simp only [Act.put, List.setIfInBounds_toArray, List.set_cons_zero, List.set_cons_succ, i64_w, i32_w]
               rfl
              refine pure_ (i := 16) (N := some 90) (v := ?_) (a' := ?_) (bm 23 131071) rfl rfl (any_of HT_.out (by kernel_rfl)) (fun _ _ _ h => h) (Or.inl ⟨by rfl, ?_⟩) ?_ ?_
              rotate_left
              ·intro w'
               go_simp
               with_reducible rfl
              rotate_left
              ·simp only [Act.put, List.setIfInBounds_toArray, List.set_cons_zero, List.set_cons_succ, i64_w, i32_w]
               rfl
              refine pure_ (i := 17) (N := some 91) (v := ?_) (a' := ?_) (bm 23 262143) rfl rfl (any_of HT_.out (by kernel_rfl)) (fun _ _ _ h => h) (Or.inl ⟨by rfl, ?_⟩) ?_ ?_
              rotate_left
              ·intro w'
               go_simp
               with_reducible rfl
              rotate_left
              ·simp only [Act.put, List.setIfInBounds_toArray, List.set_cons_zero, List.set_cons_succ, i64_w, i32_w]
               rfl
              refine take_ (i := 18) (N := some 92) (v := ?_) (a' := ?_) (bm 23 524287) rfl rfl (take_ofW HT_.out HW_.out (by kernel_rfl)) (fun _ _ _ h => h) (Or.inl ⟨by rfl, ?_⟩) hHeld ?_ ?_
              rotate_left
              ·rintro w' ⟨s0, s1, s2, s3, s4, s5, s6, s7, s8, s9, s10, s11, s12, s13, s14⟩
               go_simp
               with_reducible rfl
              rotate_left
              ·simp only [Act.put, List.setIfInBounds_toArray, List.set_cons_zero, List.set_cons_succ, i64_w, i32_w]
               rfl
              refine one_ (i := 19) (N := some 93) (bm 23 1048575) rfl rfl (one_of HT_.out (by kernel_rfl)) (by decide) (fun K hK => ?_)
              refine Kd.R_lit_step (Kd.int .i64) _ 3 ?hg (N := 93) ?hd (xs := ([(rd_T80 l0_2 t220).f3, (rd_T80 l1_2 t223).f3] : List Int)) (inner := [.int .i64 ((rd_T80 l0_2 t220).f3), .int .i64 ((rd_T80 l1_2 t223).f3)]) (ok := fun _ => True) (okp := fun _ => True) ?hr ?hp (fun _ hk => hk) trivial (Below.refl _ _) (Nat.le_refl _) (by simp) ?_; (case hd => rfl); (case hg => rfl); (case hr => first | (go_simp; done) | (go_simp; rfl)); (case hp => exact (Reps.one (show Kd.M (Kd.int .i64) _ _ _ ((rd_T80 l0_2 t220).f3) [.int .i64 ((rd_T80 l0_2 t220).f3)] from rfl) (Reps.one (show Kd.M (Kd.int .i64) _ _ _ ((rd_T80 l1_2 t223).f3) [.int .i64 ((rd_T80 l1_2 t223).f3)] from rfl) (Reps.none _ _))))
              intro v226 w55 ho56 hb hg_ hnew_
              have HS10_ := (hb.cell (World.block_lt_of_cell? _ _ (hHeld.2.2.2.2.2.2.2.2.2.2.1))).trans (hHeld.2.2.2.2.2.2.2.2.2.2.1)
              clear hg_ hnew_
              (first | rw [← Ny225.out] at ho56 | (simp only [Int.reduceToNat] at ho56; rw [← Ny225.out] at ho56))
              have n0_ := Aside0.mk (Kd.S_elder' (zS HO_9) (Kd.R_base ho56) hb)
              have n1_ := Aside0.mk (Kd.R_elder' (zR HO_10) (Kd.R_base ho56) hb)
              have n2_ := Aside0.mk (Kd.R_lower (Kd.R_new' ho56 (Kd.R_lt (zR HO_10))) (below_size (zB HB)))
              have n3_ := kB BK196 hb
              have n4_ := kB BK197 hb
              have n5_ := bS HB hb
              clear HO_9
              clear HO_10
              clear BK196
              clear BK197
              clear HB
              have HO_9 := n0_
              have HO_10 := n1_
              have HO227 := n2_
              have BK196 := n3_
              have BK197 := n4_
              have HB := n5_
              clear n0_ n1_ n2_ n3_ n4_ n5_
              clear hb ho56
              obtain ⟨Ao58, co58, eo58⟩ := Kd.R_slice HO227.out
              (first | subst eo58 | (injection eo58 with f1_ f2_ f3_; have f4_ := f1_.symm; have f5_ := f3_.symm; clear f1_ f2_ f3_; subst f4_; subst f5_))
              refine hK.out _ _ ⟨bc0 BK196, bc1 BK196, bc2 BK196, bc0 BK197, bc1 BK197, bc2 BK197, ((HB.out.cell (World.block_lt_of_cell? w _ hw221_0)).trans hw221_0), ((HB.out.cell (World.block_lt_of_cell? w _ hw221_1)).trans hw221_1), ((HB.out.cell (World.block_lt_of_cell? w _ hw221_2)).trans hw221_2), ((HB.out.cell (World.block_lt_of_cell? w _ hw221_3)).trans hw221_3), HS10_, ((HB.out.cell (World.block_lt_of_cell? w _ hw224_0)).trans hw224_0), ((HB.out.cell (World.block_lt_of_cell? w _ hw224_1)).trans hw224_1), ((HB.out.cell (World.block_lt_of_cell? w _ hw224_2)).trans hw224_2), ((HB.out.cell (World.block_lt_of_cell? w _ hw224_3)).trans hw224_3)⟩ (fun hHeld => ?_)
              clear hK K
              refine norm_ (a' := ?_) ?_ ?_
              rotate_left
              ·show Act.put _ (some 93) _ = _
               simp only [Act.put, List.setIfInBounds_toArray, List.set_cons_zero, List.set_cons_succ, i64_w, i32_w]
               rfl
              refine last_ (i := 20) (N := some 94) (bm 23 2097151) rfl rfl (one_of HT_.out (by kernel_rfl)) (by decide) (fun K hK => ?_)
              refine value_ (w1 := ?_) (v := ?_) (by rfl) rfl ?_ ?_
              rotate_left 2
              ·go_simp
               constructor
               ·rfl
               ·rfl
              refine hK.out _ _ ?_
              clear hK K
              refine norm_ (a' := ?_) ?_ ?_
              rotate_left
              ·show Act.put _ (some 94) _ = _
               simp only [Act.put, List.setIfInBounds_toArray, List.set_cons_zero, List.set_cons_succ, i64_w, i32_w]
               rfl
              refine last_ (i := 21) (N := some 95) (bm 23 4194303) rfl rfl (one_of HT_.out (by kernel_rfl)) (by decide) (fun K hK => ?_)
              refine Kd.S_append_step (Kd.slice 3 (Kd.int .i64)) (w0 := w) w.heap.size (by rfl) (.tmp 74) (.tmp 94) 65 37 (.slice none 0 0) 24 rfl Try.underlying65 info37 rfl (by decide) (by omega) u9 x9_2 y225 [.slice Ao58 y225.length co58] (fun k_ => some k_ ≠ (.slice (some ad219) t216.length co50 : Value).ownBlock) (fun k_ => some k_ = (.slice Ao58 y225.length co58 : Value).ownBlock) rfl rfl ?aP (fun k_ hk_ => ((Kd.R_mono (ok' := fun k_ => ((fun k_ => some k_ ≠ (.slice (some ad219) t216.length co50 : Value).ownBlock)) k_ ∧ some k_ ≠ (u9 : Value).ownBlock) (Kd.R_apart' (HO227.out) (Kd.S_typed HO_9.out) (by decide)) (fun k_ hk => ⟨hk.1.2, hk.2⟩))).1 k_ hk_.symm) ?aF ?aO ?aB ?aS ?aL ?_
              (case aP => exact Kd.M_row (Kd.R_mono (Kd.R_tight rfl (Kd.R_mono (ok' := fun k_ => ((fun k_ => some k_ ≠ (.slice (some ad219) t216.length co50 : Value).ownBlock)) k_ ∧ some k_ ≠ (u9 : Value).ownBlock) (Kd.R_apart' (HO227.out) (Kd.S_typed HO_9.out) (by decide)) (fun k_ hk => ⟨hk.1.2, hk.2⟩))) (fun _ h_ => h_)))
              (case aB => exact (zB HB))
              (case aF => exact (fun k_ hk => Kd.fresh' (Kd.R_lt (zR HO_10)) k_ hk))
              (case aO => exact (by (with_reducible repeat (first | apply Kd.S_alloc | apply Kd.S_drewN | apply Kd.S_drew)); exact Kd.S_mono HO_9.out (fun k_ hk => ⟨hk.1, fun e_ => hk.2 e_⟩)))
              (case aS => exact (below_size (zB HB)))
              (case aL => have := LMc49.out; omega)
              intro v229 w57 ho hb hg hat
              rw [← Ny228.out] at ho
              have n0_ := Aside0.mk (Kd.R_over' (zR HO_10) (Kd.S_typed (zS HO_9)) (by decide) hg)
              have n1_ := Aside0.mk (blk_grown (g := gb196) (o := .cells #[.int .i64 a0_0, .slice A0_1 l0_1.length c0_1, .slice (some ad221) l0_2.length c0_2] 31 (0, 0)) (zK BK196) hg (Kd.S_ne HO_9.out BK196.out (by decide)))
              have n2_ := Aside0.mk (blk_grown (g := gb197) (o := .cells #[.int .i64 a1_0, .slice A1_1 l1_1.length c1_1, .slice (some ad224) l1_2.length c1_2] 31 (0, 0)) (zK BK197) hg (Kd.S_ne HO_9.out BK197.out (by decide)))
              have n3_ := Aside0.mk (hb)
              have n4_ := Aside0.mk (ho)
              clear HO_10
              clear BK196
              clear BK197
              clear HB
              clear HO_9
              clear HO227
              have HO_10 := n0_
              have BK196 := n1_
              have BK197 := n2_
              have HB := n3_
              have HO230 := n4_
              clear n0_ n1_ n2_ n3_ n4_
              clear ho hb hg hat
              refine hK.out _ _ ?_
              clear hK K
              refine norm_ (a' := ?_) ?_ ?_
              rotate_left
              ·show Act.put _ (some 95) _ = _
               simp only [Act.put, List.setIfInBounds_toArray, List.set_cons_zero, List.set_cons_succ, i64_w, i32_w]
               rfl
              refine pure_ (i := 22) (N := some 9) (v := ?_) (a' := ?_) (bm 23 8388607) rfl rfl (any_of HT_.out (by kernel_rfl)) (fun _ _ _ h => h) (Or.inl ⟨by rfl, ?_⟩) ?_ ?_
              rotate_left
              ·intro w'
               go_simp
               with_reducible rfl
              rotate_left
              ·simp only [Act.put, List.setIfInBounds_toArray, List.set_cons_zero, List.set_cons_succ, i64_w, i32_w]
               rfl
              refine done_ (done_of HT_.out (by kernel_rfl)) ?_
              try clear hHeld
              try go_wp2
              go_roundg k2
              case measure => have := HK1.out; have := HK2.out; omega
              case rel => exact ⟨(y228), (wrap64 (x13_2 + 1)), zF, H', ⟨by have := HK1.out; have := HK2.out; omega⟩, ⟨zS HO230⟩, ⟨by (with_reducible repeat (first | apply Kd.R_alloc | apply Kd.R_drewN | apply Kd.R_drew)); exact Kd.R_mono HO_10.out (fun _ hk => trivial)⟩, ⟨zK BK196⟩, ⟨zK BK197⟩, ⟨zB HB⟩⟩
             ·rw [if_neg c49] at H
              exact absurd H (by simp)
            ·rw [if_neg c48] at H
             exact absurd H (by simp)
           ·rw [if_neg c47] at H
            exact absurd H (by simp)
          ·rw [if_neg c45] at H
           exact absurd H (by simp)
         ·rw [if_neg c44] at H
          exact absurd H (by simp)
        ·rw [if_neg c43] at H
         have c43b0 : decide (0 ≤ t220) = false := decide_eq_false c43
         clear c43
         have H' := Aside0.mk H
         clear H
         obtain ⟨Ao59, co59, eo59⟩ := Kd.R_slice HO_10.out
         subst eo59
         try go_wp2
         have n0_ := Aside0.mk (Kd.S_drew HO_9.out)
         have n1_ := Aside0.mk (Kd.R_drew HO_10.out)
         have n2_ := Aside0.mk (blk_drew BK196.out)
         have n3_ := Aside0.mk (blk_drew BK197.out)
         have n4_ := Aside0.mk (below_drew1 HB.out)
         clear HO_9
         clear HO_10
         clear BK196
         clear BK197
         clear HB
         have HO_9 := n0_
         have HO_10 := n1_
         have BK196 := n2_
         have BK197 := n3_
         have HB := n4_
         clear n0_ n1_ n2_ n3_ n4_
         have p219 : 0 ≤ (x13_2 : Int) := of_decide_eq_true (by first | (with_reducible assumption) | assumption)
         have q219 : x13_2 < (t216.length : Int) := of_decide_eq_true (by first | (with_reducible assumption) | assumption)
         obtain ⟨ad219, e219, hx219_0⟩ := Kd.at_int (Kd.R_reads' HO_10.out).2.2 x13_2 p219 q219
         cases e219
         replace p219 := eq_true p219
         replace q219 := eq_true q219
         refine start_ (n := 8) (S := fun w' => w'.cell? ⟨gb196, 0, none⟩ = some (.int .i64 a0_0) ∧ w'.cell? ⟨gb196, 1, none⟩ = some (.slice A0_1 l0_1.length c0_1) ∧ w'.cell? ⟨gb196, 2, none⟩ = some (.slice A0_2 l0_2.length c0_2) ∧ w'.cell? (ad219.add (x13_2).toNat) = some (.int .i64 (rd t216 x13_2))) (ds := []) (bm 8 0) (by kernel_rfl) rfl (bm0 _) ⟨bc0 BK196, bc1 BK196, bc2 BK196, hx219_0⟩ (fun hHeld => ?_); refine with_tabW spec_NextPairs.tab13 spec_NextPairs.bits13 (fun HT_ HW_ => ?_)
         generalize wr.drew = w60 at HO_9 HO_10 BK196 BK197 HB hx219_0 hHeld ⊢
         refine pure_ (i := 1) (N := some 66) (v := ?_) (a' := ?_) (bm 8 2) rfl rfl (any_of HT_.out (by kernel_rfl)) (fun _ _ _ h => h) (Or.inl ⟨by rfl, ?_⟩) ?_ ?_
         rotate_left
         ·intro w'
          go_simp
          with_reducible rfl
         rotate_left
         ·simp only [Act.put, List.setIfInBounds_toArray, List.set_cons_zero, List.set_cons_succ, i64_w, i32_w]
          rfl
         refine pure_ (i := 2) (N := some 67) (v := ?_) (a' := ?_) (bm 8 6) rfl rfl (any_of HT_.out (by kernel_rfl)) (fun _ _ _ h => h) (Or.inl ⟨by rfl, ?_⟩) ?_ ?_
         rotate_left
         ·intro w'
          go_simp
          with_reducible rfl
         rotate_left
         ·simp only [Act.put, List.setIfInBounds_toArray, List.set_cons_zero, List.set_cons_succ, i64_w, i32_w]
          rfl
         refine pure_ (i := 3) (N := some 68) (v := ?_) (a' := ?_) (bm 8 14) rfl rfl (any_of HT_.out (by kernel_rfl)) (fun _ _ _ h => h) (Or.inl ⟨by rfl, ?_⟩) ?_ ?_
         rotate_left
         ·intro w'
          go_simp
          with_reducible rfl
         rotate_left
         ·simp only [Act.put, List.setIfInBounds_toArray, List.set_cons_zero, List.set_cons_succ, i64_w, i32_w]
          rfl
         refine pure_ (i := 4) (N := some 69) (v := ?_) (a' := ?_) (bm 8 30) rfl rfl (any_of HT_.out (by kernel_rfl)) (fun _ _ _ h => h) (Or.inl ⟨by rfl, ?_⟩) ?_ ?_
         rotate_left
         ·intro w'
          go_simp
          with_reducible rfl
         rotate_left
         ·simp only [Act.put, List.setIfInBounds_toArray, List.set_cons_zero, List.set_cons_succ, i64_w, i32_w]
          rfl
         refine take_ (i := 0) (N := some 65) (v := ?_) (a' := ?_) (bm 8 31) rfl rfl (take_ofW HT_.out HW_.out (by kernel_rfl)) (fun _ _ _ h => h) (Or.inl ⟨by rfl, ?_⟩) hHeld ?_ ?_
         rotate_left
         ·rintro w' ⟨s0, s1, s2, s3⟩
          go_simp
          with_reducible rfl
         rotate_left
         ·simp only [Act.put, List.setIfInBounds_toArray, List.set_cons_zero, List.set_cons_succ, i64_w, i32_w]
          rfl
         refine take_ (i := 5) (N := some 70) (v := ?_) (a' := ?_) (bm 8 63) rfl rfl (take_ofW HT_.out HW_.out (by kernel_rfl)) (fun _ _ _ h => h) (Or.inl ⟨by rfl, ?_⟩) hHeld ?_ ?_
         rotate_left
         ·rintro w' ⟨s0, s1, s2, s3⟩
          go_simp
          with_reducible rfl
         rotate_left
         ·simp only [Act.put, List.setIfInBounds_toArray, List.set_cons_zero, List.set_cons_succ, i64_w, i32_w]
          rfl
         refine one_ (i := 6) (N := some 71) (bm 8 127) rfl rfl (one_of HT_.out (by kernel_rfl)) (by decide) (fun K hK => ?_)
         refine goes_ Try.func36 (by kernel_rfl) rfl #[.agg #[.int .i64 a0_0, .slice A0_1 l0_1.length c0_1, .slice A0_2 l0_2.length c0_2], .int .i64 a2, .bool false, .int .i64 (rd t216 x13_2)] (by rfl) rfl rfl zG ?_
         with_reducible refine (spec_MoveOf.calls k2 a0_0 _ _ l0_1 _ _ l0_2 a2 false (rd t216 x13_2) t220 _ ?side1 ?side2 ?side3 ?side4 A42.out).mono ?_
         (case side1 => exact cS HR0_1 HB)
         (case side2 => exact HC0_1.out)
         (case side3 => exact cS HR0_2 HB)
         (case side4 => exact HC0_2.out)
         rintro e w61 ⟨rfl, hb⟩
         have HS3_ := (hb.cell (World.block_lt_of_cell? _ _ (hHeld.2.2.2))).trans (hHeld.2.2.2)
         refine ⟨_, rfl, ?_⟩
         have n0_ := Aside0.mk (Kd.S_below (zS HO_9) hb)
         have n1_ := Aside0.mk (Kd.R_below (zR HO_10) hb)
         have n2_ := kB BK196 hb
         have n3_ := kB BK197 hb
         have n4_ := bS HB hb
         clear HO_9
         clear HO_10
         clear BK196
         clear BK197
         clear HB
         have HO_9 := n0_
         have HO_10 := n1_
         have BK196 := n2_
         have BK197 := n3_
         have HB := n4_
         clear n0_ n1_ n2_ n3_ n4_
         (try clear hb)
         (try clear hb2)
         (try clear hk)
         (try clear hi)
         refine hK.out _ _ ⟨bc0 BK196, bc1 BK196, bc2 BK196, HS3_⟩ (fun hHeld => ?_)
         clear hK K
         refine norm_ (a' := ?_) ?_ ?_
         rotate_left
         ·show Act.put _ (some 71) _ = _
          simp only [Act.put, List.setIfInBounds_toArray, List.set_cons_zero, List.set_cons_succ, i64_w, i32_w]
          rfl
         refine pure_ (i := 7) (N := some 14) (v := ?_) (a' := ?_) (bm 8 255) rfl rfl (any_of HT_.out (by kernel_rfl)) (fun _ _ _ h => h) (Or.inl ⟨by rfl, ?_⟩) ?_ ?_
         rotate_left
         ·intro w'
          go_simp
          with_reducible rfl
         rotate_left
         ·simp only [Act.put, List.setIfInBounds_toArray, List.set_cons_zero, List.set_cons_succ, i64_w, i32_w]
          rfl
         refine done_ (done_of HT_.out (by kernel_rfl)) ?_
         try clear hHeld
         try go_wp2
         go_roundg k2
         case measure => have := HK1.out; have := HK2.out; omega
         case rel => exact ⟨(x9_2), (wrap64 (x13_2 + 1)), zF, H', ⟨by have := HK1.out; have := HK2.out; omega⟩, ⟨zS HO_9⟩, ⟨zR HO_10⟩, ⟨zK BK196⟩, ⟨zK BK197⟩, ⟨zB HB⟩⟩
       ·rw [if_neg c41] at H
        exact absurd H (by simp)
      ·rw [if_neg c40] at H
       have c40b0 : decide (x13_2 < (t216.length : Int)) = false := decide_eq_false c40
       clear c40
       obtain rfl := Option.some.inj H
       obtain ⟨Ao62, co62, eo62⟩ := Kd.R_slice HO_10.out
       subst eo62
       go_wp2
       go_ret
       exact ⟨_, by first | rfl | (simp [errW_none, errW_some] <;> rfl) | (simp [*, errW_none, errW_some] <;> rfl), by (with_reducible repeat (first | apply Kd.S_alloc | apply Kd.S_drewN | apply Kd.S_drew)); exact Kd.S_mono HO_9.out (fun _ hk => trivial), by repeat (first | (with_reducible first | exact HB.out | apply below_alloc | apply pw_below_drewN | apply below_drew1 | refine below_set ?_ GE196.out | refine below_set ?_ GE197.out) | exact HB.out)⟩

end Go.Proofs.Ytfnbfconhpppfaa.PFnExactTroubleAt
