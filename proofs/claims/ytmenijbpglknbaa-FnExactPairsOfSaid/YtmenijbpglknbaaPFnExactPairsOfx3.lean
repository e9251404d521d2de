-- WRITTEN by pp.py, this session's own wrapper around the print; not trusted: Lean checks it
import Derived.Test.YtmenijbpglknbaaPFnExactPairsOfx0
import Derived.Test.YtmenijbpglknbaaPFnExactPairsOfx2
namespace Go.Proofs.Ytmenijbpglknbaa.PFnExactPairsOf
open Go.RowKit Go.Proofs.Ytmenijbpglknbaa.Hw Go.Proofs.YtmenijbpglknbaaW.PrintWords Go.Proofs.YtmenijbpglknbaaW.PrintLast Go.Proofs.YtmenijbpglknbaaW.PrintMore
attribute [local go_sem] max2_int min2_int max_two min_two max_three min_three max_four min_four   -- for this text's walks alone
set_option linter.unusedVariables false
set_option linter.unusedSimpArgs false
set_option linter.unusedSectionVars false

/-! ### spec_NextPairs: function 37 -/
mutual
def spec_NextPairs.l0 : Nat → Int → Int → List (List Int) → List Int → Int → Int → List Bool → List (S64) → Int → List Bool → List (S64) → Option ((List (List Int)))
 | 0, _, _, _, _, _, _, _, _, _, _, _ => none
 | k + 1, x2, x3, x9, x10, x11, x171000, x171001, x171002, x172000, x172001, x172002 => if x11 < (x10.length : Int) then (if 0 ≤ x11 then ((spec_MoveOf.f k x172000 x172001 x172002 x3 false (rd x10 x11)).bind fun t179 => (if t179 ≥ 0 then ((spec_MoveOf.f k x171000 x171001 x171002 x2 true (rd x10 x11)).bind fun t181 => (if 0 ≤ t181 then (if t181 < (x171002.length : Int) then (if 0 ≤ t179 then (if t179 < (x172002.length : Int) then (if x9.length < 5864062014805 then (spec_NextPairs.l0 k x2 x3 (x9 ++ [(([(rd_T64 x171002 t181).f3, (rd_T64 x172002 t179).f3] : List Int))]) x10 (wrap64 (x11 + 1)) x171000 x171001 x171002 x172000 x172001 x172002) else (none)) else (none)) else (none)) else (none)) else (none))) else (spec_NextPairs.l0 k x2 x3 x9 x10 (wrap64 (x11 + 1)) x171000 x171001 x171002 x172000 x172001 x172002))) else (none)) else ((spec_MovesFrom.f k x172000 x172001 x172002 x3 true).bind fun t190 => (spec_NextPairs.l1 k x2 x3 x9 t190 0 x171000 x171001 x171002 x172000 x172001 x172002))
def spec_NextPairs.l1 : Nat → Int → Int → List (List Int) → List Int → Int → Int → List Bool → List (S64) → Int → List Bool → List (S64) → Option ((List (List Int)))
 | 0, _, _, _, _, _, _, _, _, _, _, _ => none
 | k + 1, x2, x3, x9, x10, x13, x171000, x171001, x171002, x172000, x172001, x172002 => if x13 < (x10.length : Int) then (if 0 ≤ x13 then ((spec_MoveOf.f k x171000 x171001 x171002 x2 false (rd x10 x13)).bind fun t194 => (if t194 ≥ 0 then (if 0 ≤ t194 then (if t194 < (x171002.length : Int) then ((spec_MoveOf.f k x172000 x172001 x172002 x3 true (rd x10 x13)).bind fun t197 => (if 0 ≤ t197 then (if t197 < (x172002.length : Int) then (if x9.length < 5864062014805 then (spec_NextPairs.l1 k x2 x3 (x9 ++ [(([(rd_T64 x171002 t194).f3, (rd_T64 x172002 t197).f3] : List Int))]) x10 (wrap64 (x13 + 1)) x171000 x171001 x171002 x172000 x172001 x172002) else (none)) else (none)) else (none))) else (none)) else (none)) else (spec_NextPairs.l1 k x2 x3 x9 x10 (wrap64 (x13 + 1)) x171000 x171001 x171002 x172000 x172001 x172002))) else (none)) else (some x9)
end
def spec_NextPairs.f (k : Nat) (a0_0 : Int) (l0_1 : List Bool) (l0_2 : List (S64)) (a1_0 : Int) (l1_1 : List Bool) (l1_2 : List (S64)) (a2 : Int) (a3 : Int) : Option ((List (List Int))) := (spec_MovesFrom.f k a0_0 l0_1 l0_2 a2 true).bind fun t175 => (spec_NextPairs.l0 k a2 a3 (([] : List (List Int))) t175 0 a0_0 l0_1 l0_2 a1_0 l1_1 l1_2)
theorem spec_NextPairs.mono_l : ∀ k, (∀ y0 y1 y2 y3 y4 y5 y6 y7 y8 y9 y10, LeO (spec_NextPairs.l0 k y0 y1 y2 y3 y4 y5 y6 y7 y8 y9 y10) (spec_NextPairs.l0 (k + 1) y0 y1 y2 y3 y4 y5 y6 y7 y8 y9 y10)) ∧ (∀ y0 y1 y2 y3 y4 y5 y6 y7 y8 y9 y10, LeO (spec_NextPairs.l1 k y0 y1 y2 y3 y4 y5 y6 y7 y8 y9 y10) (spec_NextPairs.l1 (k + 1) y0 y1 y2 y3 y4 y5 y6 y7 y8 y9 y10))
 | 0 => ⟨fun _ _ _ _ _ _ _ _ _ _ _ r h => by simp [spec_NextPairs.l0] at h, fun _ _ _ _ _ _ _ _ _ _ _ r h => by simp [spec_NextPairs.l1] at h⟩
 | k + 1 => by
  obtain ⟨ih0, ih1⟩ := spec_NextPairs.mono_l k
  refine ⟨?_, ?_⟩
  ·intro y0 y1 y2 y3 y4 y5 y6 y7 y8 y9 y10
   unfold spec_NextPairs.l0
   repeat' first
   | (with_reducible exact ih0 _ _ _ _ _ _ _ _ _ _ _)
   | (with_reducible exact ih1 _ _ _ _ _ _ _ _ _ _ _)
   | (with_reducible exact spec_MoveOf.mono _ _ _ _ _ _ _)
   | (with_reducible exact spec_MovesFrom.mono _ _ _ _ _ _)
   | (with_reducible exact LeO.refl _)
   | (with_reducible exact LeO.none _)
   | (with_reducible refine LeO.ite ?_ ?_)
   | (with_reducible refine LeO.bind ?_ (fun _ => ?_))
   | exact ih0 _ _ _ _ _ _ _ _ _ _ _
   | exact ih1 _ _ _ _ _ _ _ _ _ _ _
   | exact spec_MoveOf.mono _ _ _ _ _ _ _
   | exact spec_MovesFrom.mono _ _ _ _ _ _
   | exact LeO.none _
   | refine LeO.ite ?_ ?_
   | refine LeO.bind ?_ (fun _ => ?_)
  ·intro y0 y1 y2 y3 y4 y5 y6 y7 y8 y9 y10
   unfold spec_NextPairs.l1
   repeat' first
   | (with_reducible exact ih0 _ _ _ _ _ _ _ _ _ _ _)
   | (with_reducible exact ih1 _ _ _ _ _ _ _ _ _ _ _)
   | (with_reducible exact spec_MoveOf.mono _ _ _ _ _ _ _)
   | (with_reducible exact spec_MovesFrom.mono _ _ _ _ _ _)
   | (with_reducible exact LeO.refl _)
   | (with_reducible exact LeO.none _)
   | (with_reducible refine LeO.ite ?_ ?_)
   | (with_reducible refine LeO.bind ?_ (fun _ => ?_))
   | exact ih0 _ _ _ _ _ _ _ _ _ _ _
   | exact ih1 _ _ _ _ _ _ _ _ _ _ _
   | exact spec_MoveOf.mono _ _ _ _ _ _ _
   | exact spec_MovesFrom.mono _ _ _ _ _ _
   | exact LeO.none _
   | refine LeO.ite ?_ ?_
   | refine LeO.bind ?_ (fun _ => ?_)
theorem spec_NextPairs.mono : ∀ a0 a1 a2 a3 a4 a5 a6 a7 k, LeO (spec_NextPairs.f k a0 a1 a2 a3 a4 a5 a6 a7) (spec_NextPairs.f (k + 1) a0 a1 a2 a3 a4 a5 a6 a7) := by
 intro a0 a1 a2 a3 a4 a5 a6 a7 k
 obtain ⟨ih0, ih1⟩ := spec_NextPairs.mono_l k
 unfold spec_NextPairs.f
 repeat' first
   | (with_reducible exact ih0 _ _ _ _ _ _ _ _ _ _ _)
   | (with_reducible exact ih1 _ _ _ _ _ _ _ _ _ _ _)
   | (with_reducible exact spec_MoveOf.mono _ _ _ _ _ _ _)
   | (with_reducible exact spec_MovesFrom.mono _ _ _ _ _ _)
   | (with_reducible exact LeO.refl _)
   | (with_reducible exact LeO.none _)
   | (with_reducible refine LeO.ite ?_ ?_)
   | (with_reducible refine LeO.bind ?_ (fun _ => ?_))
   | exact ih0 _ _ _ _ _ _ _ _ _ _ _
   | exact ih1 _ _ _ _ _ _ _ _ _ _ _
   | exact spec_MoveOf.mono _ _ _ _ _ _ _
   | exact spec_MovesFrom.mono _ _ _ _ _ _
   | exact LeO.none _
   | refine LeO.ite ?_ ?_
   | refine LeO.bind ?_ (fun _ => ?_)
def spec_NextPairs.T6 : Bool × List (List Nat × List Nat) := (true, [([], []), ([], []), ([], []), ([], []), ([2, 3], [2, 3]), ([4], [4]), ([0, 1, 5], [0, 1, 5]), ([6, 6, 0, 1, 2, 3, 4, 5, 6], [6])])
def spec_NextPairs.B6 : List Nat := [0, 0, 0, 0, 12, 28, 63, 127]
theorem spec_NextPairs.tab6 : rtab .any (opsOf Try.f37 6) = spec_NextPairs.T6 := by kernel_rfl
theorem spec_NextPairs.bits6 : waitsOk spec_NextPairs.T6.2 spec_NextPairs.B6 = true := by kernel_rfl
def spec_NextPairs.T8 : Bool × List (List Nat × List Nat) := (true, [([], []), ([], []), ([1], [1]), ([], []), ([], []), ([], []), ([], []), ([5, 6], [5, 6]), ([7], [7]), ([3, 4, 8], [3, 4, 8]), ([2, 9], [2, 9]), ([10], [10]), ([11], [11]), ([], []), ([13], [13]), ([], []), ([14, 15], [14, 15]), ([16], [16]), ([17], [17]), ([12, 18], [12, 18]), ([19], [19]), ([0, 20, 9], [0, 20]), ([21, 21, 0, 1, 2, 3, 4, 5, 6, 7, 8, 9, 10, 11, 12, 13, 14, 15, 16, 17, 18, 19, 20, 21], [0, 21])])
def spec_NextPairs.B8 : List Nat := [0, 0, 2, 0, 0, 0, 0, 96, 224, 504, 1022, 2046, 4094, 0, 8192, 0, 57344, 122880, 253952, 524286, 1048574, 2097151, 4194303]
theorem spec_NextPairs.tab8 : rtab .any (opsOf Try.f37 8) = spec_NextPairs.T8 := by kernel_rfl
theorem spec_NextPairs.bits8 : waitsOk spec_NextPairs.T8.2 spec_NextPairs.B8 = true := by kernel_rfl
def spec_NextPairs.T13 : Bool × List (List Nat × List Nat) := (true, [([], []), ([], []), ([], []), ([], []), ([2, 3], [2, 3]), ([4], [4]), ([0, 1, 5], [0, 1, 5]), ([6, 6, 0, 1, 2, 3, 4, 5, 6], [6])])
def spec_NextPairs.B13 : List Nat := [0, 0, 0, 0, 12, 28, 63, 127]
theorem spec_NextPairs.tab13 : rtab .any (opsOf Try.f37 13) = spec_NextPairs.T13 := by kernel_rfl
theorem spec_NextPairs.bits13 : waitsOk spec_NextPairs.T13.2 spec_NextPairs.B13 = true := by kernel_rfl
def spec_NextPairs.T15 : Bool × List (List Nat × List Nat) := (true, [([], []), ([], []), ([1], [1]), ([], []), ([2, 3], [2, 3]), ([4], [4]), ([5], [5]), ([], []), ([7], [7]), ([], []), ([], []), ([], []), ([], []), ([11, 12], [11, 12]), ([13], [13]), ([9, 10, 14], [9, 10, 14]), ([8, 15], [8, 15]), ([16], [16]), ([17], [17]), ([6, 18], [6, 18]), ([19], [19]), ([0, 20, 15], [0, 20]), ([21, 21, 0, 1, 2, 3, 4, 5, 6, 7, 8, 9, 10, 11, 12, 13, 14, 15, 16, 17, 18, 19, 20, 21], [0, 21])])
def spec_NextPairs.B15 : List Nat := [0, 0, 2, 0, 14, 30, 62, 0, 128, 0, 0, 0, 0, 6144, 14336, 32256, 65408, 130944, 262016, 524286, 1048574, 2097151, 4194303]
theorem spec_NextPairs.tab15 : rtab .any (opsOf Try.f37 15) = spec_NextPairs.T15 := by kernel_rfl
theorem spec_NextPairs.bits15 : waitsOk spec_NextPairs.T15.2 spec_NextPairs.B15 = true := by kernel_rfl
set_option maxHeartbeats 8000000 in
set_option maxRecDepth 100000 in
theorem spec_NextPairs.calls (k : Nat) (a0_0 : Int) (A0_1 : Option Addr) (c0_1 : Nat) (l0_1 : List Bool) (A0_2 : Option Addr) (c0_2 : Nat) (l0_2 : List (S64)) (a1_0 : Int) (A1_1 : Option Addr) (c1_1 : Nat) (l1_1 : List Bool) (A1_2 : Option Addr) (c1_2 : Nat) (l1_2 : List (S64)) (a2 : Int) (a3 : Int) (r : List (List Int)) (w : World) (hr0_1 : Kd.C Kd.bool w A0_1 l0_1.length l0_1) (hc0_1 : l0_1.length ≤ c0_1) (hr0_2 : Kd.C k64 w A0_2 l0_2.length l0_2) (hc0_2 : l0_2.length ≤ c0_2) (hr1_1 : Kd.C Kd.bool w A1_1 l1_1.length l1_1) (hc1_1 : l1_1.length ≤ c1_1) (hr1_2 : Kd.C k64 w A1_2 l1_2.length l1_2) (hc1_2 : l1_2.length ≤ c1_2) (h : spec_NextPairs.f k a0_0 l0_1 l0_2 a1_0 l1_1 l1_2 a2 a3 = some r) :
  Calls Try.prog 37 #[.agg #[.int .i64 a0_0, .slice A0_1 l0_1.length c0_1, .slice A0_2 l0_2.length c0_2], .agg #[.int .i64 a1_0, .slice A1_1 l1_1.length c1_1, .slice A1_2 l1_2.length c1_2], .int .i64 a2, .int .i64 a3] w fun e w' => ∃ v0_ : Value, e = .returned (v0_) ∧ Kd.S (Kd.slice 3 (Kd.int .i64)) 38 w' w.heap.size (fun _ => True) v0_ r ∧ Below w.heap.size w w' := by
 have hu31 := Try.underlying31
 have HR0_1 := Aside0.mk hr0_1
 have HC0_1 := Aside0.mk hc0_1
 clear hr0_1 hc0_1
 have HR0_2 := Aside0.mk hr0_2
 have HC0_2 := Aside0.mk hc0_2
 clear hr0_2 hc0_2
 have HR1_1 := Aside0.mk hr1_1
 have HC1_1 := Aside0.mk hc1_1
 clear hr1_1 hc1_1
 have HR1_2 := Aside0.mk hr1_2
 have HC1_2 := Aside0.mk hc1_2
 clear hr1_2 hc1_2
 have HB := Aside0.mk (Below.refl w.heap.size w)
 have H : ((spec_MovesFrom.f k a0_0 l0_1 l0_2 a2 true).bind fun t175 => (spec_NextPairs.l0 k a2 a3 (([] : List (List Int))) t175 0 a0_0 l0_1 l0_2 a1_0 l1_1 l1_2)) = some r := h
 clear h
 obtain ⟨y172, hy172⟩ : ∃ y_ : List (List Int), y_ = (([] : List (List Int))) := ⟨_, rfl⟩
 replace H : ((spec_MovesFrom.f k a0_0 l0_1 l0_2 a2 true).bind fun t175 => (spec_NextPairs.l0 k a2 a3 y172 t175 0 a0_0 l0_1 l0_2 a1_0 l1_1 l1_2)) = some r := by first | (rw [hy172]; with_reducible exact H) | (have H2_ := (Option.bind_some _ _).symm.trans H; rw [hy172]; with_reducible exact H2_) | (have H2_ := (Option.bind_some _ _).symm.trans H; with_reducible exact H2_) | with_reducible exact H | (rw [hy172]; exact H) | exact H
 have Ny172 := Aside0.mk hy172
 clear hy172
 obtain ⟨t175, A5, H⟩ := bindS H
 have H' := Aside0.mk H
 clear H
 go_enter Try.func37, Try.ntmps37
 go_wp2_with (first | ((with_reducible refine gate_dst (N := 4) rfl ?_); refine box_event ?hg (N := 4) ?hd (cs := #[.int .i64 a0_0, .slice A0_1 l0_1.length c0_1, .slice A0_2 l0_2.length c0_2]) (t := 31) ?hr ?_; (case hd => rfl); (case hg => rfl); (case hr => first | (go_simp; done) | (go_simp; rfl)); intro gb170 hg w6 hbox hb; have BK170 := Aside0.mk (hbox); have GW170 := gS HB hg; have GE170 := gS HB hg; replace HB := bS HB hb; clear hb hbox hg) | ((with_reducible refine gate_dst (N := 5) rfl ?_); refine box_event ?hg (N := 5) ?hd (cs := #[.int .i64 a1_0, .slice A1_1 l1_1.length c1_1, .slice A1_2 l1_2.length c1_2]) (t := 31) ?hr ?_; (case hd => rfl); (case hg => rfl); (case hr => first | (go_simp; done) | (go_simp; rfl)); intro gb171 hg w7 hbox hb; have BK171 := Aside0.mk (hbox); have GW171 := gS HB hg; have GE171 := gS HB hg; replace HB := bS HB hb; have NB170_171 := nL BK170 hg; have NB171_170 := nR BK170 hg; replace BK170 := kB BK170 hb; clear hb hbox hg) | ((with_reducible refine gate_dst (N := 15) rfl ?_); refine Kd.S_lit (Kd.slice 3 (Kd.int .i64)) _ 38 ?hg (N := 15) ?hd (xs := ([] : List (List Int))) (inner := []) (ok := fun _ => True) (okp := fun _ => True) ?hr ?hp (fun _ hk => hk) trivial (Below.refl _ _) (Nat.le_refl _) (by simp) ?_; (case hd => rfl); (case hg => rfl); (case hr => first | (go_simp; done) | (go_simp; rfl)); (case hp => exact (Reps.none _ _)); intro v173 w8 ho9 hb hg_ hnew_; clear hg_ hnew_; (first | rw [← Ny172.out] at ho9 | (simp only [Int.reduceToNat] at ho9; rw [← Ny172.out] at ho9)); have HO174 := Aside0.mk (Kd.S_lower ho9 (below_size (zB HB))); replace BK170 := kB BK170 hb; replace BK171 := kB BK171 hb; replace HB := bS HB hb; clear hb ho9; have hnb10 := NB170_171.out; have hnc10 := NB171_170.out; have hcz11_0 := bc0 BK170; have hcz11_1 := bc1 BK170; have hcz11_2 := bc2 BK170; have hfz11_0 := bf BK170 0; have hfz11_1 := bf BK170 1; have hfz11_2 := bf BK170 2) | ((with_reducible refine gate_callee (f := 49) rfl ?_); refine goesL_ (some 18) rfl rfl Try.func49 (by kernel_rfl) rfl #[.agg #[.int .i64 a0_0, .slice A0_1 l0_1.length c0_1, .slice A0_2 l0_2.length c0_2], .int .i64 a2, .bool true] rfl zG ?_; (with_reducible refine (spec_MovesFrom.calls k a0_0 _ _ l0_1 _ _ l0_2 a2 true t175 _ ?side1 ?side2 ?side3 ?side4 A5.out).mono ?_); (case side1 => exact cS HR0_1 HB); (case side2 => exact HC0_1.out); (case side3 => exact cS HR0_2 HB); (case side4 => exact HC0_2.out); rintro e w12 ⟨v176, rfl, ho0, hb⟩; refine ⟨_, rfl, ?_⟩; replace HO174 := Aside0.mk (Kd.S_elder' (zS HO174) (Kd.R_base ho0) hb); have HO177 := Aside0.mk (Kd.R_lower ho0 (below_size (zB HB))); replace BK170 := kB BK170 hb; replace BK171 := kB BK171 hb; replace HB := bS HB hb; (try clear hb); (try clear ho0)))
 go_loopg [9, 11] k (fun kq v9 v11 w' => ∃ (x9_1 : List (List Int)) (x11_1 : Int), v11 = .int .i64 x11_1 ∧ Aside0 (spec_NextPairs.l0 kq a2 a3 x9_1 t175 x11_1 a0_0 l0_1 l0_2 a1_0 l1_1 l1_2 = some r) ∧ Aside0 (kq ≤ k) ∧ Aside0 (Kd.S (Kd.slice 3 (Kd.int .i64)) 38 w' w.heap.size (fun k_ => some k_ ≠ (v176 : Value).ownBlock) v9 x9_1) ∧ Aside0 (Kd.R (Kd.int .i64) 3 w' w.heap.size (fun _ => True) v176 t175) ∧ Aside0 (w'.heap[gb170]? = some (.cells #[.int .i64 a0_0, (.slice A0_1 l0_1.length c0_1), (.slice A0_2 l0_2.length c0_2)] 31 (0, 0))) ∧ Aside0 (w'.heap[gb171]? = some (.cells #[.int .i64 a1_0, (.slice A1_1 l1_1.length c1_1), (.slice A1_2 l1_2.length c1_2)] 31 (0, 0))) ∧ Aside0 (Below w.heap.size w w'))
 case atStart => exact ⟨(y172), (0), zF, H', ⟨Nat.le_refl _⟩, ⟨by (with_reducible repeat (first | apply Kd.S_alloc | apply Kd.S_drewN | apply Kd.S_drew)); exact Kd.S_mono HO174.out (fun _ hk => hk.2)⟩, ⟨zR HO177⟩, ⟨zK BK170⟩, ⟨zK BK171⟩, ⟨zB HB⟩⟩
 case round =>
  clear H'
  try clear c1
  try clear p2
  try clear c3
  try clear c4
  try clear c10
  try clear hcz11_0
  try clear hcz11_1
  try clear hcz11_2
  try clear hfz11_0
  try clear hfz11_1
  try clear hfz11_2
  obtain ⟨x9_1, x11_1, rfl, HA, HK1, HO_9, HO_10, BK170, BK171, HB⟩ := hrel
  cases gk with
  | zero => exact absurd HA.out (by simp [spec_NextPairs.l0])
  | succ k1 =>
   have H := HA.out
   clear HA
   simp only [spec_NextPairs.l0] at H
   by_cases c13 : x11_1 < (t175.length : Int)
   ·rw [if_pos c13] at H
    have c13b0 : decide (x11_1 < (t175.length : Int)) = true := decide_eq_true c13
    clear c13
    obtain ⟨c14, H⟩ := ifS H
    have c14b0 : decide (0 ≤ x11_1) = true := decide_eq_true c14
    clear c14
    obtain ⟨t179, A15, H⟩ := bindS H
    by_cases c16 : t179 ≥ 0
    ·rw [if_pos c16] at H
     have c16b0 : decide (0 ≤ t179) = true := decide_eq_true c16
     clear c16
     obtain ⟨t181, A17, H⟩ := bindS H
     obtain ⟨c18, H⟩ := ifS H
     have c18b0 : decide (0 ≤ t181) = true := decide_eq_true c18
     clear c18
     obtain ⟨c19, H⟩ := ifS H
     have c19b0 : decide (t181 < (l0_2.length : Int)) = true := decide_eq_true c19
     clear c19
     obtain ⟨c20, H⟩ := ifS H
     have c20b0 : decide (0 ≤ t179) = true := decide_eq_true c20
     clear c20
     obtain ⟨c21, H⟩ := ifS H
     have c21b0 : decide (t179 < (l1_2.length : Int)) = true := decide_eq_true c21
     clear c21
     obtain ⟨y184, hy184⟩ : ∃ y_ : List Int, y_ = (([(rd_T64 l0_2 t181).f3, (rd_T64 l1_2 t179).f3] : List Int)) := ⟨_, rfl⟩
     replace H : (if x9_1.length < 5864062014805 then (spec_NextPairs.l0 k1 a2 a3 (x9_1 ++ [y184]) t175 (wrap64 (x11_1 + 1)) a0_0 l0_1 l0_2 a1_0 l1_1 l1_2) else (none)) = some r := by first | (rw [hy184]; with_reducible exact H) | (have H2_ := (Option.bind_some _ _).symm.trans H; rw [hy184]; with_reducible exact H2_) | (have H2_ := (Option.bind_some _ _).symm.trans H; with_reducible exact H2_) | with_reducible exact H | (rw [hy184]; exact H) | exact H
     have Ny184 := Aside0.mk hy184
     clear hy184
     obtain ⟨c22, H⟩ := ifS H
     have LMc22 := Aside0.mk c22
     clear c22
     obtain ⟨y187, hy187⟩ : ∃ y_ : List (List Int), y_ = (x9_1 ++ [y184]) := ⟨_, rfl⟩
     replace H : (spec_NextPairs.l0 k1 a2 a3 y187 t175 (wrap64 (x11_1 + 1)) a0_0 l0_1 l0_2 a1_0 l1_1 l1_2) = some r := by first | (rw [hy187]; with_reducible exact H) | (have H2_ := (Option.bind_some _ _).symm.trans H; rw [hy187]; with_reducible exact H2_) | (have H2_ := (Option.bind_some _ _).symm.trans H; with_reducible exact H2_) | with_reducible exact H | (rw [hy187]; exact H) | exact H
     have Ny187 := Aside0.mk hy187
     clear hy187
     have H' := Aside0.mk H
     clear H
     obtain ⟨Ao23, co23, eo23⟩ := Kd.R_slice HO_10.out
     subst eo23
     try go_wp2
     replace HO_9 := Aside0.mk (Kd.S_drew HO_9.out)
     replace HO_10 := Aside0.mk (Kd.R_drew HO_10.out)
     replace BK170 := Aside0.mk (blk_drew BK170.out)
     replace BK171 := Aside0.mk (blk_drew BK171.out)
     replace HB := Aside0.mk (below_drew1 HB.out)
     have p178 : 0 ≤ (x11_1 : Int) := zD
     have q178 : x11_1 < (t175.length : Int) := zD
     obtain ⟨ad178, e178, hx178_0⟩ := Kd.at_int (Kd.R_reads' HO_10.out).2.2 x11_1 p178 q178
     cases e178
     replace p178 := eq_true p178
     replace q178 := eq_true q178
     refine start_ (n := 8) (S := fun w' => w'.cell? ⟨gb171, 0, none⟩ = some (.int .i64 a1_0) ∧ w'.cell? ⟨gb171, 1, none⟩ = some (.slice A1_1 l1_1.length c1_1) ∧ w'.cell? ⟨gb171, 2, none⟩ = some (.slice A1_2 l1_2.length c1_2) ∧ w'.cell? (ad178.add (x11_1).toNat) = some (.int .i64 (rd t175 x11_1))) (ds := []) (bm 8 0) (by kernel_rfl) rfl (bm0 _) ⟨bc0 BK171, bc1 BK171, bc2 BK171, hx178_0⟩ (fun hHeld => ?_); refine with_tabW spec_NextPairs.tab6 spec_NextPairs.bits6 (fun HT_ HW_ => ?_)
     generalize wr.drew = w24 at HO_9 HO_10 BK170 BK171 HB hx178_0 hHeld ⊢
     refine pU 1 (some 26) (bm 8 2) HT_ rfl rfl ?_
     refine pU 2 (some 27) (bm 8 6) HT_ rfl rfl ?_
     refine pU 3 (some 28) (bm 8 14) HT_ rfl rfl ?_
     refine pU 4 (some 29) (bm 8 30) HT_ rfl rfl ?_
     refine tU 0 (some 25) (bm 8 31) HT_ HW_ rfl rfl hHeld ?_
     refine tU 5 (some 30) (bm 8 63) HT_ HW_ rfl rfl hHeld ?_
     refine one_ (i := 6) (N := some 31) (bm 8 127) rfl rfl (one_of HT_.out (by kernel_rfl)) (by decide) (fun K hK => ?_)
     refine goes_ Try.func50 (by kernel_rfl) rfl #[.agg #[.int .i64 a1_0, .slice A1_1 l1_1.length c1_1, .slice A1_2 l1_2.length c1_2], .int .i64 a3, .bool false, .int .i64 (rd t175 x11_1)] (by rfl) rfl rfl zG ?_
     with_reducible refine (spec_MoveOf.calls k1 a1_0 _ _ l1_1 _ _ l1_2 a3 false (rd t175 x11_1) t179 _ ?side1 ?side2 ?side3 ?side4 A15.out).mono ?_
     (case side1 => exact cS HR1_1 HB)
     (case side2 => exact HC1_1.out)
     (case side3 => exact cS HR1_2 HB)
     (case side4 => exact HC1_2.out)
     rintro e w25 ⟨rfl, hb⟩
     have HS3_ := (hb.cell (World.block_lt_of_cell? _ _ (hHeld.2.2.2))).trans (hHeld.2.2.2)
     refine ⟨_, rfl, ?_⟩
     replace HO_9 := Aside0.mk (Kd.S_below (zS HO_9) hb)
     replace HO_10 := Aside0.mk (Kd.R_below (zR HO_10) hb)
     replace BK170 := kB BK170 hb
     replace BK171 := kB BK171 hb
     replace HB := bS HB hb
     (try clear hb)
     (try clear hb2)
     (try clear hk)
     (try clear hi)
     refine hK.out _ _ ⟨bc0 BK171, bc1 BK171, bc2 BK171, HS3_⟩ (fun hHeld => ?_)
     clear hK K
     refine norm_ (a' := ?_) ?_ ?_
     rotate_left
     ·show Act.put _ (some 31) _ = _
      simp only [Act.put, List.setIfInBounds_toArray, List.set_cons_zero, List.set_cons_succ, i64_w, i32_w]
      rfl
     refine pU 7 (some 12) (bm 8 255) HT_ rfl rfl ?_
     refine done_ (done_of HT_.out (by kernel_rfl)) ?_
     try clear hHeld
     try go_wp2
     replace HO_9 := Aside0.mk (Kd.S_drew HO_9.out)
     replace HO_10 := Aside0.mk (Kd.R_drew HO_10.out)
     replace BK170 := Aside0.mk (blk_drew BK170.out)
     replace BK171 := Aside0.mk (blk_drew BK171.out)
     replace HB := Aside0.mk (below_drew1 HB.out)
     have p180 : 0 ≤ (x11_1 : Int) := zD
     have q180 : x11_1 < (t175.length : Int) := zD
     obtain ⟨ad180, e180, hx180_0⟩ := Kd.at_int (Kd.R_reads' HO_10.out).2.2 x11_1 p180 q180
     obtain rfl : ad178 = ad180 := (by injection e180)
     replace p180 := eq_true p180
     replace q180 := eq_true q180
     have p183 : 0 ≤ (t179 : Int) := zD
     have q183 : t179 < (l1_2.length : Int) := zD
     obtain ⟨ad183, e183, hx183_0, hx183_1, hx183_2, hx183_3⟩ := at_T64 HR1_2.out t179 p183 q183
     have hw183_3 := hx183_3
     have hw183_2 := hx183_2
     have hw183_1 := hx183_1
     have hw183_0 := hx183_0
     cases e183
     replace hx183_0 := hL HB hx183_0
     replace hx183_1 := hL HB hx183_1
     replace hx183_2 := hL HB hx183_2
     replace hx183_3 := hL HB hx183_3
     replace p183 := eq_true p183
     replace q183 := eq_true q183
     have p182 : 0 ≤ (t181 : Int) := zD
     have q182 : t181 < (l0_2.length : Int) := zD
     obtain ⟨ad182, e182, hx182_0, hx182_1, hx182_2, hx182_3⟩ := at_T64 HR0_2.out t181 p182 q182
     have hw182_3 := hx182_3
     have hw182_2 := hx182_2
     have hw182_1 := hx182_1
     have hw182_0 := hx182_0
     cases e182
     replace hx182_0 := hL HB hx182_0
     replace hx182_1 := hL HB hx182_1
     replace hx182_2 := hL HB hx182_2
     replace hx182_3 := hL HB hx182_3
     replace p182 := eq_true p182
     replace q182 := eq_true q182
     refine start_ (n := 23) (S := fun w' => w'.cell? ⟨gb170, 0, none⟩ = some (.int .i64 a0_0) ∧ w'.cell? ⟨gb170, 1, none⟩ = some (.slice A0_1 l0_1.length c0_1) ∧ w'.cell? ⟨gb170, 2, none⟩ = some (.slice (some ad182) l0_2.length c0_2) ∧ w'.cell? ⟨gb171, 0, none⟩ = some (.int .i64 a1_0) ∧ w'.cell? ⟨gb171, 1, none⟩ = some (.slice A1_1 l1_1.length c1_1) ∧ w'.cell? ⟨gb171, 2, none⟩ = some (.slice (some ad183) l1_2.length c1_2) ∧ w'.cell? (ad178.add (x11_1).toNat) = some (.int .i64 (rd t175 x11_1)) ∧ w'.cell? (ad183.add ((t179).toNat * 4)) = some (.int .i64 ((rd_T64 l1_2 t179).f0)) ∧ w'.cell? ⟨(ad183.add ((t179).toNat * 4)).block, (ad183.add ((t179).toNat * 4)).off + 1, none⟩ = some (.bool ((rd_T64 l1_2 t179).f1)) ∧ w'.cell? ⟨(ad183.add ((t179).toNat * 4)).block, (ad183.add ((t179).toNat * 4)).off + 2, none⟩ = some (.int .i64 ((rd_T64 l1_2 t179).f2)) ∧ w'.cell? ⟨(ad183.add ((t179).toNat * 4)).block, (ad183.add ((t179).toNat * 4)).off + 3, none⟩ = some (.int .i64 ((rd_T64 l1_2 t179).f3)) ∧ w'.cell? (ad182.add ((t181).toNat * 4)) = some (.int .i64 ((rd_T64 l0_2 t181).f0)) ∧ w'.cell? ⟨(ad182.add ((t181).toNat * 4)).block, (ad182.add ((t181).toNat * 4)).off + 1, none⟩ = some (.bool ((rd_T64 l0_2 t181).f1)) ∧ w'.cell? ⟨(ad182.add ((t181).toNat * 4)).block, (ad182.add ((t181).toNat * 4)).off + 2, none⟩ = some (.int .i64 ((rd_T64 l0_2 t181).f2)) ∧ w'.cell? ⟨(ad182.add ((t181).toNat * 4)).block, (ad182.add ((t181).toNat * 4)).off + 3, none⟩ = some (.int .i64 ((rd_T64 l0_2 t181).f3))) (ds := [20, 21]) (bm 23 0) (by kernel_rfl) rfl (bm0 _) ⟨bc0 BK170, bc1 BK170, bc2 BK170, bc0 BK171, bc1 BK171, bc2 BK171, hx180_0, (hL HB hw183_0), (hL HB hw183_1), (hL HB hw183_2), (hL HB hw183_3), (hL HB hw182_0), (hL HB hw182_1), (hL HB hw182_2), (hL HB hw182_3)⟩ (fun hHeld => ?_); refine with_tabW spec_NextPairs.tab8 spec_NextPairs.bits8 (fun HT_ HW_ => ?_)
     generalize w25.drew = w26 at HO_9 HO_10 BK170 BK171 HB hx180_0 hx182_0 hx182_1 hx182_2 hx182_3 hx183_0 hx183_1 hx183_2 hx183_3 hHeld ⊢
     refine pU 0 (some 34) (bm 23 1) HT_ rfl rfl ?_
     refine pU 1 (some 35) (bm 23 3) HT_ rfl rfl ?_
     refine pU 4 (some 38) (bm 23 19) HT_ rfl rfl ?_
     refine pU 5 (some 39) (bm 23 51) HT_ rfl rfl ?_
     refine pU 6 (some 40) (bm 23 115) HT_ rfl rfl ?_
     refine pU 7 (some 41) (bm 23 243) HT_ rfl rfl ?_
     refine pU 13 (some 47) (bm 23 8435) HT_ rfl rfl ?_
     refine pU 15 (some 49) (bm 23 41203) HT_ rfl rfl ?_
     refine tU 2 (some 36) (bm 23 41207) HT_ HW_ rfl rfl hHeld ?_
     refine tU 3 (some 37) (bm 23 41215) HT_ HW_ rfl rfl hHeld ?_
     refine tU 8 (some 42) (bm 23 41471) HT_ HW_ rfl rfl hHeld ?_
     refine tU 14 (some 48) (bm 23 57855) HT_ HW_ rfl rfl hHeld ?_
     refine pU 16 (some 50) (bm 23 123391) HT_ rfl rfl ?_
     refine pU 17 (some 51) (bm 23 254463) HT_ rfl rfl ?_
     refine tU 18 (some 52) (bm 23 516607) HT_ HW_ rfl rfl hHeld ?_
     refine one_ (i := 9) (N := some 43) (bm 23 517119) rfl rfl (one_of HT_.out (by kernel_rfl)) (by decide) (fun K hK => ?_)
     refine goes_ Try.func50 (by kernel_rfl) rfl #[.agg #[.int .i64 a0_0, .slice A0_1 l0_1.length c0_1, .slice (some ad182) l0_2.length c0_2], .int .i64 a2, .bool true, .int .i64 (rd t175 x11_1)] (by rfl) rfl rfl zG ?_
     with_reducible refine (spec_MoveOf.calls k1 a0_0 _ _ l0_1 _ _ l0_2 a2 true (rd t175 x11_1) t181 _ ?side1 ?side2 ?side3 ?side4 A17.out).mono ?_
     (case side1 => exact cS HR0_1 HB)
     (case side2 => exact HC0_1.out)
     (case side3 => exact cS HR0_2 HB)
     (case side4 => exact HC0_2.out)
     rintro e w27 ⟨rfl, hb⟩
     have HS6_ := (hb.cell (World.block_lt_of_cell? _ _ (hHeld.2.2.2.2.2.2.1))).trans (hHeld.2.2.2.2.2.2.1)
     refine ⟨_, rfl, ?_⟩
     replace HO_9 := Aside0.mk (Kd.S_below (zS HO_9) hb)
     replace HO_10 := Aside0.mk (Kd.R_below (zR HO_10) hb)
     replace BK170 := kB BK170 hb
     replace BK171 := kB BK171 hb
     replace HB := bS HB hb
     (try clear hb)
     (try clear hb2)
     (try clear hk)
     (try clear hi)
     refine hK.out _ _ ⟨bc0 BK170, bc1 BK170, bc2 BK170, bc0 BK171, bc1 BK171, bc2 BK171, HS6_, (hL HB hw183_0), (hL HB hw183_1), (hL HB hw183_2), (hL HB hw183_3), (hL HB hw182_0), (hL HB hw182_1), (hL HB hw182_2), (hL HB hw182_3)⟩ (fun hHeld => ?_)
     clear hK K
     refine norm_ (a' := ?_) ?_ ?_
     rotate_left
     ·show Act.put _ (some 43) _ = _
      simp only [Act.put, List.setIfInBounds_toArray, List.set_cons_zero, List.set_cons_succ, i64_w, i32_w]
      rfl
     refine pU 10 (some 44) (bm 23 518143) HT_ rfl rfl ?_
     refine pU 11 (some 45) (bm 23 520191) HT_ rfl rfl ?_
     refine tU 12 (some 46) (bm 23 524287) HT_ HW_ rfl rfl hHeld ?_
     refine one_ (i := 19) (N := some 53) (bm 23 1048575) rfl rfl (one_of HT_.out (by kernel_rfl)) (by decide) (fun K hK => ?_)
     refine Kd.R_lit_step (Kd.int .i64) _ 3 ?hg (N := 53) ?hd (xs := ([(rd_T64 l0_2 t181).f3, (rd_T64 l1_2 t179).f3] : List Int)) (inner := [.int .i64 ((rd_T64 l0_2 t181).f3), .int .i64 ((rd_T64 l1_2 t179).f3)]) (ok := fun _ => True) (okp := fun _ => True) ?hr ?hp (fun _ hk => hk) trivial (Below.refl _ _) (Nat.le_refl _) (by simp) ?_; (case hd => rfl); (case hg => rfl); (case hr => first | (go_simp; done) | (go_simp; rfl)); (case hp => exact (Reps.one (show Kd.M (Kd.int .i64) _ _ _ ((rd_T64 l0_2 t181).f3) [.int .i64 ((rd_T64 l0_2 t181).f3)] from rfl) (Reps.one (show Kd.M (Kd.int .i64) _ _ _ ((rd_T64 l1_2 t179).f3) [.int .i64 ((rd_T64 l1_2 t179).f3)] from rfl) (Reps.none _ _))))
     intro v185 w28 ho29 hb hg_ hnew_
     have HS6_ := (hb.cell (World.block_lt_of_cell? _ _ (hHeld.2.2.2.2.2.2.1))).trans (hHeld.2.2.2.2.2.2.1)
     clear hg_ hnew_
     (first | rw [← Ny184.out] at ho29 | (simp only [Int.reduceToNat] at ho29; rw [← Ny184.out] at ho29))
     replace HO_9 := Aside0.mk (Kd.S_elder' (zS HO_9) (Kd.R_base ho29) hb)
     have HO186 := Aside0.mk (Kd.R_lower (Kd.R_new' ho29 (Kd.R_lt (zR HO_10))) (below_size (zB HB)))
     replace HO_10 := Aside0.mk (Kd.R_elder' (zR HO_10) (Kd.R_base ho29) hb)
     replace BK170 := kB BK170 hb
     replace BK171 := kB BK171 hb
     replace HB := bS HB hb
     clear hb ho29
     obtain ⟨Ao31, co31, eo31⟩ := Kd.R_slice HO186.out
     (first | subst eo31 | (injection eo31 with f1_ f2_ f3_; have f4_ := f1_.symm; have f5_ := f3_.symm; clear f1_ f2_ f3_; subst f4_; subst f5_))
     refine hK.out _ _ ⟨bc0 BK170, bc1 BK170, bc2 BK170, bc0 BK171, bc1 BK171, bc2 BK171, HS6_, (hL HB hw183_0), (hL HB hw183_1), (hL HB hw183_2), (hL HB hw183_3), (hL HB hw182_0), (hL HB hw182_1), (hL HB hw182_2), (hL HB hw182_3)⟩ (fun hHeld => ?_)
     clear hK K
     refine norm_ (a' := ?_) ?_ ?_
     rotate_left
     ·show Act.put _ (some 53) _ = _
      simp only [Act.put, List.setIfInBounds_toArray, List.set_cons_zero, List.set_cons_succ, i64_w, i32_w]
      rfl
     refine last_ (i := 20) (N := some 54) (bm 23 2097151) rfl rfl (one_of HT_.out (by kernel_rfl)) (by decide) (fun K hK => ?_)
     refine value_ (w1 := ?_) (v := ?_) (by rfl) rfl ?_ ?_
     rotate_left 2
     ·go_simp
      constructor
      ·rfl
      ·rfl
     refine hK.out _ _ ?_
     clear hK K
     refine norm_ (a' := ?_) ?_ ?_
     rotate_left
     ·show Act.put _ (some 54) _ = _
      simp only [Act.put, List.setIfInBounds_toArray, List.set_cons_zero, List.set_cons_succ, i64_w, i32_w]
      rfl
     refine last_ (i := 21) (N := some 55) (bm 23 4194303) rfl rfl (one_of HT_.out (by kernel_rfl)) (by decide) (fun K hK => ?_)
     refine Kd.S_append_step (Kd.slice 3 (Kd.int .i64)) (w0 := w) w.heap.size (by rfl) (.tmp 34) (.tmp 54) 27 38 (.slice none 0 0) 24 rfl Try.underlying27 info38 rfl (by decide) (by omega) u9 x9_1 y184 [.slice Ao31 y184.length co31] (fun k_ => some k_ ≠ (.slice (some ad178) t175.length co23 : Value).ownBlock) (fun k_ => some k_ = (.slice Ao31 y184.length co31 : Value).ownBlock) rfl rfl ?aP (fun k_ hk_ => ((Kd.R_mono (ok' := fun k_ => ((fun k_ => some k_ ≠ (.slice (some ad178) t175.length co23 : Value).ownBlock)) k_ ∧ some k_ ≠ (u9 : Value).ownBlock) (Kd.R_apart' (HO186.out) (Kd.S_typed HO_9.out) (by decide)) (fun k_ hk => ⟨hk.1.2, hk.2⟩))).1 k_ hk_.symm) ?aF ?aO ?aB ?aS ?aL ?_
     (case aP => exact Kd.M_row (Kd.R_mono (Kd.R_tight rfl (Kd.R_mono (ok' := fun k_ => ((fun k_ => some k_ ≠ (.slice (some ad178) t175.length co23 : Value).ownBlock)) k_ ∧ some k_ ≠ (u9 : Value).ownBlock) (Kd.R_apart' (HO186.out) (Kd.S_typed HO_9.out) (by decide)) (fun k_ hk => ⟨hk.1.2, hk.2⟩))) (fun _ h_ => h_)))
     (case aB => exact (zB HB))
     (case aF => exact (fun k_ hk => Kd.fresh' (Kd.R_lt (zR HO_10)) k_ hk))
     (case aO => exact (by (with_reducible repeat (first | apply Kd.S_alloc | apply Kd.S_drewN | apply Kd.S_drew)); exact Kd.S_mono HO_9.out (fun k_ hk => ⟨hk.1, fun e_ => hk.2 e_⟩)))
     (case aS => exact (below_size (zB HB)))
     (case aL => have := LMc22.out; omega)
     intro v188 w30 ho hb hg hat
     rw [← Ny187.out] at ho
     replace HO_10 := Aside0.mk (Kd.R_over' (zR HO_10) (Kd.S_typed (zS HO_9)) (by decide) hg)
     replace BK170 := Aside0.mk (blk_grown (g := gb170) (o := .cells #[.int .i64 a0_0, .slice A0_1 l0_1.length c0_1, .slice (some ad182) l0_2.length c0_2] 31 (0, 0)) (zK BK170) hg (Kd.S_ne HO_9.out BK170.out (by decide)))
     replace BK171 := Aside0.mk (blk_grown (g := gb171) (o := .cells #[.int .i64 a1_0, .slice A1_1 l1_1.length c1_1, .slice (some ad183) l1_2.length c1_2] 31 (0, 0)) (zK BK171) hg (Kd.S_ne HO_9.out BK171.out (by decide)))
     replace HB := Aside0.mk (hb)
     have HO189 := Aside0.mk (ho)
     clear HO_9 HO186
     clear ho hb hg hat
     refine hK.out _ _ ?_
     clear hK K
     refine norm_ (a' := ?_) ?_ ?_
     rotate_left
     ·show Act.put _ (some 55) _ = _
      simp only [Act.put, List.setIfInBounds_toArray, List.set_cons_zero, List.set_cons_succ, i64_w, i32_w]
      rfl
     refine pU 22 (some 9) (bm 23 8388607) HT_ rfl rfl ?_
     refine done_ (done_of HT_.out (by kernel_rfl)) ?_
     try clear hHeld
     try go_wp2
     go_roundg k1
     case measure => have := HK1.out; omega
     case rel => exact ⟨(y187), (wrap64 (x11_1 + 1)), zF, H', ⟨by have := HK1.out; omega⟩, ⟨zS HO189⟩, ⟨by (with_reducible repeat (first | apply Kd.R_alloc | apply Kd.R_drewN | apply Kd.R_drew)); exact Kd.R_mono HO_10.out (fun _ hk => trivial)⟩, ⟨zK BK170⟩, ⟨zK BK171⟩, ⟨zB HB⟩⟩
    ·rw [if_neg c16] at H
     have c16b0 : decide (0 ≤ t179) = false := decide_eq_false c16
     clear c16
     have H' := Aside0.mk H
     clear H
     obtain ⟨Ao32, co32, eo32⟩ := Kd.R_slice HO_10.out
     subst eo32
     try go_wp2
     replace HO_9 := Aside0.mk (Kd.S_drew HO_9.out)
     replace HO_10 := Aside0.mk (Kd.R_drew HO_10.out)
     replace BK170 := Aside0.mk (blk_drew BK170.out)
     replace BK171 := Aside0.mk (blk_drew BK171.out)
     replace HB := Aside0.mk (below_drew1 HB.out)
     have p178 : 0 ≤ (x11_1 : Int) := zD
     have q178 : x11_1 < (t175.length : Int) := zD
     obtain ⟨ad178, e178, hx178_0⟩ := Kd.at_int (Kd.R_reads' HO_10.out).2.2 x11_1 p178 q178
     cases e178
     replace p178 := eq_true p178
     replace q178 := eq_true q178
     refine start_ (n := 8) (S := fun w' => w'.cell? ⟨gb171, 0, none⟩ = some (.int .i64 a1_0) ∧ w'.cell? ⟨gb171, 1, none⟩ = some (.slice A1_1 l1_1.length c1_1) ∧ w'.cell? ⟨gb171, 2, none⟩ = some (.slice A1_2 l1_2.length c1_2) ∧ w'.cell? (ad178.add (x11_1).toNat) = some (.int .i64 (rd t175 x11_1))) (ds := []) (bm 8 0) (by kernel_rfl) rfl (bm0 _) ⟨bc0 BK171, bc1 BK171, bc2 BK171, hx178_0⟩ (fun hHeld => ?_); refine with_tabW spec_NextPairs.tab6 spec_NextPairs.bits6 (fun HT_ HW_ => ?_)
     generalize wr.drew = w33 at HO_9 HO_10 BK170 BK171 HB hx178_0 hHeld ⊢
     refine pU 1 (some 26) (bm 8 2) HT_ rfl rfl ?_
     refine pU 2 (some 27) (bm 8 6) HT_ rfl rfl ?_
     refine pU 3 (some 28) (bm 8 14) HT_ rfl rfl ?_
     refine pU 4 (some 29) (bm 8 30) HT_ rfl rfl ?_
     refine tU 0 (some 25) (bm 8 31) HT_ HW_ rfl rfl hHeld ?_
     refine tU 5 (some 30) (bm 8 63) HT_ HW_ rfl rfl hHeld ?_
     refine one_ (i := 6) (N := some 31) (bm 8 127) rfl rfl (one_of HT_.out (by kernel_rfl)) (by decide) (fun K hK => ?_)
     refine goes_ Try.func50 (by kernel_rfl) rfl #[.agg #[.int .i64 a1_0, .slice A1_1 l1_1.length c1_1, .slice A1_2 l1_2.length c1_2], .int .i64 a3, .bool false, .int .i64 (rd t175 x11_1)] (by rfl) rfl rfl zG ?_
     with_reducible refine (spec_MoveOf.calls k1 a1_0 _ _ l1_1 _ _ l1_2 a3 false (rd t175 x11_1) t179 _ ?side1 ?side2 ?side3 ?side4 A15.out).mono ?_
     (case side1 => exact cS HR1_1 HB)
     (case side2 => exact HC1_1.out)
     (case side3 => exact cS HR1_2 HB)
     (case side4 => exact HC1_2.out)
     rintro e w34 ⟨rfl, hb⟩
     have HS3_ := (hb.cell (World.block_lt_of_cell? _ _ (hHeld.2.2.2))).trans (hHeld.2.2.2)
     refine ⟨_, rfl, ?_⟩
     replace HO_9 := Aside0.mk (Kd.S_below (zS HO_9) hb)
     replace HO_10 := Aside0.mk (Kd.R_below (zR HO_10) hb)
     replace BK170 := kB BK170 hb
     replace BK171 := kB BK171 hb
     replace HB := bS HB hb
     (try clear hb)
     (try clear hb2)
     (try clear hk)
     (try clear hi)
     refine hK.out _ _ ⟨bc0 BK171, bc1 BK171, bc2 BK171, HS3_⟩ (fun hHeld => ?_)
     clear hK K
     refine norm_ (a' := ?_) ?_ ?_
     rotate_left
     ·show Act.put _ (some 31) _ = _
      simp only [Act.put, List.setIfInBounds_toArray, List.set_cons_zero, List.set_cons_succ, i64_w, i32_w]
      rfl
     refine pU 7 (some 12) (bm 8 255) HT_ rfl rfl ?_
     refine done_ (done_of HT_.out (by kernel_rfl)) ?_
     try clear hHeld
     try go_wp2
     go_roundg k1
     case measure => have := HK1.out; omega
     case rel => exact ⟨(x9_1), (wrap64 (x11_1 + 1)), zF, H', ⟨by have := HK1.out; omega⟩, ⟨zS HO_9⟩, ⟨zR HO_10⟩, ⟨zK BK170⟩, ⟨zK BK171⟩, ⟨zB HB⟩⟩
   ·rw [if_neg c13] at H
    have c13b0 : decide (x11_1 < (t175.length : Int)) = false := decide_eq_false c13
    clear c13
    obtain ⟨t190, A35, H⟩ := bindS H
    have H' := Aside0.mk H
    clear H
    obtain ⟨Ao36, co36, eo36⟩ := Kd.R_slice HO_10.out
    subst eo36
    have hnb37 := NB171_170.out
    have hnc37 := NB170_171.out
    have hcz38_0 := bc0 BK171
    have hcz38_1 := bc1 BK171
    have hcz38_2 := bc2 BK171
    have hfz38_0 := bf BK171 0
    have hfz38_1 := bf BK171 1
    have hfz38_2 := bf BK171 2
    go_wp2_with (first | ((with_reducible refine gate_callee (f := 49) rfl ?_); refine goesL_ (some 58) rfl rfl Try.func49 (by kernel_rfl) rfl #[.agg #[.int .i64 a1_0, .slice A1_1 l1_1.length c1_1, .slice A1_2 l1_2.length c1_2], .int .i64 a3, .bool true] rfl zG ?_; (with_reducible refine (spec_MovesFrom.calls k1 a1_0 _ _ l1_1 _ _ l1_2 a3 true t190 _ ?side1 ?side2 ?side3 ?side4 A35.out).mono ?_); (case side1 => exact cS HR1_1 HB); (case side2 => exact HC1_1.out); (case side3 => exact cS HR1_2 HB); (case side4 => exact HC1_2.out); rintro e w39 ⟨v191, rfl, ho0, hb⟩; refine ⟨_, rfl, ?_⟩; replace HO_9 := Aside0.mk (Kd.S_elder' (zS HO_9) (Kd.R_base ho0) hb); have HO192 := Aside0.mk (Kd.R_lower (Kd.R_new' ho0 (Kd.R_lt (zR HO_10))) (below_size (zB HB))); replace HO_10 := Aside0.mk (Kd.R_elder' (zR HO_10) (Kd.R_base ho0) hb); replace BK170 := kB BK170 hb; replace BK171 := kB BK171 hb; replace HB := bS HB hb; (try clear hb); (try clear ho0)))
    go_loopg [9, 13] k1 (fun kq v9 v13 w' => ∃ (x9_2 : List (List Int)) (x13_2 : Int), v13 = .int .i64 x13_2 ∧ Aside0 (spec_NextPairs.l1 kq a2 a3 x9_2 t190 x13_2 a0_0 l0_1 l0_2 a1_0 l1_1 l1_2 = some r) ∧ Aside0 (kq ≤ k1) ∧ Aside0 (Kd.S (Kd.slice 3 (Kd.int .i64)) 38 w' w.heap.size (fun k_ => some k_ ≠ (v191 : Value).ownBlock) v9 x9_2) ∧ Aside0 (Kd.R (Kd.int .i64) 3 w' w.heap.size (fun _ => True) v191 t190) ∧ Aside0 (w'.heap[gb170]? = some (.cells #[.int .i64 a0_0, (.slice A0_1 l0_1.length c0_1), (.slice A0_2 l0_2.length c0_2)] 31 (0, 0))) ∧ Aside0 (w'.heap[gb171]? = some (.cells #[.int .i64 a1_0, (.slice A1_1 l1_1.length c1_1), (.slice A1_2 l1_2.length c1_2)] 31 (0, 0))) ∧ Aside0 (Below w.heap.size w w'))
    case atStart => exact ⟨(x9_1), (0), zF, H', ⟨Nat.le_refl _⟩, ⟨by (with_reducible repeat (first | apply Kd.S_alloc | apply Kd.S_drewN | apply Kd.S_drew)); exact Kd.S_mono HO_9.out (fun _ hk => hk.2)⟩, ⟨by (with_reducible repeat (first | apply Kd.R_alloc | apply Kd.R_drewN | apply Kd.R_drew)); exact Kd.R_mono HO192.out (fun _ hk => trivial)⟩, ⟨zK BK170⟩, ⟨zK BK171⟩, ⟨zB HB⟩⟩
    case round =>
     clear H'
     try clear c1
     try clear p1
     try clear q1
     try clear hx1
     try clear c2
     try clear p2
     try clear c3
     try clear c4
     try clear c5
     try clear p6
     try clear c13
     try clear c13b0
     try clear c14
     try clear c16
     try clear c16b0
     try clear p17
     try clear q17
     try clear hx17
     try clear c18
     try clear p18
     try clear q18
     try clear hx18
     try clear c19
     try clear c20
     try clear c21
     try clear c22
     try clear c37
     try clear hcz38_0
     try clear hcz38_1
     try clear hcz38_2
     try clear hfz38_0
     try clear hfz38_1
     try clear hfz38_2
     try clear hx178_0
     try clear hx180_0
     try clear hx182_0
     try clear hx182_1
     try clear hx182_2
     try clear hx182_3
     try clear hx183_0
     try clear hx183_1
     try clear hx183_2
     try clear hx183_3
     try clear p178
     try clear p180
     try clear p182
     try clear p183
     try clear q178
     try clear q180
     try clear q182
     try clear q183
     obtain ⟨x9_2, x13_2, rfl, HA, HK2, HO_9, HO_10, BK170, BK171, HB⟩ := hrel
     cases gk with
     | zero => exact absurd HA.out (by simp [spec_NextPairs.l1])
     | succ k2 =>
      have H := HA.out
      clear HA
      simp only [spec_NextPairs.l1] at H
      by_cases c40 : x13_2 < (t190.length : Int)
      ·rw [if_pos c40] at H
       have c40b0 : decide (x13_2 < (t190.length : Int)) = true := decide_eq_true c40
       clear c40
       obtain ⟨c41, H⟩ := ifS H
       have c41b0 : decide (0 ≤ x13_2) = true := decide_eq_true c41
       clear c41
       obtain ⟨t194, A42, H⟩ := bindS H
       by_cases c43 : t194 ≥ 0
       ·rw [if_pos c43] at H
        have c43b0 : decide (0 ≤ t194) = true := decide_eq_true c43
        clear c43
        obtain ⟨c44, H⟩ := ifS H
        have c44b0 : decide (0 ≤ t194) = true := decide_eq_true c44
        clear c44
        obtain ⟨c45, H⟩ := ifS H
        have c45b0 : decide (t194 < (l0_2.length : Int)) = true := decide_eq_true c45
        clear c45
        obtain ⟨t197, A46, H⟩ := bindS H
        obtain ⟨c47, H⟩ := ifS H
        have c47b0 : decide (0 ≤ t197) = true := decide_eq_true c47
        clear c47
        obtain ⟨c48, H⟩ := ifS H
        have c48b0 : decide (t197 < (l1_2.length : Int)) = true := decide_eq_true c48
        clear c48
        obtain ⟨y199, hy199⟩ : ∃ y_ : List Int, y_ = (([(rd_T64 l0_2 t194).f3, (rd_T64 l1_2 t197).f3] : List Int)) := ⟨_, rfl⟩
        replace H : (if x9_2.length < 5864062014805 then (spec_NextPairs.l1 k2 a2 a3 (x9_2 ++ [y199]) t190 (wrap64 (x13_2 + 1)) a0_0 l0_1 l0_2 a1_0 l1_1 l1_2) else (none)) = some r := by first | (rw [hy199]; with_reducible exact H) | (have H2_ := (Option.bind_some _ _).symm.trans H; rw [hy199]; with_reducible exact H2_) | (have H2_ := (Option.bind_some _ _).symm.trans H; with_reducible exact H2_) | with_reducible exact H | (rw [hy199]; exact H) | exact H
        have Ny199 := Aside0.mk hy199
        clear hy199
        obtain ⟨c49, H⟩ := ifS H
        have LMc49 := Aside0.mk c49
        clear c49
        obtain ⟨y202, hy202⟩ : ∃ y_ : List (List Int), y_ = (x9_2 ++ [y199]) := ⟨_, rfl⟩
        replace H : (spec_NextPairs.l1 k2 a2 a3 y202 t190 (wrap64 (x13_2 + 1)) a0_0 l0_1 l0_2 a1_0 l1_1 l1_2) = some r := by first | (rw [hy202]; with_reducible exact H) | (have H2_ := (Option.bind_some _ _).symm.trans H; rw [hy202]; with_reducible exact H2_) | (have H2_ := (Option.bind_some _ _).symm.trans H; with_reducible exact H2_) | with_reducible exact H | (rw [hy202]; exact H) | exact H
        have Ny202 := Aside0.mk hy202
        clear hy202
        have H' := Aside0.mk H
        clear H
        obtain ⟨Ao50, co50, eo50⟩ := Kd.R_slice HO_10.out
        subst eo50
        try go_wp2
        replace HO_9 := Aside0.mk (Kd.S_drew HO_9.out)
        replace HO_10 := Aside0.mk (Kd.R_drew HO_10.out)
        replace BK170 := Aside0.mk (blk_drew BK170.out)
        replace BK171 := Aside0.mk (blk_drew BK171.out)
        replace HB := Aside0.mk (below_drew1 HB.out)
        have p193 : 0 ≤ (x13_2 : Int) := zD
        have q193 : x13_2 < (t190.length : Int) := zD
        obtain ⟨ad193, e193, hx193_0⟩ := Kd.at_int (Kd.R_reads' HO_10.out).2.2 x13_2 p193 q193
        cases e193
        replace p193 := eq_true p193
        replace q193 := eq_true q193
        refine start_ (n := 8) (S := fun w' => w'.cell? ⟨gb170, 0, none⟩ = some (.int .i64 a0_0) ∧ w'.cell? ⟨gb170, 1, none⟩ = some (.slice A0_1 l0_1.length c0_1) ∧ w'.cell? ⟨gb170, 2, none⟩ = some (.slice A0_2 l0_2.length c0_2) ∧ w'.cell? (ad193.add (x13_2).toNat) = some (.int .i64 (rd t190 x13_2))) (ds := []) (bm 8 0) (by kernel_rfl) rfl (bm0 _) ⟨bc0 BK170, bc1 BK170, bc2 BK170, hx193_0⟩ (fun hHeld => ?_); refine with_tabW spec_NextPairs.tab13 spec_NextPairs.bits13 (fun HT_ HW_ => ?_)
        generalize wr.drew = w51 at HO_9 HO_10 BK170 BK171 HB hx193_0 hHeld ⊢
        refine pU 1 (some 66) (bm 8 2) HT_ rfl rfl ?_
        refine pU 2 (some 67) (bm 8 6) HT_ rfl rfl ?_
        refine pU 3 (some 68) (bm 8 14) HT_ rfl rfl ?_
        refine pU 4 (some 69) (bm 8 30) HT_ rfl rfl ?_
        refine tU 0 (some 65) (bm 8 31) HT_ HW_ rfl rfl hHeld ?_
        refine tU 5 (some 70) (bm 8 63) HT_ HW_ rfl rfl hHeld ?_
        refine one_ (i := 6) (N := some 71) (bm 8 127) rfl rfl (one_of HT_.out (by kernel_rfl)) (by decide) (fun K hK => ?_)
        refine goes_ Try.func50 (by kernel_rfl) rfl #[.agg #[.int .i64 a0_0, .slice A0_1 l0_1.length c0_1, .slice A0_2 l0_2.length c0_2], .int .i64 a2, .bool false, .int .i64 (rd t190 x13_2)] (by rfl) rfl rfl zG ?_
        with_reducible refine (spec_MoveOf.calls k2 a0_0 _ _ l0_1 _ _ l0_2 a2 false (rd t190 x13_2) t194 _ ?side1 ?side2 ?side3 ?side4 A42.out).mono ?_
        (case side1 => exact cS HR0_1 HB)
        (case side2 => exact HC0_1.out)
        (case side3 => exact cS HR0_2 HB)
        (case side4 => exact HC0_2.out)
        rintro e w52 ⟨rfl, hb⟩
        have HS3_ := (hb.cell (World.block_lt_of_cell? _ _ (hHeld.2.2.2))).trans (hHeld.2.2.2)
        refine ⟨_, rfl, ?_⟩
        replace HO_9 := Aside0.mk (Kd.S_below (zS HO_9) hb)
        replace HO_10 := Aside0.mk (Kd.R_below (zR HO_10) hb)
        replace BK170 := kB BK170 hb
        replace BK171 := kB BK171 hb
        replace HB := bS HB hb
        (try clear hb)
        (try clear hb2)
        (try clear hk)
        (try clear hi)
        refine hK.out _ _ ⟨bc0 BK170, bc1 BK170, bc2 BK170, HS3_⟩ (fun hHeld => ?_)
        clear hK K
        refine norm_ (a' := ?_) ?_ ?_
        rotate_left
        ·show Act.put _ (some 71) _ = _
         simp only [Act.put, List.setIfInBounds_toArray, List.set_cons_zero, List.set_cons_succ, i64_w, i32_w]
         rfl
        refine pU 7 (some 14) (bm 8 255) HT_ rfl rfl ?_
        refine done_ (done_of HT_.out (by kernel_rfl)) ?_
        try clear hHeld
        try go_wp2
        replace HO_9 := Aside0.mk (Kd.S_drew HO_9.out)
        replace HO_10 := Aside0.mk (Kd.R_drew HO_10.out)
        replace BK170 := Aside0.mk (blk_drew BK170.out)
        replace BK171 := Aside0.mk (blk_drew BK171.out)
        replace HB := Aside0.mk (below_drew1 HB.out)
        have p195 : 0 ≤ (t194 : Int) := zD
        have q195 : t194 < (l0_2.length : Int) := zD
        obtain ⟨ad195, e195, hx195_0, hx195_1, hx195_2, hx195_3⟩ := at_T64 HR0_2.out t194 p195 q195
        have hw195_3 := hx195_3
        have hw195_2 := hx195_2
        have hw195_1 := hx195_1
        have hw195_0 := hx195_0
        cases e195
        replace hx195_0 := hL HB hx195_0
        replace hx195_1 := hL HB hx195_1
        replace hx195_2 := hL HB hx195_2
        replace hx195_3 := hL HB hx195_3
        replace p195 := eq_true p195
        replace q195 := eq_true q195
        have p196 : 0 ≤ (x13_2 : Int) := zD
        have q196 : x13_2 < (t190.length : Int) := zD
        obtain ⟨ad196, e196, hx196_0⟩ := Kd.at_int (Kd.R_reads' HO_10.out).2.2 x13_2 p196 q196
        obtain rfl : ad193 = ad196 := (by injection e196)
        replace p196 := eq_true p196
        replace q196 := eq_true q196
        have p198 : 0 ≤ (t197 : Int) := zD
        have q198 : t197 < (l1_2.length : Int) := zD
        obtain ⟨ad198, e198, hx198_0, hx198_1, hx198_2, hx198_3⟩ := at_T64 HR1_2.out t197 p198 q198
        have hw198_3 := hx198_3
        have hw198_2 := hx198_2
        have hw198_1 := hx198_1
        have hw198_0 := hx198_0
        cases e198
        replace hx198_0 := hL HB hx198_0
        replace hx198_1 := hL HB hx198_1
        replace hx198_2 := hL HB hx198_2
        replace hx198_3 := hL HB hx198_3
        replace p198 := eq_true p198
        replace q198 := eq_true q198
        refine start_ (n := 23) (S := fun w' => w'.cell? ⟨gb170, 0, none⟩ = some (.int .i64 a0_0) ∧ w'.cell? ⟨gb170, 1, none⟩ = some (.slice A0_1 l0_1.length c0_1) ∧ w'.cell? ⟨gb170, 2, none⟩ = some (.slice (some ad195) l0_2.length c0_2) ∧ w'.cell? ⟨gb171, 0, none⟩ = some (.int .i64 a1_0) ∧ w'.cell? ⟨gb171, 1, none⟩ = some (.slice A1_1 l1_1.length c1_1) ∧ w'.cell? ⟨gb171, 2, none⟩ = some (.slice (some ad198) l1_2.length c1_2) ∧ w'.cell? (ad195.add ((t194).toNat * 4)) = some (.int .i64 ((rd_T64 l0_2 t194).f0)) ∧ w'.cell? ⟨(ad195.add ((t194).toNat * 4)).block, (ad195.add ((t194).toNat * 4)).off + 1, none⟩ = some (.bool ((rd_T64 l0_2 t194).f1)) ∧ w'.cell? ⟨(ad195.add ((t194).toNat * 4)).block, (ad195.add ((t194).toNat * 4)).off + 2, none⟩ = some (.int .i64 ((rd_T64 l0_2 t194).f2)) ∧ w'.cell? ⟨(ad195.add ((t194).toNat * 4)).block, (ad195.add ((t194).toNat * 4)).off + 3, none⟩ = some (.int .i64 ((rd_T64 l0_2 t194).f3)) ∧ w'.cell? (ad193.add (x13_2).toNat) = some (.int .i64 (rd t190 x13_2)) ∧ w'.cell? (ad198.add ((t197).toNat * 4)) = some (.int .i64 ((rd_T64 l1_2 t197).f0)) ∧ w'.cell? ⟨(ad198.add ((t197).toNat * 4)).block, (ad198.add ((t197).toNat * 4)).off + 1, none⟩ = some (.bool ((rd_T64 l1_2 t197).f1)) ∧ w'.cell? ⟨(ad198.add ((t197).toNat * 4)).block, (ad198.add ((t197).toNat * 4)).off + 2, none⟩ = some (.int .i64 ((rd_T64 l1_2 t197).f2)) ∧ w'.cell? ⟨(ad198.add ((t197).toNat * 4)).block, (ad198.add ((t197).toNat * 4)).off + 3, none⟩ = some (.int .i64 ((rd_T64 l1_2 t197).f3))) (ds := [20, 21]) (bm 23 0) (by kernel_rfl) rfl (bm0 _) ⟨bc0 BK170, bc1 BK170, bc2 BK170, bc0 BK171, bc1 BK171, bc2 BK171, (hL HB hw195_0), (hL HB hw195_1), (hL HB hw195_2), (hL HB hw195_3), hx196_0, (hL HB hw198_0), (hL HB hw198_1), (hL HB hw198_2), (hL HB hw198_3)⟩ (fun hHeld => ?_); refine with_tabW spec_NextPairs.tab15 spec_NextPairs.bits15 (fun HT_ HW_ => ?_)
        generalize w52.drew = w53 at HO_9 HO_10 BK170 BK171 HB hx195_0 hx195_1 hx195_2 hx195_3 hx196_0 hx198_0 hx198_1 hx198_2 hx198_3 hHeld ⊢
        refine pU 0 (some 74) (bm 23 1) HT_ rfl rfl ?_
        refine pU 1 (some 75) (bm 23 3) HT_ rfl rfl ?_
        refine pU 3 (some 77) (bm 23 11) HT_ rfl rfl ?_
        refine pU 7 (some 81) (bm 23 139) HT_ rfl rfl ?_
        refine pU 10 (some 84) (bm 23 1163) HT_ rfl rfl ?_
        refine pU 11 (some 85) (bm 23 3211) HT_ rfl rfl ?_
        refine pU 12 (some 86) (bm 23 7307) HT_ rfl rfl ?_
        refine pU 13 (some 87) (bm 23 15499) HT_ rfl rfl ?_
        refine tU 2 (some 76) (bm 23 15503) HT_ HW_ rfl rfl hHeld ?_
        refine pU 4 (some 78) (bm 23 15519) HT_ rfl rfl ?_
        refine pU 5 (some 79) (bm 23 15551) HT_ rfl rfl ?_
        refine tU 6 (some 80) (bm 23 15615) HT_ HW_ rfl rfl hHeld ?_
        refine tU 8 (some 82) (bm 23 15871) HT_ HW_ rfl rfl hHeld ?_
        refine tU 9 (some 83) (bm 23 16383) HT_ HW_ rfl rfl hHeld ?_
        refine tU 14 (some 88) (bm 23 32767) HT_ HW_ rfl rfl hHeld ?_
        refine one_ (i := 15) (N := some 89) (bm 23 65535) rfl rfl (one_of HT_.out (by kernel_rfl)) (by decide) (fun K hK => ?_)
        refine goes_ Try.func50 (by kernel_rfl) rfl #[.agg #[.int .i64 a1_0, .slice A1_1 l1_1.length c1_1, .slice (some ad198) l1_2.length c1_2], .int .i64 a3, .bool true, .int .i64 (rd t190 x13_2)] (by rfl) rfl rfl zG ?_
        with_reducible refine (spec_MoveOf.calls k2 a1_0 _ _ l1_1 _ _ l1_2 a3 true (rd t190 x13_2) t197 _ ?side1 ?side2 ?side3 ?side4 A46.out).mono ?_
        (case side1 => exact cS HR1_1 HB)
        (case side2 => exact HC1_1.out)
        (case side3 => exact cS HR1_2 HB)
        (case side4 => exact HC1_2.out)
        rintro e w54 ⟨rfl, hb⟩
        have HS10_ := (hb.cell (World.block_lt_of_cell? _ _ (hHeld.2.2.2.2.2.2.2.2.2.2.1))).trans (hHeld.2.2.2.2.2.2.2.2.2.2.1)
        refine ⟨_, rfl, ?_⟩
        replace HO_9 := Aside0.mk (Kd.S_below (zS HO_9) hb)
        replace HO_10 := Aside0.mk (Kd.R_below (zR HO_10) hb)
        replace BK170 := kB BK170 hb
        replace BK171 := kB BK171 hb
        replace HB := bS HB hb
        (try clear hb)
        (try clear hb2)
        (try clear hk)
        (try clear hi)
        refine hK.out _ _ ⟨bc0 BK170, bc1 BK170, bc2 BK170, bc0 BK171, bc1 BK171, bc2 BK171, (hL HB hw195_0), (hL HB hw195_1), (hL HB hw195_2), (hL HB hw195_3), HS10_, (hL HB hw198_0), (hL HB hw198_1), (hL HB hw198_2), (hL HB hw198_3)⟩ (fun hHeld => ?_)
        clear hK K
        refine norm_ (a' := ?_) ?_ ?_
        rotate_left
        ·show Act.put _ (some 89) _ = _
         simp only [Act.put, List.setIfInBounds_toArray, List.set_cons_zero, List.set_cons_succ, i64_w, i32_w]
         rfl
        refine pU 16 (some 90) (bm 23 131071) HT_ rfl rfl ?_
        refine pU 17 (some 91) (bm 23 262143) HT_ rfl rfl ?_
        refine tU 18 (some 92) (bm 23 524287) HT_ HW_ rfl rfl hHeld ?_
        refine one_ (i := 19) (N := some 93) (bm 23 1048575) rfl rfl (one_of HT_.out (by kernel_rfl)) (by decide) (fun K hK => ?_)
        refine Kd.R_lit_step (Kd.int .i64) _ 3 ?hg (N := 93) ?hd (xs := ([(rd_T64 l0_2 t194).f3, (rd_T64 l1_2 t197).f3] : List Int)) (inner := [.int .i64 ((rd_T64 l0_2 t194).f3), .int .i64 ((rd_T64 l1_2 t197).f3)]) (ok := fun _ => True) (okp := fun _ => True) ?hr ?hp (fun _ hk => hk) trivial (Below.refl _ _) (Nat.le_refl _) (by simp) ?_; (case hd => rfl); (case hg => rfl); (case hr => first | (go_simp; done) | (go_simp; rfl)); (case hp => exact (Reps.one (show Kd.M (Kd.int .i64) _ _ _ ((rd_T64 l0_2 t194).f3) [.int .i64 ((rd_T64 l0_2 t194).f3)] from rfl) (Reps.one (show Kd.M (Kd.int .i64) _ _ _ ((rd_T64 l1_2 t197).f3) [.int .i64 ((rd_T64 l1_2 t197).f3)] from rfl) (Reps.none _ _))))
        intro v200 w55 ho56 hb hg_ hnew_
        have HS10_ := (hb.cell (World.block_lt_of_cell? _ _ (hHeld.2.2.2.2.2.2.2.2.2.2.1))).trans (hHeld.2.2.2.2.2.2.2.2.2.2.1)
        clear hg_ hnew_
        (first | rw [← Ny199.out] at ho56 | (simp only [Int.reduceToNat] at ho56; rw [← Ny199.out] at ho56))
        replace HO_9 := Aside0.mk (Kd.S_elder' (zS HO_9) (Kd.R_base ho56) hb)
        have HO201 := Aside0.mk (Kd.R_lower (Kd.R_new' ho56 (Kd.R_lt (zR HO_10))) (below_size (zB HB)))
        replace HO_10 := Aside0.mk (Kd.R_elder' (zR HO_10) (Kd.R_base ho56) hb)
        replace BK170 := kB BK170 hb
        replace BK171 := kB BK171 hb
        replace HB := bS HB hb
        clear hb ho56
        obtain ⟨Ao58, co58, eo58⟩ := Kd.R_slice HO201.out
        (first | subst eo58 | (injection eo58 with f1_ f2_ f3_; have f4_ := f1_.symm; have f5_ := f3_.symm; clear f1_ f2_ f3_; subst f4_; subst f5_))
        refine hK.out _ _ ⟨bc0 BK170, bc1 BK170, bc2 BK170, bc0 BK171, bc1 BK171, bc2 BK171, (hL HB hw195_0), (hL HB hw195_1), (hL HB hw195_2), (hL HB hw195_3), HS10_, (hL HB hw198_0), (hL HB hw198_1), (hL HB hw198_2), (hL HB hw198_3)⟩ (fun hHeld => ?_)
        clear hK K
        refine norm_ (a' := ?_) ?_ ?_
        rotate_left
        ·show Act.put _ (some 93) _ = _
         simp only [Act.put, List.setIfInBounds_toArray, List.set_cons_zero, List.set_cons_succ, i64_w, i32_w]
         rfl
        refine last_ (i := 20) (N := some 94) (bm 23 2097151) rfl rfl (one_of HT_.out (by kernel_rfl)) (by decide) (fun K hK => ?_)
        refine value_ (w1 := ?_) (v := ?_) (by rfl) rfl ?_ ?_
        rotate_left 2
        ·go_simp
         constructor
         ·rfl
         ·rfl
        refine hK.out _ _ ?_
        clear hK K
        refine norm_ (a' := ?_) ?_ ?_
        rotate_left
        ·show Act.put _ (some 94) _ = _
         simp only [Act.put, List.setIfInBounds_toArray, List.set_cons_zero, List.set_cons_succ, i64_w, i32_w]
         rfl
        refine last_ (i := 21) (N := some 95) (bm 23 4194303) rfl rfl (one_of HT_.out (by kernel_rfl)) (by decide) (fun K hK => ?_)
        refine Kd.S_append_step (Kd.slice 3 (Kd.int .i64)) (w0 := w) w.heap.size (by rfl) (.tmp 74) (.tmp 94) 27 38 (.slice none 0 0) 24 rfl Try.underlying27 info38 rfl (by decide) (by omega) u9 x9_2 y199 [.slice Ao58 y199.length co58] (fun k_ => some k_ ≠ (.slice (some ad193) t190.length co50 : Value).ownBlock) (fun k_ => some k_ = (.slice Ao58 y199.length co58 : Value).ownBlock) rfl rfl ?aP (fun k_ hk_ => ((Kd.R_mono (ok' := fun k_ => ((fun k_ => some k_ ≠ (.slice (some ad193) t190.length co50 : Value).ownBlock)) k_ ∧ some k_ ≠ (u9 : Value).ownBlock) (Kd.R_apart' (HO201.out) (Kd.S_typed HO_9.out) (by decide)) (fun k_ hk => ⟨hk.1.2, hk.2⟩))).1 k_ hk_.symm) ?aF ?aO ?aB ?aS ?aL ?_
        (case aP => exact Kd.M_row (Kd.R_mono (Kd.R_tight rfl (Kd.R_mono (ok' := fun k_ => ((fun k_ => some k_ ≠ (.slice (some ad193) t190.length co50 : Value).ownBlock)) k_ ∧ some k_ ≠ (u9 : Value).ownBlock) (Kd.R_apart' (HO201.out) (Kd.S_typed HO_9.out) (by decide)) (fun k_ hk => ⟨hk.1.2, hk.2⟩))) (fun _ h_ => h_)))
        (case aB => exact (zB HB))
        (case aF => exact (fun k_ hk => Kd.fresh' (Kd.R_lt (zR HO_10)) k_ hk))
        (case aO => exact (by (with_reducible repeat (first | apply Kd.S_alloc | apply Kd.S_drewN | apply Kd.S_drew)); exact Kd.S_mono HO_9.out (fun k_ hk => ⟨hk.1, fun e_ => hk.2 e_⟩)))
        (case aS => exact (below_size (zB HB)))
        (case aL => have := LMc49.out; omega)
        intro v203 w57 ho hb hg hat
        rw [← Ny202.out] at ho
        replace HO_10 := Aside0.mk (Kd.R_over' (zR HO_10) (Kd.S_typed (zS HO_9)) (by decide) hg)
        replace BK170 := Aside0.mk (blk_grown (g := gb170) (o := .cells #[.int .i64 a0_0, .slice A0_1 l0_1.length c0_1, .slice (some ad195) l0_2.length c0_2] 31 (0, 0)) (zK BK170) hg (Kd.S_ne HO_9.out BK170.out (by decide)))
        replace BK171 := Aside0.mk (blk_grown (g := gb171) (o := .cells #[.int .i64 a1_0, .slice A1_1 l1_1.length c1_1, .slice (some ad198) l1_2.length c1_2] 31 (0, 0)) (zK BK171) hg (Kd.S_ne HO_9.out BK171.out (by decide)))
        replace HB := Aside0.mk (hb)
        have HO204 := Aside0.mk (ho)
        clear HO_9 HO201
        clear ho hb hg hat
        refine hK.out _ _ ?_
        clear hK K
        refine norm_ (a' := ?_) ?_ ?_
        rotate_left
        ·show Act.put _ (some 95) _ = _
         simp only [Act.put, List.setIfInBounds_toArray, List.set_cons_zero, List.set_cons_succ, i64_w, i32_w]
         rfl
        refine pU 22 (some 9) (bm 23 8388607) HT_ rfl rfl ?_
        refine done_ (done_of HT_.out (by kernel_rfl)) ?_
        try clear hHeld
        try go_wp2
        go_roundg k2
        case measure => have := HK1.out; have := HK2.out; omega
        case rel => exact ⟨(y202), (wrap64 (x13_2 + 1)), zF, H', ⟨by have := HK1.out; have := HK2.out; omega⟩, ⟨zS HO204⟩, ⟨by (with_reducible repeat (first | apply Kd.R_alloc | apply Kd.R_drewN | apply Kd.R_drew)); exact Kd.R_mono HO_10.out (fun _ hk => trivial)⟩, ⟨zK BK170⟩, ⟨zK BK171⟩, ⟨zB HB⟩⟩
       ·rw [if_neg c43] at H
        have c43b0 : decide (0 ≤ t194) = false := decide_eq_false c43
        clear c43
        have H' := Aside0.mk H
        clear H
        obtain ⟨Ao59, co59, eo59⟩ := Kd.R_slice HO_10.out
        subst eo59
        try go_wp2
        replace HO_9 := Aside0.mk (Kd.S_drew HO_9.out)
        replace HO_10 := Aside0.mk (Kd.R_drew HO_10.out)
        replace BK170 := Aside0.mk (blk_drew BK170.out)
        replace BK171 := Aside0.mk (blk_drew BK171.out)
        replace HB := Aside0.mk (below_drew1 HB.out)
        have p193 : 0 ≤ (x13_2 : Int) := zD
        have q193 : x13_2 < (t190.length : Int) := zD
        obtain ⟨ad193, e193, hx193_0⟩ := Kd.at_int (Kd.R_reads' HO_10.out).2.2 x13_2 p193 q193
        cases e193
        replace p193 := eq_true p193
        replace q193 := eq_true q193
        refine start_ (n := 8) (S := fun w' => w'.cell? ⟨gb170, 0, none⟩ = some (.int .i64 a0_0) ∧ w'.cell? ⟨gb170, 1, none⟩ = some (.slice A0_1 l0_1.length c0_1) ∧ w'.cell? ⟨gb170, 2, none⟩ = some (.slice A0_2 l0_2.length c0_2) ∧ w'.cell? (ad193.add (x13_2).toNat) = some (.int .i64 (rd t190 x13_2))) (ds := []) (bm 8 0) (by kernel_rfl) rfl (bm0 _) ⟨bc0 BK170, bc1 BK170, bc2 BK170, hx193_0⟩ (fun hHeld => ?_); refine with_tabW spec_NextPairs.tab13 spec_NextPairs.bits13 (fun HT_ HW_ => ?_)
        generalize wr.drew = w60 at HO_9 HO_10 BK170 BK171 HB hx193_0 hHeld ⊢
        refine pU 1 (some 66) (bm 8 2) HT_ rfl rfl ?_
        refine pU 2 (some 67) (bm 8 6) HT_ rfl rfl ?_
        refine pU 3 (some 68) (bm 8 14) HT_ rfl rfl ?_
        refine pU 4 (some 69) (bm 8 30) HT_ rfl rfl ?_
        refine tU 0 (some 65) (bm 8 31) HT_ HW_ rfl rfl hHeld ?_
        refine tU 5 (some 70) (bm 8 63) HT_ HW_ rfl rfl hHeld ?_
        refine one_ (i := 6) (N := some 71) (bm 8 127) rfl rfl (one_of HT_.out (by kernel_rfl)) (by decide) (fun K hK => ?_)
        refine goes_ Try.func50 (by kernel_rfl) rfl #[.agg #[.int .i64 a0_0, .slice A0_1 l0_1.length c0_1, .slice A0_2 l0_2.length c0_2], .int .i64 a2, .bool false, .int .i64 (rd t190 x13_2)] (by rfl) rfl rfl zG ?_
        with_reducible refine (spec_MoveOf.calls k2 a0_0 _ _ l0_1 _ _ l0_2 a2 false (rd t190 x13_2) t194 _ ?side1 ?side2 ?side3 ?side4 A42.out).mono ?_
        (case side1 => exact cS HR0_1 HB)
        (case side2 => exact HC0_1.out)
        (case side3 => exact cS HR0_2 HB)
        (case side4 => exact HC0_2.out)
        rintro e w61 ⟨rfl, hb⟩
        have HS3_ := (hb.cell (World.block_lt_of_cell? _ _ (hHeld.2.2.2))).trans (hHeld.2.2.2)
        refine ⟨_, rfl, ?_⟩
        replace HO_9 := Aside0.mk (Kd.S_below (zS HO_9) hb)
        replace HO_10 := Aside0.mk (Kd.R_below (zR HO_10) hb)
        replace BK170 := kB BK170 hb
        replace BK171 := kB BK171 hb
        replace HB := bS HB hb
        (try clear hb)
        (try clear hb2)
        (try clear hk)
        (try clear hi)
        refine hK.out _ _ ⟨bc0 BK170, bc1 BK170, bc2 BK170, HS3_⟩ (fun hHeld => ?_)
        clear hK K
        refine norm_ (a' := ?_) ?_ ?_
        rotate_left
        ·show Act.put _ (some 71) _ = _
         simp only [Act.put, List.setIfInBounds_toArray, List.set_cons_zero, List.set_cons_succ, i64_w, i32_w]
         rfl
        refine pU 7 (some 14) (bm 8 255) HT_ rfl rfl ?_
        refine done_ (done_of HT_.out (by kernel_rfl)) ?_
        try clear hHeld
        try go_wp2
        go_roundg k2
        case measure => have := HK1.out; have := HK2.out; omega
        case rel => exact ⟨(x9_2), (wrap64 (x13_2 + 1)), zF, H', ⟨by have := HK1.out; have := HK2.out; omega⟩, ⟨zS HO_9⟩, ⟨zR HO_10⟩, ⟨zK BK170⟩, ⟨zK BK171⟩, ⟨zB HB⟩⟩
      ·rw [if_neg c40] at H
       have c40b0 : decide (x13_2 < (t190.length : Int)) = false := decide_eq_false c40
       clear c40
       obtain rfl := Option.some.inj H
       obtain ⟨Ao62, co62, eo62⟩ := Kd.R_slice HO_10.out
       subst eo62
       go_wp2
       go_ret
       exact ⟨_, zE, by (with_reducible repeat (first | apply Kd.S_alloc | apply Kd.S_drewN | apply Kd.S_drew)); exact Kd.S_mono HO_9.out (fun _ hk => trivial), zB HB⟩

end Go.Proofs.Ytmenijbpglknbaa.PFnExactPairsOf
