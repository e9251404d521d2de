-- WRITTEN by pp.py, this session's own wrapper around the print; not trusted: Lean checks it
import Derived.Test.YtjlaogjikkckkaaPFnExactNextPairsx0
import Derived.Test.YtjlaogjikkckkaaPFnExactNextPairsx4
namespace Go.Proofs.Ytjlaogjikkckkaa.PFnExactNextPairs
open Go.RowKit Go.Proofs.Ytjlaogjikkckkaa.Hw Go.Proofs.YtjlaogjikkckkaaW.PrintWords Go.Proofs.YtjlaogjikkckkaaW.PrintLast Go.Proofs.YtjlaogjikkckkaaW.PrintMore
attribute [local go_sem] max2_int min2_int max_two min_two max_three min_three max_four min_four   -- for this text's walks alone
set_option linter.unusedVariables false
set_option linter.unusedSimpArgs false
set_option linter.unusedSectionVars false

/-! ### spec_NextPairs: function 21 -/
mutual
def spec_NextPairs.l0 : Nat → Int → Int → List (List Int) → List Int → Int → Int → List Bool → List (S54) → Int → List Bool → List (S54) → Option ((List (List Int)))
 | 0, _, _, _, _, _, _, _, _, _, _, _ => none
 | k + 1, x2, x3, x9, x10, x11, x207000, x207001, x207002, x208000, x208001, x208002 => if x11 < (x10.length : Int) then (if 0 ≤ x11 then ((spec_MoveOf.f k x208000 x208001 x208002 x3 false (rd x10 x11)).bind fun t215 => (if t215 ≥ 0 then ((spec_MoveOf.f k x207000 x207001 x207002 x2 true (rd x10 x11)).bind fun t217 => (if 0 ≤ t217 then (if t217 < (x207002.length : Int) then (if 0 ≤ t215 then (if t215 < (x208002.length : Int) then (if x9.length < 5864062014805 then (spec_NextPairs.l0 k x2 x3 (x9 ++ [(([(rd_T54 x207002 t217).f3, (rd_T54 x208002 t215).f3] : List Int))]) x10 (wrap64 (x11 + 1)) x207000 x207001 x207002 x208000 x208001 x208002) else (none)) else (none)) else (none)) else (none)) else (none))) else (spec_NextPairs.l0 k x2 x3 x9 x10 (wrap64 (x11 + 1)) x207000 x207001 x207002 x208000 x208001 x208002))) else (none)) else ((spec_MovesFrom.f k x208000 x208001 x208002 x3 true).bind fun t226 => (spec_NextPairs.l1 k x2 x3 x9 t226 0 x207000 x207001 x207002 x208000 x208001 x208002))
def spec_NextPairs.l1 : Nat → Int → Int → List (List Int) → List Int → Int → Int → List Bool → List (S54) → Int → List Bool → List (S54) → Option ((List (List Int)))
 | 0, _, _, _, _, _, _, _, _, _, _, _ => none
 | k + 1, x2, x3, x9, x10, x13, x207000, x207001, x207002, x208000, x208001, x208002 => if x13 < (x10.length : Int) then (if 0 ≤ x13 then ((spec_MoveOf.f k x207000 x207001 x207002 x2 false (rd x10 x13)).bind fun t230 => (if t230 ≥ 0 then (if 0 ≤ t230 then (if t230 < (x207002.length : Int) then ((spec_MoveOf.f k x208000 x208001 x208002 x3 true (rd x10 x13)).bind fun t233 => (if 0 ≤ t233 then (if t233 < (x208002.length : Int) then (if x9.length < 5864062014805 then (spec_NextPairs.l1 k x2 x3 (x9 ++ [(([(rd_T54 x207002 t230).f3, (rd_T54 x208002 t233).f3] : List Int))]) x10 (wrap64 (x13 + 1)) x207000 x207001 x207002 x208000 x208001 x208002) else (none)) else (none)) else (none))) else (none)) else (none)) else (spec_NextPairs.l1 k x2 x3 x9 x10 (wrap64 (x13 + 1)) x207000 x207001 x207002 x208000 x208001 x208002))) else (none)) else (some x9)
end
def spec_NextPairs.f (k : Nat) (a0_0 : Int) (l0_1 : List Bool) (l0_2 : List (S54)) (a1_0 : Int) (l1_1 : List Bool) (l1_2 : List (S54)) (a2 : Int) (a3 : Int) : Option ((List (List Int))) := (spec_MovesFrom.f k a0_0 l0_1 l0_2 a2 true).bind fun t211 => (spec_NextPairs.l0 k a2 a3 (([] : List (List Int))) t211 0 a0_0 l0_1 l0_2 a1_0 l1_1 l1_2)
theorem spec_NextPairs.mono_l : ∀ k, (∀ y0 y1 y2 y3 y4 y5 y6 y7 y8 y9 y10, LeO (spec_NextPairs.l0 k y0 y1 y2 y3 y4 y5 y6 y7 y8 y9 y10) (spec_NextPairs.l0 (k + 1) y0 y1 y2 y3 y4 y5 y6 y7 y8 y9 y10)) ∧ (∀ y0 y1 y2 y3 y4 y5 y6 y7 y8 y9 y10, LeO (spec_NextPairs.l1 k y0 y1 y2 y3 y4 y5 y6 y7 y8 y9 y10) (spec_NextPairs.l1 (k + 1) y0 y1 y2 y3 y4 y5 y6 y7 y8 y9 y10))
 | 0 => ⟨fun _ _ _ _ _ _ _ _ _ _ _ r h => by simp [spec_NextPairs.l0] at h, fun _ _ _ _ _ _ _ _ _ _ _ r h => by simp [spec_NextPairs.l1] at h⟩
 | k + 1 => by
  obtain ⟨ih0, ih1⟩ := spec_NextPairs.mono_l k
  refine ⟨?_, ?_⟩
  ·intro y0 y1 y2 y3 y4 y5 y6 y7 y8 y9 y10
   unfold spec_NextPairs.l0
   repeat' first
   | (with_reducible exact ih0 _ _ _ _ _ _ _ _ _ _ _)
   | (with_reducible exact ih1 _ _ _ _ _ _ _ _ _ _ _)
   | (with_reducible exact spec_MoveOf.mono _ _ _ _ _ _ _)
   | (with_reducible exact spec_MovesFrom.mono _ _ _ _ _ _)
   | (with_reducible exact LeO.refl _)
   | (with_reducible exact LeO.none _)
   | (with_reducible refine LeO.ite ?_ ?_)
   | (with_reducible refine LeO.bind ?_ (fun _ => ?_))
   | exact ih0 _ _ _ _ _ _ _ _ _ _ _
   | exact ih1 _ _ _ _ _ _ _ _ _ _ _
   | exact spec_MoveOf.mono _ _ _ _ _ _ _
   | exact spec_MovesFrom.mono _ _ _ _ _ _
   | exact LeO.none _
   | refine LeO.ite ?_ ?_
   | refine LeO.bind ?_ (fun _ => ?_)
  ·intro y0 y1 y2 y3 y4 y5 y6 y7 y8 y9 y10
   unfold spec_NextPairs.l1
   repeat' first
   | (with_reducible exact ih0 _ _ _ _ _ _ _ _ _ _ _)
   | (with_reducible exact ih1 _ _ _ _ _ _ _ _ _ _ _)
   | (with_reducible exact spec_MoveOf.mono _ _ _ _ _ _ _)
   | (with_reducible exact spec_MovesFrom.mono _ _ _ _ _ _)
   | (with_reducible exact LeO.refl _)
   | (with_reducible exact LeO.none _)
   | (with_reducible refine LeO.ite ?_ ?_)
   | (with_reducible refine LeO.bind ?_ (fun _ => ?_))
   | exact ih0 _ _ _ _ _ _ _ _ _ _ _
   | exact ih1 _ _ _ _ _ _ _ _ _ _ _
   | exact spec_MoveOf.mono _ _ _ _ _ _ _
   | exact spec_MovesFrom.mono _ _ _ _ _ _
   | exact LeO.none _
   | refine LeO.ite ?_ ?_
   | refine LeO.bind ?_ (fun _ => ?_)
theorem spec_NextPairs.mono : ∀ a0 a1 a2 a3 a4 a5 a6 a7 k, LeO (spec_NextPairs.f k a0 a1 a2 a3 a4 a5 a6 a7) (spec_NextPairs.f (k + 1) a0 a1 a2 a3 a4 a5 a6 a7) := by
 intro a0 a1 a2 a3 a4 a5 a6 a7 k
 obtain ⟨ih0, ih1⟩ := spec_NextPairs.mono_l k
 unfold spec_NextPairs.f
 repeat' first
   | (with_reducible exact ih0 _ _ _ _ _ _ _ _ _ _ _)
   | (with_reducible exact ih1 _ _ _ _ _ _ _ _ _ _ _)
   | (with_reducible exact spec_MoveOf.mono _ _ _ _ _ _ _)
   | (with_reducible exact spec_MovesFrom.mono _ _ _ _ _ _)
   | (with_reducible exact LeO.refl _)
   | (with_reducible exact LeO.none _)
   | (with_reducible refine LeO.ite ?_ ?_)
   | (with_reducible refine LeO.bind ?_ (fun _ => ?_))
   | exact ih0 _ _ _ _ _ _ _ _ _ _ _
   | exact ih1 _ _ _ _ _ _ _ _ _ _ _
   | exact spec_MoveOf.mono _ _ _ _ _ _ _
   | exact spec_MovesFrom.mono _ _ _ _ _ _
   | exact LeO.none _
   | refine LeO.ite ?_ ?_
   | refine LeO.bind ?_ (fun _ => ?_)
def spec_NextPairs.T6 : Bool × List (List Nat × List Nat) := (true, [([], []), ([], []), ([], []), ([], []), ([2, 3], [2, 3]), ([4], [4]), ([0, 1, 5], [0, 1, 5]), ([6, 6, 0, 1, 2, 3, 4, 5, 6], [6])])
def spec_NextPairs.B6 : List Nat := [0, 0, 0, 0, 12, 28, 63, 127]
theorem spec_NextPairs.tab6 : rtab .any (opsOf Try.f21 6) = spec_NextPairs.T6 := by kernel_rfl
theorem spec_NextPairs.bits6 : waitsOk spec_NextPairs.T6.2 spec_NextPairs.B6 = true := by kernel_rfl
def spec_NextPairs.T8 : Bool × List (List Nat × List Nat) := (true, [([], []), ([], []), ([1], [1]), ([], []), ([], []), ([], []), ([], []), ([5, 6], [5, 6]), ([7], [7]), ([3, 4, 8], [3, 4, 8]), ([2, 9], [2, 9]), ([10], [10]), ([11], [11]), ([], []), ([13], [13]), ([], []), ([14, 15], [14, 15]), ([16], [16]), ([17], [17]), ([12, 18], [12, 18]), ([19], [19]), ([0, 20, 9], [0, 20]), ([21, 21, 0, 1, 2, 3, 4, 5, 6, 7, 8, 9, 10, 11, 12, 13, 14, 15, 16, 17, 18, 19, 20, 21], [0, 21])])
def spec_NextPairs.B8 : List Nat := [0, 0, 2, 0, 0, 0, 0, 96, 224, 504, 1022, 2046, 4094, 0, 8192, 0, 57344, 122880, 253952, 524286, 1048574, 2097151, 4194303]
theorem spec_NextPairs.tab8 : rtab .any (opsOf Try.f21 8) = spec_NextPairs.T8 := by kernel_rfl
theorem spec_NextPairs.bits8 : waitsOk spec_NextPairs.T8.2 spec_NextPairs.B8 = true := by kernel_rfl
def spec_NextPairs.T13 : Bool × List (List Nat × List Nat) := (true, [([], []), ([], []), ([], []), ([], []), ([2, 3], [2, 3]), ([4], [4]), ([0, 1, 5], [0, 1, 5]), ([6, 6, 0, 1, 2, 3, 4, 5, 6], [6])])
def spec_NextPairs.B13 : List Nat := [0, 0, 0, 0, 12, 28, 63, 127]
theorem spec_NextPairs.tab13 : rtab .any (opsOf Try.f21 13) = spec_NextPairs.T13 := by kernel_rfl
theorem spec_NextPairs.bits13 : waitsOk spec_NextPairs.T13.2 spec_NextPairs.B13 = true := by kernel_rfl
def spec_NextPairs.T15 : Bool × List (List Nat × List Nat) := (true, [([], []), ([], []), ([1], [1]), ([], []), ([2, 3], [2, 3]), ([4], [4]), ([5], [5]), ([], []), ([7], [7]), ([], []), ([], []), ([], []), ([], []), ([11, 12], [11, 12]), ([13], [13]), ([9, 10, 14], [9, 10, 14]), ([8, 15], [8, 15]), ([16], [16]), ([17], [17]), ([6, 18], [6, 18]), ([19], [19]), ([0, 20, 15], [0, 20]), ([21, 21, 0, 1, 2, 3, 4, 5, 6, 7, 8, 9, 10, 11, 12, 13, 14, 15, 16, 17, 18, 19, 20, 21], [0, 21])])
def spec_NextPairs.B15 : List Nat := [0, 0, 2, 0, 14, 30, 62, 0, 128, 0, 0, 0, 0, 6144, 14336, 32256, 65408, 130944, 262016, 524286, 1048574, 2097151, 4194303]
theorem spec_NextPairs.tab15 : rtab .any (opsOf Try.f21 15) = spec_NextPairs.T15 := by kernel_rfl
theorem spec_NextPairs.bits15 : waitsOk spec_NextPairs.T15.2 spec_NextPairs.B15 = true := by kernel_rfl
set_option maxHeartbeats 8000000 in
set_option maxRecDepth 100000 in
theorem spec_NextPairs.calls (k : Nat) (a0_0 : Int) (A0_1 : Option Addr) (c0_1 : Nat) (l0_1 : List Bool) (A0_2 : Option Addr) (c0_2 : Nat) (l0_2 : List (S54)) (a1_0 : Int) (A1_1 : Option Addr) (c1_1 : Nat) (l1_1 : List Bool) (A1_2 : Option Addr) (c1_2 : Nat) (l1_2 : List (S54)) (a2 : Int) (a3 : Int) (r : List (List Int)) (w : World) (hr0_1 : Kd.C Kd.bool w A0_1 l0_1.length l0_1) (hc0_1 : l0_1.length ≤ c0_1) (hr0_2 : Kd.C k54 w A0_2 l0_2.length l0_2) (hc0_2 : l0_2.length ≤ c0_2) (hr1_1 : Kd.C Kd.bool w A1_1 l1_1.length l1_1) (hc1_1 : l1_1.length ≤ c1_1) (hr1_2 : Kd.C k54 w A1_2 l1_2.length l1_2) (hc1_2 : l1_2.length ≤ c1_2) (h : spec_NextPairs.f k a0_0 l0_1 l0_2 a1_0 l1_1 l1_2 a2 a3 = some r) :
  Calls Try.prog 21 #[.agg #[.int .i64 a0_0, .slice A0_1 l0_1.length c0_1, .slice A0_2 l0_2.length c0_2], .agg #[.int .i64 a1_0, .slice A1_1 l1_1.length c1_1, .slice A1_2 l1_2.length c1_2], .int .i64 a2, .int .i64 a3] w fun e w' => ∃ v0_ : Value, e = .returned (v0_) ∧ Kd.S (Kd.slice 3 (Kd.int .i64)) 37 w' w.heap.size (fun _ => True) v0_ r ∧ Below w.heap.size w w' := by
 have hu29 := Try.underlying29
 have HR0_1 := Aside0.mk hr0_1
 have HC0_1 := Aside0.mk hc0_1
 clear hr0_1 hc0_1
 have HR0_2 := Aside0.mk hr0_2
 have HC0_2 := Aside0.mk hc0_2
 clear hr0_2 hc0_2
 have HR1_1 := Aside0.mk hr1_1
 have HC1_1 := Aside0.mk hc1_1
 clear hr1_1 hc1_1
 have HR1_2 := Aside0.mk hr1_2
 have HC1_2 := Aside0.mk hc1_2
 clear hr1_2 hc1_2
 have HB := Aside0.mk (Below.refl w.heap.size w)
 have H : ((spec_MovesFrom.f k a0_0 l0_1 l0_2 a2 true).bind fun t211 => (spec_NextPairs.l0 k a2 a3 (([] : List (List Int))) t211 0 a0_0 l0_1 l0_2 a1_0 l1_1 l1_2)) = some r := h
 clear h
 obtain ⟨y208, hy208⟩ : ∃ y_ : List (List Int), y_ = (([] : List (List Int))) := ⟨_, rfl⟩
 replace H : ((spec_MovesFrom.f k a0_0 l0_1 l0_2 a2 true).bind fun t211 => (spec_NextPairs.l0 k a2 a3 y208 t211 0 a0_0 l0_1 l0_2 a1_0 l1_1 l1_2)) = some r := by first | (rw [hy208]; with_reducible exact H) | (have H2_ := (Option.bind_some _ _).symm.trans H; rw [hy208]; with_reducible exact H2_) | (have H2_ := (Option.bind_some _ _).symm.trans H; with_reducible exact H2_) | with_reducible exact H | (rw [hy208]; exact H) | exact H
 have Ny208 := Aside0.mk hy208
 clear hy208
 obtain ⟨t211, A5, H⟩ := bindS H
 have H' := Aside0.mk H
 clear H
 go_enter Try.func21, Try.ntmps21
 go_wp2_with (first | ((with_reducible refine gate_dst (N := 4) rfl ?_); refine box_event ?hg (N := 4) ?hd (cs := #[.int .i64 a0_0, .slice A0_1 l0_1.length c0_1, .slice A0_2 l0_2.length c0_2]) (t := 29) ?hr ?_; (case hd => rfl); (case hg => rfl); (case hr => first | (go_simp; done) | (go_simp; rfl)); intro gb206 hg w6 hbox hb; have BK206 := Aside0.mk (hbox); have GW206 := gS HB hg; have GE206 := gS HB hg; replace HB := bS HB hb; clear hb hbox hg) | ((with_reducible refine gate_dst (N := 5) rfl ?_); refine box_event ?hg (N := 5) ?hd (cs := #[.int .i64 a1_0, .slice A1_1 l1_1.length c1_1, .slice A1_2 l1_2.length c1_2]) (t := 29) ?hr ?_; (case hd => rfl); (case hg => rfl); (case hr => first | (go_simp; done) | (go_simp; rfl)); intro gb207 hg w7 hbox hb; have BK207 := Aside0.mk (hbox); have GW207 := gS HB hg; have GE207 := gS HB hg; replace HB := bS HB hb; have NB206_207 := nL BK206 hg; have NB207_206 := nR BK206 hg; replace BK206 := kB BK206 hb; clear hb hbox hg) | ((with_reducible refine gate_dst (N := 15) rfl ?_); refine Kd.S_lit (Kd.slice 3 (Kd.int .i64)) _ 37 ?hg (N := 15) ?hd (xs := ([] : List (List Int))) (inner := []) (ok := fun _ => True) (okp := fun _ => True) ?hr ?hp (fun _ hk => hk) trivial (Below.refl _ _) (Nat.le_refl _) (by simp) ?_; (case hd => rfl); (case hg => rfl); (case hr => first | (go_simp; done) | (go_simp; rfl)); (case hp => exact (Reps.none _ _)); intro v209 w8 ho9 hb hg_ hnew_; clear hg_ hnew_; (first | rw [← Ny208.out] at ho9 | (simp only [Int.reduceToNat] at ho9; rw [← Ny208.out] at ho9)); have HO210 := Aside0.mk (Kd.S_lower ho9 (below_size (zB HB))); replace BK206 := kB BK206 hb; replace BK207 := kB BK207 hb; replace HB := bS HB hb; clear hb ho9; have hnb10 := NB206_207.out; have hnc10 := NB207_206.out; have hcz11_0 := bc0 BK206; have hcz11_1 := bc1 BK206; have hcz11_2 := bc2 BK206; have hfz11_0 := bf BK206 0; have hfz11_1 := bf BK206 1; have hfz11_2 := bf BK206 2) | ((with_reducible refine gate_callee (f := 48) rfl ?_); refine goesL_ (some 18) rfl rfl Try.func48 (by kernel_rfl) rfl #[.agg #[.int .i64 a0_0, .slice A0_1 l0_1.length c0_1, .slice A0_2 l0_2.length c0_2], .int .i64 a2, .bool true] rfl zG ?_; (with_reducible refine (spec_MovesFrom.calls k a0_0 _ _ l0_1 _ _ l0_2 a2 true t211 _ ?side1 ?side2 ?side3 ?side4 A5.out).mono ?_); (case side1 => exact cS HR0_1 HB); (case side2 => exact HC0_1.out); (case side3 => exact cS HR0_2 HB); (case side4 => exact HC0_2.out); rintro e w12 ⟨v212, rfl, ho0, hb⟩; refine ⟨_, rfl, ?_⟩; replace HO210 := Aside0.mk (Kd.S_elder' (zS HO210) (Kd.R_base ho0) hb); have HO213 := Aside0.mk (Kd.R_lower ho0 (below_size (zB HB))); replace BK206 := kB BK206 hb; replace BK207 := kB BK207 hb; replace HB := bS HB hb; (try clear hb); (try clear ho0)))
 go_loopg [9, 11] k (fun kq v9 v11 w' => ∃ (x9_1 : List (List Int)) (x11_1 : Int), v11 = .int .i64 x11_1 ∧ Aside0 (spec_NextPairs.l0 kq a2 a3 x9_1 t211 x11_1 a0_0 l0_1 l0_2 a1_0 l1_1 l1_2 = some r) ∧ Aside0 (kq ≤ k) ∧ Aside0 (Kd.S (Kd.slice 3 (Kd.int .i64)) 37 w' w.heap.size (fun k_ => some k_ ≠ (v212 : Value).ownBlock) v9 x9_1) ∧ Aside0 (Kd.R (Kd.int .i64) 3 w' w.heap.size (fun _ => True) v212 t211) ∧ Aside0 (w'.heap[gb206]? = some (.cells #[.int .i64 a0_0, (.slice A0_1 l0_1.length c0_1), (.slice A0_2 l0_2.length c0_2)] 29 (0, 0))) ∧ Aside0 (w'.heap[gb207]? = some (.cells #[.int .i64 a1_0, (.slice A1_1 l1_1.length c1_1), (.slice A1_2 l1_2.length c1_2)] 29 (0, 0))) ∧ Aside0 (Below w.heap.size w w'))
 case atStart => exact ⟨(y208), (0), zF, H', ⟨Nat.le_refl _⟩, ⟨by (with_reducible repeat (first | apply Kd.S_alloc | apply Kd.S_drewN | apply Kd.S_drew)); exact Kd.S_mono HO210.out (fun _ hk => hk.2)⟩, ⟨zR HO213⟩, ⟨zK BK206⟩, ⟨zK BK207⟩, ⟨zB HB⟩⟩
 case round =>
  clear H'
  try clear c1
  try clear c2
  try clear p2
  try clear c4
  try clear c10
  try clear hcz11_0
  try clear hcz11_1
  try clear hcz11_2
  try clear hfz11_0
  try clear hfz11_1
  try clear hfz11_2
  obtain ⟨x9_1, x11_1, rfl, HA, HK1, HO_9, HO_10, BK206, BK207, HB⟩ := hrel
  cases gk with
  | zero => exact absurd HA.out (by simp [spec_NextPairs.l0])
  | succ k1 =>
   have H := HA.out
   clear HA
   simp only [spec_NextPairs.l0] at H
   by_cases c13 : x11_1 < (t211.length : Int)
   ·rw [if_pos c13] at H
    have c13b0 : decide (x11_1 < (t211.length : Int)) = true := decide_eq_true c13
    clear c13
    obtain ⟨c14, H⟩ := ifS H
    have c14b0 : decide (0 ≤ x11_1) = true := decide_eq_true c14
    clear c14
    obtain ⟨t215, A15, H⟩ := bindS H
    by_cases c16 : t215 ≥ 0
    ·rw [if_pos c16] at H
     have c16b0 : decide (0 ≤ t215) = true := decide_eq_true c16
     clear c16
     obtain ⟨t217, A17, H⟩ := bindS H
     obtain ⟨c18, H⟩ := ifS H
     have c18b0 : decide (0 ≤ t217) = true := decide_eq_true c18
     clear c18
     obtain ⟨c19, H⟩ := ifS H
     have c19b0 : decide (t217 < (l0_2.length : Int)) = true := decide_eq_true c19
     clear c19
     obtain ⟨c20, H⟩ := ifS H
     have c20b0 : decide (0 ≤ t215) = true := decide_eq_true c20
     clear c20
     obtain ⟨c21, H⟩ := ifS H
     have c21b0 : decide (t215 < (l1_2.length : Int)) = true := decide_eq_true c21
     clear c21
     obtain ⟨y220, hy220⟩ : ∃ y_ : List Int, y_ = (([(rd_T54 l0_2 t217).f3, (rd_T54 l1_2 t215).f3] : List Int)) := ⟨_, rfl⟩
     replace H : (if x9_1.length < 5864062014805 then (spec_NextPairs.l0 k1 a2 a3 (x9_1 ++ [y220]) t211 (wrap64 (x11_1 + 1)) a0_0 l0_1 l0_2 a1_0 l1_1 l1_2) else (none)) = some r := by first | (rw [hy220]; with_reducible exact H) | (have H2_ := (Option.bind_some _ _).symm.trans H; rw [hy220]; with_reducible exact H2_) | (have H2_ := (Option.bind_some _ _).symm.trans H; with_reducible exact H2_) | with_reducible exact H | (rw [hy220]; exact H) | exact H
     have Ny220 := Aside0.mk hy220
     clear hy220
     obtain ⟨c22, H⟩ := ifS H
     have LMc22 := Aside0.mk c22
     clear c22
     obtain ⟨y223, hy223⟩ : ∃ y_ : List (List Int), y_ = (x9_1 ++ [y220]) := ⟨_, rfl⟩
     replace H : (spec_NextPairs.l0 k1 a2 a3 y223 t211 (wrap64 (x11_1 + 1)) a0_0 l0_1 l0_2 a1_0 l1_1 l1_2) = some r := by first | (rw [hy223]; with_reducible exact H) | (have H2_ := (Option.bind_some _ _).symm.trans H; rw [hy223]; with_reducible exact H2_) | (have H2_ := (Option.bind_some _ _).symm.trans H; with_reducible exact H2_) | with_reducible exact H | (rw [hy223]; exact H) | exact H
     have Ny223 := Aside0.mk hy223
     clear hy223
     have H' := Aside0.mk H
     clear H
     obtain ⟨Ao23, co23, eo23⟩ := Kd.R_slice HO_10.out
     subst eo23
     try go_wp2
     replace HO_9 := Aside0.mk (Kd.S_drew HO_9.out)
     replace HO_10 := Aside0.mk (Kd.R_drew HO_10.out)
     replace BK206 := Aside0.mk (blk_drew BK206.out)
     replace BK207 := Aside0.mk (blk_drew BK207.out)
     replace HB := Aside0.mk (below_drew1 HB.out)
     have p214 : 0 ≤ (x11_1 : Int) := zD
     have q214 : x11_1 < (t211.length : Int) := zD
     obtain ⟨ad214, e214, hx214_0⟩ := Kd.at_int (Kd.R_reads' HO_10.out).2.2 x11_1 p214 q214
     cases e214
     replace p214 := eq_true p214
     replace q214 := eq_true q214
     refine start_ (n := 8) (S := fun w' => w'.cell? ⟨gb207, 0, none⟩ = some (.int .i64 a1_0) ∧ w'.cell? ⟨gb207, 1, none⟩ = some (.slice A1_1 l1_1.length c1_1) ∧ w'.cell? ⟨gb207, 2, none⟩ = some (.slice A1_2 l1_2.length c1_2) ∧ w'.cell? (ad214.add (x11_1).toNat) = some (.int .i64 (rd t211 x11_1))) (ds := []) (bm 8 0) (by kernel_rfl) rfl (bm0 _) ⟨bc0 BK207, bc1 BK207, bc2 BK207, hx214_0⟩ (fun hHeld => ?_); refine with_tabW spec_NextPairs.tab6 spec_NextPairs.bits6 (fun HT_ HW_ => ?_)
     generalize wr.drew = w24 at HO_9 HO_10 BK206 BK207 HB hx214_0 hHeld ⊢
     refine pU 1 (some 26) (bm 8 2) HT_ rfl rfl ?_
     refine pU 2 (some 27) (bm 8 6) HT_ rfl rfl ?_
     refine pU 3 (some 28) (bm 8 14) HT_ rfl rfl ?_
     refine pU 4 (some 29) (bm 8 30) HT_ rfl rfl ?_
     refine tU 0 (some 25) (bm 8 31) HT_ HW_ rfl rfl hHeld ?_
     refine tU 5 (some 30) (bm 8 63) HT_ HW_ rfl rfl hHeld ?_
     refine one_ (i := 6) (N := some 31) (bm 8 127) rfl rfl (one_of HT_.out (by kernel_rfl)) (by decide) (fun K hK => ?_)
     refine goes_ Try.func49 (by kernel_rfl) rfl #[.agg #[.int .i64 a1_0, .slice A1_1 l1_1.length c1_1, .slice A1_2 l1_2.length c1_2], .int .i64 a3, .bool false, .int .i64 (rd t211 x11_1)] (by rfl) rfl rfl zG ?_
     with_reducible refine (spec_MoveOf.calls k1 a1_0 _ _ l1_1 _ _ l1_2 a3 false (rd t211 x11_1) t215 _ ?side1 ?side2 ?side3 ?side4 A15.out).mono ?_
     (case side1 => exact cS HR1_1 HB)
     (case side2 => exact HC1_1.out)
     (case side3 => exact cS HR1_2 HB)
     (case side4 => exact HC1_2.out)
     rintro e w25 ⟨rfl, hb⟩
     have HS3_ := (hb.cell (World.block_lt_of_cell? _ _ (hHeld.2.2.2))).trans (hHeld.2.2.2)
     refine ⟨_, rfl, ?_⟩
     replace HO_9 := Aside0.mk (Kd.S_below (zS HO_9) hb)
     replace HO_10 := Aside0.mk (Kd.R_below (zR HO_10) hb)
     replace BK206 := kB BK206 hb
     replace BK207 := kB BK207 hb
     replace HB := bS HB hb
     (try clear hb)
     (try clear hb2)
     (try clear hk)
     (try clear hi)
     refine hK.out _ _ ⟨bc0 BK207, bc1 BK207, bc2 BK207, HS3_⟩ (fun hHeld => ?_)
     clear hK K
     refine norm_ (a' := ?_) ?_ ?_
     rotate_left
     ·show Act.put _ (some 31) _ = _
      simp only [Act.put, List.setIfInBounds_toArray, List.set_cons_zero, List.set_cons_succ, i64_w, i32_w]
      rfl
     refine pU 7 (some 12) (bm 8 255) HT_ rfl rfl ?_
     refine done_ (done_of HT_.out (by kernel_rfl)) ?_
     try clear hHeld
     try go_wp2
     replace HO_9 := Aside0.mk (Kd.S_drew HO_9.out)
     replace HO_10 := Aside0.mk (Kd.R_drew HO_10.out)
     replace BK206 := Aside0.mk (blk_drew BK206.out)
     replace BK207 := Aside0.mk (blk_drew BK207.out)
     replace HB := Aside0.mk (below_drew1 HB.out)
     have p216 : 0 ≤ (x11_1 : Int) := zD
     have q216 : x11_1 < (t211.length : Int) := zD
     obtain ⟨ad216, e216, hx216_0⟩ := Kd.at_int (Kd.R_reads' HO_10.out).2.2 x11_1 p216 q216
     obtain rfl : ad214 = ad216 := (by injection e216)
     replace p216 := eq_true p216
     replace q216 := eq_true q216
     have p219 : 0 ≤ (t215 : Int) := zD
     have q219 : t215 < (l1_2.length : Int) := zD
     obtain ⟨ad219, e219, hx219_0, hx219_1, hx219_2, hx219_3⟩ := at_T54 HR1_2.out t215 p219 q219
     have hw219_3 := hx219_3
     have hw219_2 := hx219_2
     have hw219_1 := hx219_1
     have hw219_0 := hx219_0
     cases e219
     replace hx219_0 := hL HB hx219_0
     replace hx219_1 := hL HB hx219_1
     replace hx219_2 := hL HB hx219_2
     replace hx219_3 := hL HB hx219_3
     replace p219 := eq_true p219
     replace q219 := eq_true q219
     have p218 : 0 ≤ (t217 : Int) := zD
     have q218 : t217 < (l0_2.length : Int) := zD
     obtain ⟨ad218, e218, hx218_0, hx218_1, hx218_2, hx218_3⟩ := at_T54 HR0_2.out t217 p218 q218
     have hw218_3 := hx218_3
     have hw218_2 := hx218_2
     have hw218_1 := hx218_1
     have hw218_0 := hx218_0
     cases e218
     replace hx218_0 := hL HB hx218_0
     replace hx218_1 := hL HB hx218_1
     replace hx218_2 := hL HB hx218_2
     replace hx218_3 := hL HB hx218_3
     replace p218 := eq_true p218
     replace q218 := eq_true q218
     refine start_ (n := 23) (S := fun w' => w'.cell? ⟨gb206, 0, none⟩ = some (.int .i64 a0_0) ∧ w'.cell? ⟨gb206, 1, none⟩ = some (.slice A0_1 l0_1.length c0_1) ∧ w'.cell? ⟨gb206, 2, none⟩ = some (.slice (some ad218) l0_2.length c0_2) ∧ w'.cell? ⟨gb207, 0, none⟩ = some (.int .i64 a1_0) ∧ w'.cell? ⟨gb207, 1, none⟩ = some (.slice A1_1 l1_1.length c1_1) ∧ w'.cell? ⟨gb207, 2, none⟩ = some (.slice (some ad219) l1_2.length c1_2) ∧ w'.cell? (ad214.add (x11_1).toNat) = some (.int .i64 (rd t211 x11_1)) ∧ w'.cell? (ad219.add ((t215).toNat * 4)) = some (.int .i64 ((rd_T54 l1_2 t215).f0)) ∧ w'.cell? ⟨(ad219.add ((t215).toNat * 4)).block, (ad219.add ((t215).toNat * 4)).off + 1, none⟩ = some (.bool ((rd_T54 l1_2 t215).f1)) ∧ w'.cell? ⟨(ad219.add ((t215).toNat * 4)).block, (ad219.add ((t215).toNat * 4)).off + 2, none⟩ = some (.int .i64 ((rd_T54 l1_2 t215).f2)) ∧ w'.cell? ⟨(ad219.add ((t215).toNat * 4)).block, (ad219.add ((t215).toNat * 4)).off + 3, none⟩ = some (.int .i64 ((rd_T54 l1_2 t215).f3)) ∧ w'.cell? (ad218.add ((t217).toNat * 4)) = some (.int .i64 ((rd_T54 l0_2 t217).f0)) ∧ w'.cell? ⟨(ad218.add ((t217).toNat * 4)).block, (ad218.add ((t217).toNat * 4)).off + 1, none⟩ = some (.bool ((rd_T54 l0_2 t217).f1)) ∧ w'.cell? ⟨(ad218.add ((t217).toNat * 4)).block, (ad218.add ((t217).toNat * 4)).off + 2, none⟩ = some (.int .i64 ((rd_T54 l0_2 t217).f2)) ∧ w'.cell? ⟨(ad218.add ((t217).toNat * 4)).block, (ad218.add ((t217).toNat * 4)).off + 3, none⟩ = some (.int .i64 ((rd_T54 l0_2 t217).f3))) (ds := [20, 21]) (bm 23 0) (by kernel_rfl) rfl (bm0 _) ⟨bc0 BK206, bc1 BK206, bc2 BK206, bc0 BK207, bc1 BK207, bc2 BK207, hx216_0, (hL HB hw219_0), (hL HB hw219_1), (hL HB hw219_2), (hL HB hw219_3), (hL HB hw218_0), (hL HB hw218_1), (hL HB hw218_2), (hL HB hw218_3)⟩ (fun hHeld => ?_); refine with_tabW spec_NextPairs.tab8 spec_NextPairs.bits8 (fun HT_ HW_ => ?_)
     generalize w25.drew = w26 at HO_9 HO_10 BK206 BK207 HB hx216_0 hx218_0 hx218_1 hx218_2 hx218_3 hx219_0 hx219_1 hx219_2 hx219_3 hHeld ⊢
     refine pU 0 (some 34) (bm 23 1) HT_ rfl rfl ?_
     refine pU 1 (some 35) (bm 23 3) HT_ rfl rfl ?_
     refine pU 4 (some 38) (bm 23 19) HT_ rfl rfl ?_
     refine pU 5 (some 39) (bm 23 51) HT_ rfl rfl ?_
     refine pU 6 (some 40) (bm 23 115) HT_ rfl rfl ?_
     refine pU 7 (some 41) (bm 23 243) HT_ rfl rfl ?_
     refine pU 13 (some 47) (bm 23 8435) HT_ rfl rfl ?_
     refine pU 15 (some 49) (bm 23 41203) HT_ rfl rfl ?_
     refine tU 2 (some 36) (bm 23 41207) HT_ HW_ rfl rfl hHeld ?_
     refine tU 3 (some 37) (bm 23 41215) HT_ HW_ rfl rfl hHeld ?_
     refine tU 8 (some 42) (bm 23 41471) HT_ HW_ rfl rfl hHeld ?_
     refine tU 14 (some 48) (bm 23 57855) HT_ HW_ rfl rfl hHeld ?_
     refine pU 16 (some 50) (bm 23 123391) HT_ rfl rfl ?_
     refine pU 17 (some 51) (bm 23 254463) HT_ rfl rfl ?_
     refine tU 18 (some 52) (bm 23 516607) HT_ HW_ rfl rfl hHeld ?_
     refine one_ (i := 9) (N := some 43) (bm 23 517119) rfl rfl (one_of HT_.out (by kernel_rfl)) (by decide) (fun K hK => ?_)
     refine goes_ Try.func49 (by kernel_rfl) rfl #[.agg #[.int .i64 a0_0, .slice A0_1 l0_1.length c0_1, .slice (some ad218) l0_2.length c0_2], .int .i64 a2, .bool true, .int .i64 (rd t211 x11_1)] (by rfl) rfl rfl zG ?_
     with_reducible refine (spec_MoveOf.calls k1 a0_0 _ _ l0_1 _ _ l0_2 a2 true (rd t211 x11_1) t217 _ ?side1 ?side2 ?side3 ?side4 A17.out).mono ?_
     (case side1 => exact cS HR0_1 HB)
     (case side2 => exact HC0_1.out)
     (case side3 => exact cS HR0_2 HB)
     (case side4 => exact HC0_2.out)
     rintro e w27 ⟨rfl, hb⟩
     have HS6_ := (hb.cell (World.block_lt_of_cell? _ _ (hHeld.2.2.2.2.2.2.1))).trans (hHeld.2.2.2.2.2.2.1)
     refine ⟨_, rfl, ?_⟩
     replace HO_9 := Aside0.mk (Kd.S_below (zS HO_9) hb)
     replace HO_10 := Aside0.mk (Kd.R_below (zR HO_10) hb)
     replace BK206 := kB BK206 hb
     replace BK207 := kB BK207 hb
     replace HB := bS HB hb
     (try clear hb)
     (try clear hb2)
     (try clear hk)
     (try clear hi)
     refine hK.out _ _ ⟨bc0 BK206, bc1 BK206, bc2 BK206, bc0 BK207, bc1 BK207, bc2 BK207, HS6_, (hL HB hw219_0), (hL HB hw219_1), (hL HB hw219_2), (hL HB hw219_3), (hL HB hw218_0), (hL HB hw218_1), (hL HB hw218_2), (hL HB hw218_3)⟩ (fun hHeld => ?_)
     clear hK K
     refine norm_ (a' := ?_) ?_ ?_
     rotate_left
     ·show Act.put _ (some 43) _ = _
      simp only [Act.put, List.setIfInBounds_toArray, List.set_cons_zero, List.set_cons_succ, i64_w, i32_w]
      rfl
     refine pU 10 (some 44) (bm 23 518143) HT_ rfl rfl ?_
     refine pU 11 (some 45) (bm 23 520191) HT_ rfl rfl ?_
     refine tU 12 (some 46) (bm 23 524287) HT_ HW_ rfl rfl hHeld ?_
     refine one_ (i := 19) (N := some 53) (bm 23 1048575) rfl rfl (one_of HT_.out (by kernel_rfl)) (by decide) (fun K hK => ?_)
     refine Kd.R_lit_step (Kd.int .i64) _ 3 ?hg (N := 53) ?hd (xs := ([(rd_T54 l0_2 t217).f3, (rd_T54 l1_2 t215).f3] : List Int)) (inner := [.int .i64 ((rd_T54 l0_2 t217).f3), .int .i64 ((rd_T54 l1_2 t215).f3)]) (ok := fun _ => True) (okp := fun _ => True) ?hr ?hp (fun _ hk => hk) trivial (Below.refl _ _) (Nat.le_refl _) (by simp) ?_; (case hd => rfl); (case hg => rfl); (case hr => first | (go_simp; done) | (go_simp; rfl)); (case hp => exact (Reps.one (show Kd.M (Kd.int .i64) _ _ _ ((rd_T54 l0_2 t217).f3) [.int .i64 ((rd_T54 l0_2 t217).f3)] from rfl) (Reps.one (show Kd.M (Kd.int .i64) _ _ _ ((rd_T54 l1_2 t215).f3) [.int .i64 ((rd_T54 l1_2 t215).f3)] from rfl) (Reps.none _ _))))
     intro v221 w28 ho29 hb hg_ hnew_
     have HS6_ := (hb.cell (World.block_lt_of_cell? _ _ (hHeld.2.2.2.2.2.2.1))).trans (hHeld.2.2.2.2.2.2.1)
     clear hg_ hnew_
     (first | rw [← Ny220.out] at ho29 | (simp only [Int.reduceToNat] at ho29; rw [← Ny220.out] at ho29))
     replace HO_9 := Aside0.mk (Kd.S_elder' (zS HO_9) (Kd.R_base ho29) hb)
     have HO222 := Aside0.mk (Kd.R_lower (Kd.R_new' ho29 (Kd.R_lt (zR HO_10))) (below_size (zB HB)))
     replace HO_10 := Aside0.mk (Kd.R_elder' (zR HO_10) (Kd.R_base ho29) hb)
     replace BK206 := kB BK206 hb
     replace BK207 := kB BK207 hb
     replace HB := bS HB hb
     clear hb ho29
     obtain ⟨Ao31, co31, eo31⟩ := Kd.R_slice HO222.out
     (first | subst eo31 | (injection eo31 with f1_ f2_ f3_; have f4_ := f1_.symm; have f5_ := f3_.symm; clear f1_ f2_ f3_; subst f4_; subst f5_))
     refine hK.out _ _ ⟨bc0 BK206, bc1 BK206, bc2 BK206, bc0 BK207, bc1 BK207, bc2 BK207, HS6_, (hL HB hw219_0), (hL HB hw219_1), (hL HB hw219_2), (hL HB hw219_3), (hL HB hw218_0), (hL HB hw218_1), (hL HB hw218_2), (hL HB hw218_3)⟩ (fun hHeld => ?_)
     clear hK K
     refine norm_ (a' := ?_) ?_ ?_
     rotate_left
     ·show Act.put _ (some 53) _ = _
      simp only [Act.put, List.setIfInBounds_toArray, List.set_cons_zero, List.set_cons_succ, i64_w, i32_w]
      rfl
     refine last_ (i := 20) (N := some 54) (bm 23 2097151) rfl rfl (one_of HT_.out (by kernel_rfl)) (by decide) (fun K hK => ?_)
     refine value_ (w1 := ?_) (v := ?_) (by rfl) rfl ?_ ?_
     rotate_left 2
     ·go_simp
      constructor
      ·rfl
      ·rfl
     refine hK.out _ _ ?_
     clear hK K
     refine norm_ (a' := ?_) ?_ ?_
     rotate_left
     ·show Act.put _ (some 54) _ = _
      simp only [Act.put, List.setIfInBounds_toArray, List.set_cons_zero, List.set_cons_succ, i64_w, i32_w]
      rfl
     refine last_ (i := 21) (N := some 55) (bm 23 4194303) rfl rfl (one_of HT_.out (by kernel_rfl)) (by decide) (fun K hK => ?_)
     refine Kd.S_append_step (Kd.slice 3 (Kd.int .i64)) (w0 := w) w.heap.size (by rfl) (.tmp 34) (.tmp 54) 46 37 (.slice none 0 0) 24 rfl Try.underlying46 info37 rfl (by decide) (by omega) u9 x9_1 y220 [.slice Ao31 y220.length co31] (fun k_ => some k_ ≠ (.slice (some ad214) t211.length co23 : Value).ownBlock) (fun k_ => some k_ = (.slice Ao31 y220.length co31 : Value).ownBlock) rfl rfl ?aP (fun k_ hk_ => ((Kd.R_mono (ok' := fun k_ => ((fun k_ => some k_ ≠ (.slice (some ad214) t211.length co23 : Value).ownBlock)) k_ ∧ some k_ ≠ (u9 : Value).ownBlock) (Kd.R_apart' (HO222.out) (Kd.S_typed HO_9.out) (by decide)) (fun k_ hk => ⟨hk.1.2, hk.2⟩))).1 k_ hk_.symm) ?aF ?aO ?aB ?aS ?aL ?_
     (case aP => exact Kd.M_row (Kd.R_mono (Kd.R_tight rfl (Kd.R_mono (ok' := fun k_ => ((fun k_ => some k_ ≠ (.slice (some ad214) t211.length co23 : Value).ownBlock)) k_ ∧ some k_ ≠ (u9 : Value).ownBlock) (Kd.R_apart' (HO222.out) (Kd.S_typed HO_9.out) (by decide)) (fun k_ hk => ⟨hk.1.2, hk.2⟩))) (fun _ h_ => h_)))
     (case aB => exact (zB HB))
     (case aF => exact (fun k_ hk => Kd.fresh' (Kd.R_lt (zR HO_10)) k_ hk))
     (case aO => exact (by (with_reducible repeat (first | apply Kd.S_alloc | apply Kd.S_drewN | apply Kd.S_drew)); exact Kd.S_mono HO_9.out (fun k_ hk => ⟨hk.1, fun e_ => hk.2 e_⟩)))
     (case aS => exact (below_size (zB HB)))
     (case aL => have := LMc22.out; omega)
     intro v224 w30 ho hb hg hat
     rw [← Ny223.out] at ho
     replace HO_10 := Aside0.mk (Kd.R_over' (zR HO_10) (Kd.S_typed (zS HO_9)) (by decide) hg)
     replace BK206 := Aside0.mk (blk_grown (g := gb206) (o := .cells #[.int .i64 a0_0, .slice A0_1 l0_1.length c0_1, .slice (some ad218) l0_2.length c0_2] 29 (0, 0)) (zK BK206) hg (Kd.S_ne HO_9.out BK206.out (by decide)))
     replace BK207 := Aside0.mk (blk_grown (g := gb207) (o := .cells #[.int .i64 a1_0, .slice A1_1 l1_1.length c1_1, .slice (some ad219) l1_2.length c1_2] 29 (0, 0)) (zK BK207) hg (Kd.S_ne HO_9.out BK207.out (by decide)))
     replace HB := Aside0.mk (hb)
     have HO225 := Aside0.mk (ho)
     clear HO_9 HO222
     clear ho hb hg hat
     refine hK.out _ _ ?_
     clear hK K
     refine norm_ (a' := ?_) ?_ ?_
     rotate_left
     ·show Act.put _ (some 55) _ = _
      simp only [Act.put, List.setIfInBounds_toArray, List.set_cons_zero, List.set_cons_succ, i64_w, i32_w]
      rfl
     refine pU 22 (some 9) (bm 23 8388607) HT_ rfl rfl ?_
     refine done_ (done_of HT_.out (by kernel_rfl)) ?_
     try clear hHeld
     try go_wp2
     go_roundg k1
     case measure => have := HK1.out; omega
     case rel => exact ⟨(y223), (wrap64 (x11_1 + 1)), zF, H', ⟨by have := HK1.out; omega⟩, ⟨zS HO225⟩, ⟨by (with_reducible repeat (first | apply Kd.R_alloc | apply Kd.R_drewN | apply Kd.R_drew)); exact Kd.R_mono HO_10.out (fun _ hk => trivial)⟩, ⟨zK BK206⟩, ⟨zK BK207⟩, ⟨zB HB⟩⟩
    ·rw [if_neg c16] at H
     have c16b0 : decide (0 ≤ t215) = false := decide_eq_false c16
     clear c16
     have H' := Aside0.mk H
     clear H
     obtain ⟨Ao32, co32, eo32⟩ := Kd.R_slice HO_10.out
     subst eo32
     try go_wp2
     replace HO_9 := Aside0.mk (Kd.S_drew HO_9.out)
     replace HO_10 := Aside0.mk (Kd.R_drew HO_10.out)
     replace BK206 := Aside0.mk (blk_drew BK206.out)
     replace BK207 := Aside0.mk (blk_drew BK207.out)
     replace HB := Aside0.mk (below_drew1 HB.out)
     have p214 : 0 ≤ (x11_1 : Int) := zD
     have q214 : x11_1 < (t211.length : Int) := zD
     obtain ⟨ad214, e214, hx214_0⟩ := Kd.at_int (Kd.R_reads' HO_10.out).2.2 x11_1 p214 q214
     cases e214
     replace p214 := eq_true p214
     replace q214 := eq_true q214
     refine start_ (n := 8) (S := fun w' => w'.cell? ⟨gb207, 0, none⟩ = some (.int .i64 a1_0) ∧ w'.cell? ⟨gb207, 1, none⟩ = some (.slice A1_1 l1_1.length c1_1) ∧ w'.cell? ⟨gb207, 2, none⟩ = some (.slice A1_2 l1_2.length c1_2) ∧ w'.cell? (ad214.add (x11_1).toNat) = some (.int .i64 (rd t211 x11_1))) (ds := []) (bm 8 0) (by kernel_rfl) rfl (bm0 _) ⟨bc0 BK207, bc1 BK207, bc2 BK207, hx214_0⟩ (fun hHeld => ?_); refine with_tabW spec_NextPairs.tab6 spec_NextPairs.bits6 (fun HT_ HW_ => ?_)
     generalize wr.drew = w33 at HO_9 HO_10 BK206 BK207 HB hx214_0 hHeld ⊢
     refine pU 1 (some 26) (bm 8 2) HT_ rfl rfl ?_
     refine pU 2 (some 27) (bm 8 6) HT_ rfl rfl ?_
     refine pU 3 (some 28) (bm 8 14) HT_ rfl rfl ?_
     refine pU 4 (some 29) (bm 8 30) HT_ rfl rfl ?_
     refine tU 0 (some 25) (bm 8 31) HT_ HW_ rfl rfl hHeld ?_
     refine tU 5 (some 30) (bm 8 63) HT_ HW_ rfl rfl hHeld ?_
     refine one_ (i := 6) (N := some 31) (bm 8 127) rfl rfl (one_of HT_.out (by kernel_rfl)) (by decide) (fun K hK => ?_)
     refine goes_ Try.func49 (by kernel_rfl) rfl #[.agg #[.int .i64 a1_0, .slice A1_1 l1_1.length c1_1, .slice A1_2 l1_2.length c1_2], .int .i64 a3, .bool false, .int .i64 (rd t211 x11_1)] (by rfl) rfl rfl zG ?_
     with_reducible refine (spec_MoveOf.calls k1 a1_0 _ _ l1_1 _ _ l1_2 a3 false (rd t211 x11_1) t215 _ ?side1 ?side2 ?side3 ?side4 A15.out).mono ?_
     (case side1 => exact cS HR1_1 HB)
     (case side2 => exact HC1_1.out)
     (case side3 => exact cS HR1_2 HB)
     (case side4 => exact HC1_2.out)
     rintro e w34 ⟨rfl, hb⟩
     have HS3_ := (hb.cell (World.block_lt_of_cell? _ _ (hHeld.2.2.2))).trans (hHeld.2.2.2)
     refine ⟨_, rfl, ?_⟩
     replace HO_9 := Aside0.mk (Kd.S_below (zS HO_9) hb)
     replace HO_10 := Aside0.mk (Kd.R_below (zR HO_10) hb)
     replace BK206 := kB BK206 hb
     replace BK207 := kB BK207 hb
     replace HB := bS HB hb
     (try clear hb)
     (try clear hb2)
     (try clear hk)
     (try clear hi)
     refine hK.out _ _ ⟨bc0 BK207, bc1 BK207, bc2 BK207, HS3_⟩ (fun hHeld => ?_)
     clear hK K
     refine norm_ (a' := ?_) ?_ ?_
     rotate_left
     ·show Act.put _ (some 31) _ = _
      simp only [Act.put, List.setIfInBounds_toArray, List.set_cons_zero, List.set_cons_succ, i64_w, i32_w]
      rfl
     refine pU 7 (some 12) (bm 8 255) HT_ rfl rfl ?_
     refine done_ (done_of HT_.out (by kernel_rfl)) ?_
     try clear hHeld
     try go_wp2
     go_roundg k1
     case measure => have := HK1.out; omega
     case rel => exact ⟨(x9_1), (wrap64 (x11_1 + 1)), zF, H', ⟨by have := HK1.out; omega⟩, ⟨zS HO_9⟩, ⟨zR HO_10⟩, ⟨zK BK206⟩, ⟨zK BK207⟩, ⟨zB HB⟩⟩
   ·rw [if_neg c13] at H
    have c13b0 : decide (x11_1 < (t211.length : Int)) = false := decide_eq_false c13
    clear c13
    obtain ⟨t226, A35, H⟩ := bindS H
    have H' := Aside0.mk H
    clear H
    obtain ⟨Ao36, co36, eo36⟩ := Kd.R_slice HO_10.out
    subst eo36
    have hnb37 := NB207_206.out
    have hnc37 := NB206_207.out
    have hcz38_0 := bc0 BK207
    have hcz38_1 := bc1 BK207
    have hcz38_2 := bc2 BK207
    have hfz38_0 := bf BK207 0
    have hfz38_1 := bf BK207 1
    have hfz38_2 := bf BK207 2
    go_wp2_with (first | ((with_reducible refine gate_callee (f := 48) rfl ?_); refine goesL_ (some 58) rfl rfl Try.func48 (by kernel_rfl) rfl #[.agg #[.int .i64 a1_0, .slice A1_1 l1_1.length c1_1, .slice A1_2 l1_2.length c1_2], .int .i64 a3, .bool true] rfl zG ?_; (with_reducible refine (spec_MovesFrom.calls k1 a1_0 _ _ l1_1 _ _ l1_2 a3 true t226 _ ?side1 ?side2 ?side3 ?side4 A35.out).mono ?_); (case side1 => exact cS HR1_1 HB); (case side2 => exact HC1_1.out); (case side3 => exact cS HR1_2 HB); (case side4 => exact HC1_2.out); rintro e w39 ⟨v227, rfl, ho0, hb⟩; refine ⟨_, rfl, ?_⟩; replace HO_9 := Aside0.mk (Kd.S_elder' (zS HO_9) (Kd.R_base ho0) hb); have HO228 := Aside0.mk (Kd.R_lower (Kd.R_new' ho0 (Kd.R_lt (zR HO_10))) (below_size (zB HB))); replace HO_10 := Aside0.mk (Kd.R_elder' (zR HO_10) (Kd.R_base ho0) hb); replace BK206 := kB BK206 hb; replace BK207 := kB BK207 hb; replace HB := bS HB hb; (try clear hb); (try clear ho0)))
    go_loopg [9, 13] k1 (fun kq v9 v13 w' => ∃ (x9_2 : List (List Int)) (x13_2 : Int), v13 = .int .i64 x13_2 ∧ Aside0 (spec_NextPairs.l1 kq a2 a3 x9_2 t226 x13_2 a0_0 l0_1 l0_2 a1_0 l1_1 l1_2 = some r) ∧ Aside0 (kq ≤ k1) ∧ Aside0 (Kd.S (Kd.slice 3 (Kd.int .i64)) 37 w' w.heap.size (fun k_ => some k_ ≠ (v227 : Value).ownBlock) v9 x9_2) ∧ Aside0 (Kd.R (Kd.int .i64) 3 w' w.heap.size (fun _ => True) v227 t226) ∧ Aside0 (w'.heap[gb206]? = some (.cells #[.int .i64 a0_0, (.slice A0_1 l0_1.length c0_1), (.slice A0_2 l0_2.length c0_2)] 29 (0, 0))) ∧ Aside0 (w'.heap[gb207]? = some (.cells #[.int .i64 a1_0, (.slice A1_1 l1_1.length c1_1), (.slice A1_2 l1_2.length c1_2)] 29 (0, 0))) ∧ Aside0 (Below w.heap.size w w'))
    case atStart => exact ⟨(x9_1), (0), zF, H', ⟨Nat.le_refl _⟩, ⟨by (with_reducible repeat (first | apply Kd.S_alloc | apply Kd.S_drewN | apply Kd.S_drew)); exact Kd.S_mono HO_9.out (fun _ hk => hk.2)⟩, ⟨by (with_reducible repeat (first | apply Kd.R_alloc | apply Kd.R_drewN | apply Kd.R_drew)); exact Kd.R_mono HO228.out (fun _ hk => trivial)⟩, ⟨zK BK206⟩, ⟨zK BK207⟩, ⟨zB HB⟩⟩
    case round =>
     clear H'
     try clear c1
     try clear c2
     try clear p2
     try clear q2
     try clear hx2
     try clear c3
     try clear c4
     try clear p6
     try clear c13
     try clear c13b0
     try clear c14
     try clear c16
     try clear c16b0
     try clear c18
     try clear c19
     try clear c20
     try clear c21
     try clear p21
     try clear q21
     try clear hx21
     try clear c22
     try clear c37
     try clear hcz38_0
     try clear hcz38_1
     try clear hcz38_2
     try clear hfz38_0
     try clear hfz38_1
     try clear hfz38_2
     try clear hx214_0
     try clear hx216_0
     try clear hx218_0
     try clear hx218_1
     try clear hx218_2
     try clear hx218_3
     try clear hx219_0
     try clear hx219_1
     try clear hx219_2
     try clear hx219_3
     try clear p214
     try clear p216
     try clear p218
     try clear p219
     try clear q214
     try clear q216
     try clear q218
     try clear q219
     obtain ⟨x9_2, x13_2, rfl, HA, HK2, HO_9, HO_10, BK206, BK207, HB⟩ := hrel
     cases gk with
     | zero => exact absurd HA.out (by simp [spec_NextPairs.l1])
     | succ k2 =>
      have H := HA.out
      clear HA
      simp only [spec_NextPairs.l1] at H
      by_cases c40 : x13_2 < (t226.length : Int)
      ·rw [if_pos c40] at H
       have c40b0 : decide (x13_2 < (t226.length : Int)) = true := decide_eq_true c40
       clear c40
       obtain ⟨c41, H⟩ := ifS H
       have c41b0 : decide (0 ≤ x13_2) = true := decide_eq_true c41
       clear c41
       obtain ⟨t230, A42, H⟩ := bindS H
       by_cases c43 : t230 ≥ 0
       ·rw [if_pos c43] at H
        have c43b0 : decide (0 ≤ t230) = true := decide_eq_true c43
        clear c43
        obtain ⟨c44, H⟩ := ifS H
        have c44b0 : decide (0 ≤ t230) = true := decide_eq_true c44
        clear c44
        obtain ⟨c45, H⟩ := ifS H
        have c45b0 : decide (t230 < (l0_2.length : Int)) = true := decide_eq_true c45
        clear c45
        obtain ⟨t233, A46, H⟩ := bindS H
        obtain ⟨c47, H⟩ := ifS H
        have c47b0 : decide (0 ≤ t233) = true := decide_eq_true c47
        clear c47
        obtain ⟨c48, H⟩ := ifS H
        have c48b0 : decide (t233 < (l1_2.length : Int)) = true := decide_eq_true c48
        clear c48
        obtain ⟨y235, hy235⟩ : ∃ y_ : List Int, y_ = (([(rd_T54 l0_2 t230).f3, (rd_T54 l1_2 t233).f3] : List Int)) := ⟨_, rfl⟩
        replace H : (if x9_2.length < 5864062014805 then (spec_NextPairs.l1 k2 a2 a3 (x9_2 ++ [y235]) t226 (wrap64 (x13_2 + 1)) a0_0 l0_1 l0_2 a1_0 l1_1 l1_2) else (none)) = some r := by first | (rw [hy235]; with_reducible exact H) | (have H2_ := (Option.bind_some _ _).symm.trans H; rw [hy235]; with_reducible exact H2_) | (have H2_ := (Option.bind_some _ _).symm.trans H; with_reducible exact H2_) | with_reducible exact H | (rw [hy235]; exact H) | exact H
        have Ny235 := Aside0.mk hy235
        clear hy235
        obtain ⟨c49, H⟩ := ifS H
        have LMc49 := Aside0.mk c49
        clear c49
        obtain ⟨y238, hy238⟩ : ∃ y_ : List (List Int), y_ = (x9_2 ++ [y235]) := ⟨_, rfl⟩
        replace H : (spec_NextPairs.l1 k2 a2 a3 y238 t226 (wrap64 (x13_2 + 1)) a0_0 l0_1 l0_2 a1_0 l1_1 l1_2) = some r := by first | (rw [hy238]; with_reducible exact H) | (have H2_ := (Option.bind_some _ _).symm.trans H; rw [hy238]; with_reducible exact H2_) | (have H2_ := (Option.bind_some _ _).symm.trans H; with_reducible exact H2_) | with_reducible exact H | (rw [hy238]; exact H) | exact H
        have Ny238 := Aside0.mk hy238
        clear hy238
        have H' := Aside0.mk H
        clear H
        obtain ⟨Ao50, co50, eo50⟩ := Kd.R_slice HO_10.out
        subst eo50
        try go_wp2
        replace HO_9 := Aside0.mk (Kd.S_drew HO_9.out)
        replace HO_10 := Aside0.mk (Kd.R_drew HO_10.out)
        replace BK206 := Aside0.mk (blk_drew BK206.out)
        replace BK207 := Aside0.mk (blk_drew BK207.out)
        replace HB := Aside0.mk (below_drew1 HB.out)
        have p229 : 0 ≤ (x13_2 : Int) := zD
        have q229 : x13_2 < (t226.length : Int) := zD
        obtain ⟨ad229, e229, hx229_0⟩ := Kd.at_int (Kd.R_reads' HO_10.out).2.2 x13_2 p229 q229
        cases e229
        replace p229 := eq_true p229
        replace q229 := eq_true q229
        refine start_ (n := 8) (S := fun w' => w'.cell? ⟨gb206, 0, none⟩ = some (.int .i64 a0_0) ∧ w'.cell? ⟨gb206, 1, none⟩ = some (.slice A0_1 l0_1.length c0_1) ∧ w'.cell? ⟨gb206, 2, none⟩ = some (.slice A0_2 l0_2.length c0_2) ∧ w'.cell? (ad229.add (x13_2).toNat) = some (.int .i64 (rd t226 x13_2))) (ds := []) (bm 8 0) (by kernel_rfl) rfl (bm0 _) ⟨bc0 BK206, bc1 BK206, bc2 BK206, hx229_0⟩ (fun hHeld => ?_); refine with_tabW spec_NextPairs.tab13 spec_NextPairs.bits13 (fun HT_ HW_ => ?_)
        generalize wr.drew = w51 at HO_9 HO_10 BK206 BK207 HB hx229_0 hHeld ⊢
        refine pU 1 (some 66) (bm 8 2) HT_ rfl rfl ?_
        refine pU 2 (some 67) (bm 8 6) HT_ rfl rfl ?_
        refine pU 3 (some 68) (bm 8 14) HT_ rfl rfl ?_
        refine pU 4 (some 69) (bm 8 30) HT_ rfl rfl ?_
        refine tU 0 (some 65) (bm 8 31) HT_ HW_ rfl rfl hHeld ?_
        refine tU 5 (some 70) (bm 8 63) HT_ HW_ rfl rfl hHeld ?_
        refine one_ (i := 6) (N := some 71) (bm 8 127) rfl rfl (one_of HT_.out (by kernel_rfl)) (by decide) (fun K hK => ?_)
        refine goes_ Try.func49 (by kernel_rfl) rfl #[.agg #[.int .i64 a0_0, .slice A0_1 l0_1.length c0_1, .slice A0_2 l0_2.length c0_2], .int .i64 a2, .bool false, .int .i64 (rd t226 x13_2)] (by rfl) rfl rfl zG ?_
        with_reducible refine (spec_MoveOf.calls k2 a0_0 _ _ l0_1 _ _ l0_2 a2 false (rd t226 x13_2) t230 _ ?side1 ?side2 ?side3 ?side4 A42.out).mono ?_
        (case side1 => exact cS HR0_1 HB)
        (case side2 => exact HC0_1.out)
        (case side3 => exact cS HR0_2 HB)
        (case side4 => exact HC0_2.out)
        rintro e w52 ⟨rfl, hb⟩
        have HS3_ := (hb.cell (World.block_lt_of_cell? _ _ (hHeld.2.2.2))).trans (hHeld.2.2.2)
        refine ⟨_, rfl, ?_⟩
        replace HO_9 := Aside0.mk (Kd.S_below (zS HO_9) hb)
        replace HO_10 := Aside0.mk (Kd.R_below (zR HO_10) hb)
        replace BK206 := kB BK206 hb
        replace BK207 := kB BK207 hb
        replace HB := bS HB hb
        (try clear hb)
        (try clear hb2)
        (try clear hk)
        (try clear hi)
        refine hK.out _ _ ⟨bc0 BK206, bc1 BK206, bc2 BK206, HS3_⟩ (fun hHeld => ?_)
        clear hK K
        refine norm_ (a' := ?_) ?_ ?_
        rotate_left
        ·show Act.put _ (some 71) _ = _
         simp only [Act.put, List.setIfInBounds_toArray, List.set_cons_zero, List.set_cons_succ, i64_w, i32_w]
         rfl
        refine pU 7 (some 14) (bm 8 255) HT_ rfl rfl ?_
        refine done_ (done_of HT_.out (by kernel_rfl)) ?_
        try clear hHeld
        try go_wp2
        replace HO_9 := Aside0.mk (Kd.S_drew HO_9.out)
        replace HO_10 := Aside0.mk (Kd.R_drew HO_10.out)
        replace BK206 := Aside0.mk (blk_drew BK206.out)
        replace BK207 := Aside0.mk (blk_drew BK207.out)
        replace HB := Aside0.mk (below_drew1 HB.out)
        have p231 : 0 ≤ (t230 : Int) := zD
        have q231 : t230 < (l0_2.length : Int) := zD
        obtain ⟨ad231, e231, hx231_0, hx231_1, hx231_2, hx231_3⟩ := at_T54 HR0_2.out t230 p231 q231
        have hw231_3 := hx231_3
        have hw231_2 := hx231_2
        have hw231_1 := hx231_1
        have hw231_0 := hx231_0
        cases e231
        replace hx231_0 := hL HB hx231_0
        replace hx231_1 := hL HB hx231_1
        replace hx231_2 := hL HB hx231_2
        replace hx231_3 := hL HB hx231_3
        replace p231 := eq_true p231
        replace q231 := eq_true q231
        have p232 : 0 ≤ (x13_2 : Int) := zD
        have q232 : x13_2 < (t226.length : Int) := zD
        obtain ⟨ad232, e232, hx232_0⟩ := Kd.at_int (Kd.R_reads' HO_10.out).2.2 x13_2 p232 q232
        obtain rfl : ad229 = ad232 := (by injection e232)
        replace p232 := eq_true p232
        replace q232 := eq_true q232
        have p234 : 0 ≤ (t233 : Int) := zD
        have q234 : t233 < (l1_2.length : Int) := zD
        obtain ⟨ad234, e234, hx234_0, hx234_1, hx234_2, hx234_3⟩ := at_T54 HR1_2.out t233 p234 q234
        have hw234_3 := hx234_3
        have hw234_2 := hx234_2
        have hw234_1 := hx234_1
        have hw234_0 := hx234_0
        cases e234
        replace hx234_0 := hL HB hx234_0
        replace hx234_1 := hL HB hx234_1
        replace hx234_2 := hL HB hx234_2
        replace hx234_3 := hL HB hx234_3
        replace p234 := eq_true p234
        replace q234 := eq_true q234
        refine start_ (n := 23) (S := fun w' => w'.cell? ⟨gb206, 0, none⟩ = some (.int .i64 a0_0) ∧ w'.cell? ⟨gb206, 1, none⟩ = some (.slice A0_1 l0_1.length c0_1) ∧ w'.cell? ⟨gb206, 2, none⟩ = some (.slice (some ad231) l0_2.length c0_2) ∧ w'.cell? ⟨gb207, 0, none⟩ = some (.int .i64 a1_0) ∧ w'.cell? ⟨gb207, 1, none⟩ = some (.slice A1_1 l1_1.length c1_1) ∧ w'.cell? ⟨gb207, 2, none⟩ = some (.slice (some ad234) l1_2.length c1_2) ∧ w'.cell? (ad231.add ((t230).toNat * 4)) = some (.int .i64 ((rd_T54 l0_2 t230).f0)) ∧ w'.cell? ⟨(ad231.add ((t230).toNat * 4)).block, (ad231.add ((t230).toNat * 4)).off + 1, none⟩ = some (.bool ((rd_T54 l0_2 t230).f1)) ∧ w'.cell? ⟨(ad231.add ((t230).toNat * 4)).block, (ad231.add ((t230).toNat * 4)).off + 2, none⟩ = some (.int .i64 ((rd_T54 l0_2 t230).f2)) ∧ w'.cell? ⟨(ad231.add ((t230).toNat * 4)).block, (ad231.add ((t230).toNat * 4)).off + 3, none⟩ = some (.int .i64 ((rd_T54 l0_2 t230).f3)) ∧ w'.cell? (ad229.add (x13_2).toNat) = some (.int .i64 (rd t226 x13_2)) ∧ w'.cell? (ad234.add ((t233).toNat * 4)) = some (.int .i64 ((rd_T54 l1_2 t233).f0)) ∧ w'.cell? ⟨(ad234.add ((t233).toNat * 4)).block, (ad234.add ((t233).toNat * 4)).off + 1, none⟩ = some (.bool ((rd_T54 l1_2 t233).f1)) ∧ w'.cell? ⟨(ad234.add ((t233).toNat * 4)).block, (ad234.add ((t233).toNat * 4)).off + 2, none⟩ = some (.int .i64 ((rd_T54 l1_2 t233).f2)) ∧ w'.cell? ⟨(ad234.add ((t233).toNat * 4)).block, (ad234.add ((t233).toNat * 4)).off + 3, none⟩ = some (.int .i64 ((rd_T54 l1_2 t233).f3))) (ds := [20, 21]) (bm 23 0) (by kernel_rfl) rfl (bm0 _) ⟨bc0 BK206, bc1 BK206, bc2 BK206, bc0 BK207, bc1 BK207, bc2 BK207, (hL HB hw231_0), (hL HB hw231_1), (hL HB hw231_2), (hL HB hw231_3), hx232_0, (hL HB hw234_0), (hL HB hw234_1), (hL HB hw234_2), (hL HB hw234_3)⟩ (fun hHeld => ?_); refine with_tabW spec_NextPairs.tab15 spec_NextPairs.bits15 (fun HT_ HW_ => ?_)
        generalize w52.drew = w53 at HO_9 HO_10 BK206 BK207 HB hx231_0 hx231_1 hx231_2 hx231_3 hx232_0 hx234_0 hx234_1 hx234_2 hx234_3 hHeld ⊢
        refine pU 0 (some 74) (bm 23 1) HT_ rfl rfl ?_
        refine pU 1 (some 75) (bm 23 3) HT_ rfl rfl ?_
        refine pU 3 (some 77) (bm 23 11) HT_ rfl rfl ?_
        refine pU 7 (some 81) (bm 23 139) HT_ rfl rfl ?_
        refine pU 10 (some 84) (bm 23 1163) HT_ rfl rfl ?_
        refine pU 11 (some 85) (bm 23 3211) HT_ rfl rfl ?_
        refine pU 12 (some 86) (bm 23 7307) HT_ rfl rfl ?_
        refine pU 13 (some 87) (bm 23 15499) HT_ rfl rfl ?_
        refine tU 2 (some 76) (bm 23 15503) HT_ HW_ rfl rfl hHeld ?_
        refine pU 4 (some 78) (bm 23 15519) HT_ rfl rfl ?_
        refine pU 5 (some 79) (bm 23 15551) HT_ rfl rfl ?_
        refine tU 6 (some 80) (bm 23 15615) HT_ HW_ rfl rfl hHeld ?_
        refine tU 8 (some 82) (bm 23 15871) HT_ HW_ rfl rfl hHeld ?_
        refine tU 9 (some 83) (bm 23 16383) HT_ HW_ rfl rfl hHeld ?_
        refine tU 14 (some 88) (bm 23 32767) HT_ HW_ rfl rfl hHeld ?_
        refine one_ (i := 15) (N := some 89) (bm 23 65535) rfl rfl (one_of HT_.out (by kernel_rfl)) (by decide) (fun K hK => ?_)
        refine goes_ Try.func49 (by kernel_rfl) rfl #[.agg #[.int .i64 a1_0, .slice A1_1 l1_1.length c1_1, .slice (some ad234) l1_2.length c1_2], .int .i64 a3, .bool true, .int .i64 (rd t226 x13_2)] (by rfl) rfl rfl zG ?_
        with_reducible refine (spec_MoveOf.calls k2 a1_0 _ _ l1_1 _ _ l1_2 a3 true (rd t226 x13_2) t233 _ ?side1 ?side2 ?side3 ?side4 A46.out).mono ?_
        (case side1 => exact cS HR1_1 HB)
        (case side2 => exact HC1_1.out)
        (case side3 => exact cS HR1_2 HB)
        (case side4 => exact HC1_2.out)
        rintro e w54 ⟨rfl, hb⟩
        have HS10_ := (hb.cell (World.block_lt_of_cell? _ _ (hHeld.2.2.2.2.2.2.2.2.2.2.1))).trans (hHeld.2.2.2.2.2.2.2.2.2.2.1)
        refine ⟨_, rfl, ?_⟩
        replace HO_9 := Aside0.mk (Kd.S_below (zS HO_9) hb)
        replace HO_10 := Aside0.mk (Kd.R_below (zR HO_10) hb)
        replace BK206 := kB BK206 hb
        replace BK207 := kB BK207 hb
        replace HB := bS HB hb
        (try clear hb)
        (try clear hb2)
        (try clear hk)
        (try clear hi)
        refine hK.out _ _ ⟨bc0 BK206, bc1 BK206, bc2 BK206, bc0 BK207, bc1 BK207, bc2 BK207, (hL HB hw231_0), (hL HB hw231_1), (hL HB hw231_2), (hL HB hw231_3), HS10_, (hL HB hw234_0), (hL HB hw234_1), (hL HB hw234_2), (hL HB hw234_3)⟩ (fun hHeld => ?_)
        clear hK K
        refine norm_ (a' := ?_) ?_ ?_
        rotate_left
        ·show Act.put _ (some 89) _ = _
         simp only [Act.put, List.setIfInBounds_toArray, List.set_cons_zero, List.set_cons_succ, i64_w, i32_w]
         rfl
        refine pU 16 (some 90) (bm 23 131071) HT_ rfl rfl ?_
        refine pU 17 (some 91) (bm 23 262143) HT_ rfl rfl ?_
        refine tU 18 (some 92) (bm 23 524287) HT_ HW_ rfl rfl hHeld ?_
        refine one_ (i := 19) (N := some 93) (bm 23 1048575) rfl rfl (one_of HT_.out (by kernel_rfl)) (by decide) (fun K hK => ?_)
        refine Kd.R_lit_step (Kd.int .i64) _ 3 ?hg (N := 93) ?hd (xs := ([(rd_T54 l0_2 t230).f3, (rd_T54 l1_2 t233).f3] : List Int)) (inner := [.int .i64 ((rd_T54 l0_2 t230).f3), .int .i64 ((rd_T54 l1_2 t233).f3)]) (ok := fun _ => True) (okp := fun _ => True) ?hr ?hp (fun _ hk => hk) trivial (Below.refl _ _) (Nat.le_refl _) (by simp) ?_; (case hd => rfl); (case hg => rfl); (case hr => first | (go_simp; done) | (go_simp; rfl)); (case hp => exact (Reps.one (show Kd.M (Kd.int .i64) _ _ _ ((rd_T54 l0_2 t230).f3) [.int .i64 ((rd_T54 l0_2 t230).f3)] from rfl) (Reps.one (show Kd.M (Kd.int .i64) _ _ _ ((rd_T54 l1_2 t233).f3) [.int .i64 ((rd_T54 l1_2 t233).f3)] from rfl) (Reps.none _ _))))
        intro v236 w55 ho56 hb hg_ hnew_
        have HS10_ := (hb.cell (World.block_lt_of_cell? _ _ (hHeld.2.2.2.2.2.2.2.2.2.2.1))).trans (hHeld.2.2.2.2.2.2.2.2.2.2.1)
        clear hg_ hnew_
        (first | rw [← Ny235.out] at ho56 | (simp only [Int.reduceToNat] at ho56; rw [← Ny235.out] at ho56))
        replace HO_9 := Aside0.mk (Kd.S_elder' (zS HO_9) (Kd.R_base ho56) hb)
        have HO237 := Aside0.mk (Kd.R_lower (Kd.R_new' ho56 (Kd.R_lt (zR HO_10))) (below_size (zB HB)))
        replace HO_10 := Aside0.mk (Kd.R_elder' (zR HO_10) (Kd.R_base ho56) hb)
        replace BK206 := kB BK206 hb
        replace BK207 := kB BK207 hb
        replace HB := bS HB hb
        clear hb ho56
        obtain ⟨Ao58, co58, eo58⟩ := Kd.R_slice HO237.out
        (first | subst eo58 | (injection eo58 with f1_ f2_ f3_; have f4_ := f1_.symm; have f5_ := f3_.symm; clear f1_ f2_ f3_; subst f4_; subst f5_))
        refine hK.out _ _ ⟨bc0 BK206, bc1 BK206, bc2 BK206, bc0 BK207, bc1 BK207, bc2 BK207, (hL HB hw231_0), (hL HB hw231_1), (hL HB hw231_2), (hL HB hw231_3), HS10_, (hL HB hw234_0), (hL HB hw234_1), (hL HB hw234_2), (hL HB hw234_3)⟩ (fun hHeld => ?_)
        clear hK K
        refine norm_ (a' := ?_) ?_ ?_
        rotate_left
        ·show Act.put _ (some 93) _ = _
         simp only [Act.put, List.setIfInBounds_toArray, List.set_cons_zero, List.set_cons_succ, i64_w, i32_w]
         rfl
        refine last_ (i := 20) (N := some 94) (bm 23 2097151) rfl rfl (one_of HT_.out (by kernel_rfl)) (by decide) (fun K hK => ?_)
        refine value_ (w1 := ?_) (v := ?_) (by rfl) rfl ?_ ?_
        rotate_left 2
        ·go_simp
         constructor
         ·rfl
         ·rfl
        refine hK.out _ _ ?_
        clear hK K
        refine norm_ (a' := ?_) ?_ ?_
        rotate_left
        ·show Act.put _ (some 94) _ = _
         simp only [Act.put, List.setIfInBounds_toArray, List.set_cons_zero, List.set_cons_succ, i64_w, i32_w]
         rfl
        refine last_ (i := 21) (N := some 95) (bm 23 4194303) rfl rfl (one_of HT_.out (by kernel_rfl)) (by decide) (fun K hK => ?_)
        refine Kd.S_append_step (Kd.slice 3 (Kd.int .i64)) (w0 := w) w.heap.size (by rfl) (.tmp 74) (.tmp 94) 46 37 (.slice none 0 0) 24 rfl Try.underlying46 info37 rfl (by decide) (by omega) u9 x9_2 y235 [.slice Ao58 y235.length co58] (fun k_ => some k_ ≠ (.slice (some ad229) t226.length co50 : Value).ownBlock) (fun k_ => some k_ = (.slice Ao58 y235.length co58 : Value).ownBlock) rfl rfl ?aP (fun k_ hk_ => ((Kd.R_mono (ok' := fun k_ => ((fun k_ => some k_ ≠ (.slice (some ad229) t226.length co50 : Value).ownBlock)) k_ ∧ some k_ ≠ (u9 : Value).ownBlock) (Kd.R_apart' (HO237.out) (Kd.S_typed HO_9.out) (by decide)) (fun k_ hk => ⟨hk.1.2, hk.2⟩))).1 k_ hk_.symm) ?aF ?aO ?aB ?aS ?aL ?_
        (case aP => exact Kd.M_row (Kd.R_mono (Kd.R_tight rfl (Kd.R_mono (ok' := fun k_ => ((fun k_ => some k_ ≠ (.slice (some ad229) t226.length co50 : Value).ownBlock)) k_ ∧ some k_ ≠ (u9 : Value).ownBlock) (Kd.R_apart' (HO237.out) (Kd.S_typed HO_9.out) (by decide)) (fun k_ hk => ⟨hk.1.2, hk.2⟩))) (fun _ h_ => h_)))
        (case aB => exact (zB HB))
        (case aF => exact (fun k_ hk => Kd.fresh' (Kd.R_lt (zR HO_10)) k_ hk))
        (case aO => exact (by (with_reducible repeat (first | apply Kd.S_alloc | apply Kd.S_drewN | apply Kd.S_drew)); exact Kd.S_mono HO_9.out (fun k_ hk => ⟨hk.1, fun e_ => hk.2 e_⟩)))
        (case aS => exact (below_size (zB HB)))
        (case aL => have := LMc49.out; omega)
        intro v239 w57 ho hb hg hat
        rw [← Ny238.out] at ho
        replace HO_10 := Aside0.mk (Kd.R_over' (zR HO_10) (Kd.S_typed (zS HO_9)) (by decide) hg)
        replace BK206 := Aside0.mk (blk_grown (g := gb206) (o := .cells #[.int .i64 a0_0, .slice A0_1 l0_1.length c0_1, .slice (some ad231) l0_2.length c0_2] 29 (0, 0)) (zK BK206) hg (Kd.S_ne HO_9.out BK206.out (by decide)))
        replace BK207 := Aside0.mk (blk_grown (g := gb207) (o := .cells #[.int .i64 a1_0, .slice A1_1 l1_1.length c1_1, .slice (some ad234) l1_2.length c1_2] 29 (0, 0)) (zK BK207) hg (Kd.S_ne HO_9.out BK207.out (by decide)))
        replace HB := Aside0.mk (hb)
        have HO240 := Aside0.mk (ho)
        clear HO_9 HO237
        clear ho hb hg hat
        refine hK.out _ _ ?_
        clear hK K
        refine norm_ (a' := ?_) ?_ ?_
        rotate_left
        ·show Act.put _ (some 95) _ = _
         simp only [Act.put, List.setIfInBounds_toArray, List.set_cons_zero, List.set_cons_succ, i64_w, i32_w]
         rfl
        refine pU 22 (some 9) (bm 23 8388607) HT_ rfl rfl ?_
        refine done_ (done_of HT_.out (by kernel_rfl)) ?_
        try clear hHeld
        try go_wp2
        go_roundg k2
        case measure => have := HK1.out; have := HK2.out; omega
        case rel => exact ⟨(y238), (wrap64 (x13_2 + 1)), zF, H', ⟨by have := HK1.out; have := HK2.out; omega⟩, ⟨zS HO240⟩, ⟨by (with_reducible repeat (first | apply Kd.R_alloc | apply Kd.R_drewN | apply Kd.R_drew)); exact Kd.R_mono HO_10.out (fun _ hk => trivial)⟩, ⟨zK BK206⟩, ⟨zK BK207⟩, ⟨zB HB⟩⟩
       ·rw [if_neg c43] at H
        have c43b0 : decide (0 ≤ t230) = false := decide_eq_false c43
        clear c43
        have H' := Aside0.mk H
        clear H
        obtain ⟨Ao59, co59, eo59⟩ := Kd.R_slice HO_10.out
        subst eo59
        try go_wp2
        replace HO_9 := Aside0.mk (Kd.S_drew HO_9.out)
        replace HO_10 := Aside0.mk (Kd.R_drew HO_10.out)
        replace BK206 := Aside0.mk (blk_drew BK206.out)
        replace BK207 := Aside0.mk (blk_drew BK207.out)
        replace HB := Aside0.mk (below_drew1 HB.out)
        have p229 : 0 ≤ (x13_2 : Int) := zD
        have q229 : x13_2 < (t226.length : Int) := zD
        obtain ⟨ad229, e229, hx229_0⟩ := Kd.at_int (Kd.R_reads' HO_10.out).2.2 x13_2 p229 q229
        cases e229
        replace p229 := eq_true p229
        replace q229 := eq_true q229
        refine start_ (n := 8) (S := fun w' => w'.cell? ⟨gb206, 0, none⟩ = some (.int .i64 a0_0) ∧ w'.cell? ⟨gb206, 1, none⟩ = some (.slice A0_1 l0_1.length c0_1) ∧ w'.cell? ⟨gb206, 2, none⟩ = some (.slice A0_2 l0_2.length c0_2) ∧ w'.cell? (ad229.add (x13_2).toNat) = some (.int .i64 (rd t226 x13_2))) (ds := []) (bm 8 0) (by kernel_rfl) rfl (bm0 _) ⟨bc0 BK206, bc1 BK206, bc2 BK206, hx229_0⟩ (fun hHeld => ?_); refine with_tabW spec_NextPairs.tab13 spec_NextPairs.bits13 (fun HT_ HW_ => ?_)
        generalize wr.drew = w60 at HO_9 HO_10 BK206 BK207 HB hx229_0 hHeld ⊢
        refine pU 1 (some 66) (bm 8 2) HT_ rfl rfl ?_
        refine pU 2 (some 67) (bm 8 6) HT_ rfl rfl ?_
        refine pU 3 (some 68) (bm 8 14) HT_ rfl rfl ?_
        refine pU 4 (some 69) (bm 8 30) HT_ rfl rfl ?_
        refine tU 0 (some 65) (bm 8 31) HT_ HW_ rfl rfl hHeld ?_
        refine tU 5 (some 70) (bm 8 63) HT_ HW_ rfl rfl hHeld ?_
        refine one_ (i := 6) (N := some 71) (bm 8 127) rfl rfl (one_of HT_.out (by kernel_rfl)) (by decide) (fun K hK => ?_)
        refine goes_ Try.func49 (by kernel_rfl) rfl #[.agg #[.int .i64 a0_0, .slice A0_1 l0_1.length c0_1, .slice A0_2 l0_2.length c0_2], .int .i64 a2, .bool false, .int .i64 (rd t226 x13_2)] (by rfl) rfl rfl zG ?_
        with_reducible refine (spec_MoveOf.calls k2 a0_0 _ _ l0_1 _ _ l0_2 a2 false (rd t226 x13_2) t230 _ ?side1 ?side2 ?side3 ?side4 A42.out).mono ?_
        (case side1 => exact cS HR0_1 HB)
        (case side2 => exact HC0_1.out)
        (case side3 => exact cS HR0_2 HB)
        (case side4 => exact HC0_2.out)
        rintro e w61 ⟨rfl, hb⟩
        have HS3_ := (hb.cell (World.block_lt_of_cell? _ _ (hHeld.2.2.2))).trans (hHeld.2.2.2)
        refine ⟨_, rfl, ?_⟩
        replace HO_9 := Aside0.mk (Kd.S_below (zS HO_9) hb)
        replace HO_10 := Aside0.mk (Kd.R_below (zR HO_10) hb)
        replace BK206 := kB BK206 hb
        replace BK207 := kB BK207 hb
        replace HB := bS HB hb
        (try clear hb)
        (try clear hb2)
        (try clear hk)
        (try clear hi)
        refine hK.out _ _ ⟨bc0 BK206, bc1 BK206, bc2 BK206, HS3_⟩ (fun hHeld => ?_)
        clear hK K
        refine norm_ (a' := ?_) ?_ ?_
        rotate_left
        ·show Act.put _ (some 71) _ = _
         simp only [Act.put, List.setIfInBounds_toArray, List.set_cons_zero, List.set_cons_succ, i64_w, i32_w]
         rfl
        refine pU 7 (some 14) (bm 8 255) HT_ rfl rfl ?_
        refine done_ (done_of HT_.out (by kernel_rfl)) ?_
        try clear hHeld
        try go_wp2
        go_roundg k2
        case measure => have := HK1.out; have := HK2.out; omega
        case rel => exact ⟨(x9_2), (wrap64 (x13_2 + 1)), zF, H', ⟨by have := HK1.out; have := HK2.out; omega⟩, ⟨zS HO_9⟩, ⟨zR HO_10⟩, ⟨zK BK206⟩, ⟨zK BK207⟩, ⟨zB HB⟩⟩
      ·rw [if_neg c40] at H
       have c40b0 : decide (x13_2 < (t226.length : Int)) = false := decide_eq_false c40
       clear c40
       obtain rfl := Option.some.inj H
       obtain ⟨Ao62, co62, eo62⟩ := Kd.R_slice HO_10.out
       subst eo62
       go_wp2
       go_ret
       exact ⟨_, zE, by (with_reducible repeat (first | apply Kd.S_alloc | apply Kd.S_drewN | apply Kd.S_drew)); exact Kd.S_mono HO_9.out (fun _ hk => trivial), zB HB⟩

/-! ### slices_Sort_int_int: function 44 (by hand) -/
def slices_Sort_int_int.f (l0 : List Int) : Option (List Int) := if l0.length < 4611686018427387904 then some (l0.mergeSort fun x y => decide (x ≤ y)) else none
theorem slices_Sort_int_int.calls (P0_ : Nat → Prop) (u9000_ : Value) (l0 : List Int) (r : List Int) (w0 w : World) (hB : Below w0.heap.size w0 w) (ho0 : Kd.R (Kd.int .i64) 3 w w0.heap.size P0_ u9000_ l0) (h : slices_Sort_int_int.f l0 = some r) :
  Calls Try.prog 44 #[u9000_] w fun e w' => e = .returned (.tuple #[]) ∧ Kd.R (Kd.int .i64) 3 w' w0.heap.size (fun k_ => (P0_ k_ ∨ w.heap.size ≤ k_)) u9000_ r ∧ Below w0.heap.size w0 w' ∧ Kept w w' (fun k_ => P0_ k_) := by
 unfold slices_Sort_int_int.f at h
 by_cases hl : l0.length < 4611686018427387904
 ·rw [if_pos hl] at h
  exact Go.Proofs.Ytjlaogjikkckkaa.Hs.sort_calls (fun blk off cap zs w hH hb hz => Any.slices_Sort_int Try.lays189 blk off cap zs w hH hb hz) (fun p cap w => Any.slices_Sort_int_none Try.lays189 p cap w) P0_ u9000_ l0 r w0 w hB ho0 hl (Option.some.inj h).symm
 ·rw [if_neg hl] at h; cases h

/-! ### slices_Compact_int_int: function 45 (by hand) -/
def slices_Compact_int_int.f (l0 : List Int) : Option (List Int) := some (Go.Lib.compact l0)
theorem slices_Compact_int_int.calls (P0_ : Nat → Prop) (u9000_ : Value) (l0 : List Int) (r : List Int) (w0 w : World) (hB : Below w0.heap.size w0 w) (ho0 : Kd.R (Kd.int .i64) 3 w w0.heap.size P0_ u9000_ l0) (h : slices_Compact_int_int.f l0 = some r) :
  Calls Try.prog 45 #[u9000_] w fun e w' => ∃ v0_ : Value, e = .returned (v0_) ∧ Kd.R (Kd.int .i64) 3 w' w0.heap.size (fun k_ => (P0_ k_ ∨ w.heap.size ≤ k_)) v0_ r ∧ Below w0.heap.size w0 w' ∧ Kept w w' (fun k_ => P0_ k_) :=
 Go.Proofs.Ytjlaogjikkckkaa.Hs.compact_calls (fun blk off cap zs w hH hz hc => Any.slices_Compact_int Try.laysNm220 blk off cap zs w hH hz hc) (fun p cap w => Any.slices_Compact_int_empty Try.laysNm220 p cap w) P0_ u9000_ l0 r w0 w hB ho0 (Option.some.inj h).symm

end Go.Proofs.Ytjlaogjikkckkaa.PFnExactNextPairs
