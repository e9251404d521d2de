-- WRITTEN by pp.py, this session's own wrapper around the print; not trusted: Lean checks it
import Derived.Test.YtfibjclnaeocbaaPFnChainx0
import Derived.Test.YtfibjclnaeocbaaPFnChainx1
import Derived.Test.YtfibjclnaeocbaaPFnChainx7
import Derived.Test.YtfibjclnaeocbaaPFnChainx8
namespace Go.Proofs.Ytfibjclnaeocbaa.PFnChain
open Go.RowKit Go.Proofs.Ytfibjclnaeocbaa.Hw Go.Proofs.YtfibjclnaeocbaaW.PrintWords Go.Proofs.YtfibjclnaeocbaaW.PrintLast Go.Proofs.YtfibjclnaeocbaaW.PrintMore
attribute [local go_sem] max2_int min2_int max_two min_two max_three min_three max_four min_four   -- for this text's walks alone
set_option linter.unusedVariables false
set_option linter.unusedSimpArgs false
set_option linter.unusedSectionVars false

/-! ### impl_nextFollowed: function 53 -/
mutual
def impl_nextFollowed.l0 : Nat → Int → Int → List (List Int) → List Bool → Int → Int → Int → List Bool → List (S46) → Int → List Bool → List (S46) → Option ((List (List Int)))
 | 0, _, _, _, _, _, _, _, _, _, _, _, _ => none
 | k + 1, x2, x3, x9, x18, x19, x20, x356000, x356001, x356002, x357000, x357001, x357002 => if x20 < x19 then (if 0 ≤ x20 then (if x20 < (x18.length : Int) then ((impl_MovesFrom.f k x356000 x356001 x356002 x2 true).bind fun t364 => (if rdOf false x18 x20 = true then (impl_nextFollowed.j1 k x2 x3 x9 (rdOf false x18 x20) t364 x18 x19 x20 x356000 x356001 x356002 x357000 x357001 x357002) else ((impl_MovesFrom.f k x357000 x357001 x357002 x3 false).bind fun t367 => (impl_nextFollowed.j1 k x2 x3 x9 (rdOf false x18 x20) t367 x18 x19 x20 x356000 x356001 x356002 x357000 x357001 x357002)))) else (none)) else (none)) else (some x9)
def impl_nextFollowed.j1 : Nat → Int → Int → List (List Int) → Bool → List Int → List Bool → Int → Int → Int → List Bool → List (S46) → Int → List Bool → List (S46) → Option ((List (List Int)))
 | 0, _, _, _, _, _, _, _, _, _, _, _, _, _, _ => none
 | k + 1, x2, x3, x9, x11, x12, x18, x19, x20, x356000, x356001, x356002, x357000, x357001, x357002 => impl_nextFollowed.l1 k x2 x3 x9 x11 x18 x19 x20 x12 (x12.length : Int) 0 x356000 x356001 x356002 x357000 x357001 x357002
def impl_nextFollowed.l1 : Nat → Int → Int → List (List Int) → Bool → List Bool → Int → Int → List Int → Int → Int → Int → List Bool → List (S46) → Int → List Bool → List (S46) → Option ((List (List Int)))
 | 0, _, _, _, _, _, _, _, _, _, _, _, _, _, _, _, _ => none
 | k + 1, x2, x3, x9, x11, x18, x19, x20, x32, x33, x34, x356000, x356001, x356002, x357000, x357001, x357002 => if x34 < x33 then (if 0 ≤ x34 then (if x34 < (x32.length : Int) then ((impl_MoveOf.f x356000 x356001 x356002 x2 x11 (rd x32 x34)).bind fun t371 => ((impl_MoveOf.f x357000 x357001 x357002 x3 x11 (rd x32 x34)).bind fun t372 => (if t371 ≥ 0 then (if t372 ≥ 0 then (if 0 ≤ t371 then (if t371 < (x356002.length : Int) then (if 0 ≤ t372 then (if t372 < (x357002.length : Int) then (if x9.length < 5864062014805 then (impl_nextFollowed.l1 k x2 x3 (x9 ++ [(([(rd_T46 x356002 t371).f3, (rd_T46 x357002 t372).f3] : List Int))]) x11 x18 x19 x20 x32 x33 (wrap64 (x34 + 1)) x356000 x356001 x356002 x357000 x357001 x357002) else (none)) else (none)) else (none)) else (none)) else (none)) else (impl_nextFollowed.l1 k x2 x3 x9 x11 x18 x19 x20 x32 x33 (wrap64 (x34 + 1)) x356000 x356001 x356002 x357000 x357001 x357002)) else (impl_nextFollowed.l1 k x2 x3 x9 x11 x18 x19 x20 x32 x33 (wrap64 (x34 + 1)) x356000 x356001 x356002 x357000 x357001 x357002)))) else (none)) else (none)) else (impl_nextFollowed.l0 k x2 x3 x9 x18 x19 (wrap64 (x20 + 1)) x356000 x356001 x356002 x357000 x357001 x357002)
end
def impl_nextFollowed.f (k : Nat) (a0_0 : Int) (l0_1 : List Bool) (l0_2 : List (S46)) (a1_0 : Int) (l1_1 : List Bool) (l1_2 : List (S46)) (a2 : Int) (a3 : Int) : Option ((List (List Int))) := (some (([true, false] : List Bool) : List Bool)).bind fun y360 => (impl_nextFollowed.l0 k a2 a3 (([] : List (List Int))) y360 (y360.length : Int) 0 a0_0 l0_1 l0_2 a1_0 l1_1 l1_2)
theorem impl_nextFollowed.mono_l : ∀ k, (∀ y0 y1 y2 y3 y4 y5 y6 y7 y8 y9 y10 y11, LeO (impl_nextFollowed.l0 k y0 y1 y2 y3 y4 y5 y6 y7 y8 y9 y10 y11) (impl_nextFollowed.l0 (k + 1) y0 y1 y2 y3 y4 y5 y6 y7 y8 y9 y10 y11)) ∧ (∀ y0 y1 y2 y3 y4 y5 y6 y7 y8 y9 y10 y11 y12 y13, LeO (impl_nextFollowed.j1 k y0 y1 y2 y3 y4 y5 y6 y7 y8 y9 y10 y11 y12 y13) (impl_nextFollowed.j1 (k + 1) y0 y1 y2 y3 y4 y5 y6 y7 y8 y9 y10 y11 y12 y13)) ∧ (∀ y0 y1 y2 y3 y4 y5 y6 y7 y8 y9 y10 y11 y12 y13 y14 y15, LeO (impl_nextFollowed.l1 k y0 y1 y2 y3 y4 y5 y6 y7 y8 y9 y10 y11 y12 y13 y14 y15) (impl_nextFollowed.l1 (k + 1) y0 y1 y2 y3 y4 y5 y6 y7 y8 y9 y10 y11 y12 y13 y14 y15))
 | 0 => ⟨fun _ _ _ _ _ _ _ _ _ _ _ _ r h => by simp [impl_nextFollowed.l0] at h, fun _ _ _ _ _ _ _ _ _ _ _ _ _ _ r h => by simp [impl_nextFollowed.j1] at h, fun _ _ _ _ _ _ _ _ _ _ _ _ _ _ _ _ r h => by simp [impl_nextFollowed.l1] at h⟩
 | k + 1 => by
  obtain ⟨ih0, ih1, ih2⟩ := impl_nextFollowed.mono_l k
  refine ⟨?a0, ?a1, ?a2⟩
  case' a0 => intros; unfold impl_nextFollowed.l0
  case' a1 => intros; unfold impl_nextFollowed.j1
  case' a2 => intros; unfold impl_nextFollowed.l1
  all_goals repeat' first
  | (with_reducible exact ih0 _ _ _ _ _ _ _ _ _ _ _ _)
  | (with_reducible exact ih1 _ _ _ _ _ _ _ _ _ _ _ _ _ _)
  | (with_reducible exact ih2 _ _ _ _ _ _ _ _ _ _ _ _ _ _ _ _)
  | (with_reducible exact impl_MovesFrom.mono _ _ _ _ _ _)
  | (with_reducible exact LeO.refl _)
  | (with_reducible exact LeO.none _)
  | (with_reducible refine LeO.ite ?_ ?_)
  | (with_reducible refine LeO.bind ?_ (fun _ => ?_))
  | exact ih0 _ _ _ _ _ _ _ _ _ _ _ _
  | exact ih1 _ _ _ _ _ _ _ _ _ _ _ _ _ _
  | exact ih2 _ _ _ _ _ _ _ _ _ _ _ _ _ _ _ _
  | exact impl_MovesFrom.mono _ _ _ _ _ _
  | exact LeO.none _
  | refine LeO.ite ?_ ?_
  | refine LeO.bind ?_ (fun _ => ?_)
theorem impl_nextFollowed.mono : ∀ a0 a1 a2 a3 a4 a5 a6 a7 k, LeO (impl_nextFollowed.f k a0 a1 a2 a3 a4 a5 a6 a7) (impl_nextFollowed.f (k + 1) a0 a1 a2 a3 a4 a5 a6 a7) := by
 intro a0 a1 a2 a3 a4 a5 a6 a7 k
 obtain ⟨ih0, ih1, ih2⟩ := impl_nextFollowed.mono_l k
 unfold impl_nextFollowed.f
 repeat' first
   | (with_reducible exact ih0 _ _ _ _ _ _ _ _ _ _ _ _)
   | (with_reducible exact ih1 _ _ _ _ _ _ _ _ _ _ _ _ _ _)
   | (with_reducible exact ih2 _ _ _ _ _ _ _ _ _ _ _ _ _ _ _ _)
   | (with_reducible exact impl_MovesFrom.mono _ _ _ _ _ _)
   | (with_reducible exact LeO.refl _)
   | (with_reducible exact LeO.none _)
   | (with_reducible refine LeO.ite ?_ ?_)
   | (with_reducible refine LeO.bind ?_ (fun _ => ?_))
   | exact ih0 _ _ _ _ _ _ _ _ _ _ _ _
   | exact ih1 _ _ _ _ _ _ _ _ _ _ _ _ _ _
   | exact ih2 _ _ _ _ _ _ _ _ _ _ _ _ _ _ _ _
   | exact impl_MovesFrom.mono _ _ _ _ _ _
   | exact LeO.none _
   | refine LeO.ite ?_ ?_
   | refine LeO.bind ?_ (fun _ => ?_)
def impl_nextFollowed.T11 : Bool × List (List Nat × List Nat) := (true, [([], []), ([], []), ([], []), ([], []), ([0, 1, 2, 3], [0, 1, 2, 3]), ([], []), ([], []), ([], []), ([], []), ([5, 6, 7, 8, 4], [5, 6, 7, 8]), ([4, 9, 0, 1, 2, 3, 4], [4]), ([9, 10, 0, 1, 2, 3, 4, 5, 6, 7, 8, 9, 10], [9])])
def impl_nextFollowed.B11 : List Nat := [0, 0, 0, 0, 15, 0, 0, 0, 0, 511, 1023, 2047]
theorem impl_nextFollowed.tab11 : rtab .any (opsOf Try.f53 11) = impl_nextFollowed.T11 := by kernel_rfl
theorem impl_nextFollowed.bits11 : waitsOk impl_nextFollowed.T11.2 impl_nextFollowed.B11 = true := by kernel_rfl
def impl_nextFollowed.T13 : Bool × List (List Nat × List Nat) := (true, [([], []), ([], []), ([1], [1]), ([], []), ([2, 3], [2, 3]), ([4], [4]), ([5], [5]), ([], []), ([7], [7]), ([], []), ([8, 9], [8, 9]), ([10], [10]), ([11], [11]), ([6, 12], [6, 12]), ([13], [13]), ([0, 14], [0, 14]), ([15, 15, 0, 1, 2, 3, 4, 5, 6, 7, 8, 9, 10, 11, 12, 13, 14, 15], [0, 15])])
def impl_nextFollowed.B13 : List Nat := [0, 0, 2, 0, 14, 30, 62, 0, 128, 0, 896, 1920, 3968, 8190, 16382, 32767, 65535]
theorem impl_nextFollowed.tab13 : rtab .any (opsOf Try.f53 13) = impl_nextFollowed.T13 := by kernel_rfl
theorem impl_nextFollowed.bits13 : waitsOk impl_nextFollowed.T13.2 impl_nextFollowed.B13 = true := by kernel_rfl
set_option maxHeartbeats 8000000 in
set_option maxRecDepth 100000 in
theorem impl_nextFollowed.calls (k : Nat) (a0_0 : Int) (A0_1 : Option Addr) (c0_1 : Nat) (l0_1 : List Bool) (A0_2 : Option Addr) (c0_2 : Nat) (l0_2 : List (S46)) (a1_0 : Int) (A1_1 : Option Addr) (c1_1 : Nat) (l1_1 : List Bool) (A1_2 : Option Addr) (c1_2 : Nat) (l1_2 : List (S46)) (a2 : Int) (a3 : Int) (r : List (List Int)) (w : World) (hr0_1 : Kd.C Kd.bool w A0_1 l0_1.length l0_1) (hc0_1 : l0_1.length ≤ c0_1) (hr0_2 : Kd.C k46 w A0_2 l0_2.length l0_2) (hc0_2 : l0_2.length ≤ c0_2) (hr1_1 : Kd.C Kd.bool w A1_1 l1_1.length l1_1) (hc1_1 : l1_1.length ≤ c1_1) (hr1_2 : Kd.C k46 w A1_2 l1_2.length l1_2) (hc1_2 : l1_2.length ≤ c1_2) (h : impl_nextFollowed.f k a0_0 l0_1 l0_2 a1_0 l1_1 l1_2 a2 a3 = some r) :
  Calls Try.prog 53 #[.agg #[.int .i64 a0_0, .slice A0_1 l0_1.length c0_1, .slice A0_2 l0_2.length c0_2], .agg #[.int .i64 a1_0, .slice A1_1 l1_1.length c1_1, .slice A1_2 l1_2.length c1_2], .int .i64 a2, .int .i64 a3] w fun e w' => ∃ v0_ : Value, e = .returned (v0_) ∧ Kd.S (Kd.slice 3 (Kd.int .i64)) 31 w' w.heap.size (fun _ => True) v0_ r ∧ Below w.heap.size w w' := by
 have hu27 := Try.underlying27
 have HR0_1 := Aside0.mk hr0_1
 have HC0_1 := Aside0.mk hc0_1
 clear hr0_1 hc0_1
 have HR0_2 := Aside0.mk hr0_2
 have HC0_2 := Aside0.mk hc0_2
 clear hr0_2 hc0_2
 have HR1_1 := Aside0.mk hr1_1
 have HC1_1 := Aside0.mk hc1_1
 clear hr1_1 hc1_1
 have HR1_2 := Aside0.mk hr1_2
 have HC1_2 := Aside0.mk hc1_2
 clear hr1_2 hc1_2
 have HB := Aside0.mk (Below.refl w.heap.size w)
 have H : ((some (([true, false] : List Bool) : List Bool)).bind fun y360 => (impl_nextFollowed.l0 k a2 a3 (([] : List (List Int))) y360 (y360.length : Int) 0 a0_0 l0_1 l0_2 a1_0 l1_1 l1_2)) = some r := h
 clear h
 obtain ⟨y357, hy357⟩ : ∃ y_ : List (List Int), y_ = (([] : List (List Int))) := ⟨_, rfl⟩
 replace H : ((some (([true, false] : List Bool) : List Bool)).bind fun y360 => (impl_nextFollowed.l0 k a2 a3 y357 y360 (y360.length : Int) 0 a0_0 l0_1 l0_2 a1_0 l1_1 l1_2)) = some r := by first | (rw [hy357]; with_reducible exact H) | (rw [hy357]; exact H) | exact H
 have Ny357 := Aside0.mk hy357
 clear hy357
 obtain ⟨y360, hy360⟩ : ∃ y_ : List Bool, y_ = (([true, false] : List Bool)) := ⟨_, rfl⟩
 replace H : (impl_nextFollowed.l0 k a2 a3 y357 y360 (y360.length : Int) 0 a0_0 l0_1 l0_2 a1_0 l1_1 l1_2) = some r := by first | (rw [hy360]; with_reducible exact H) | (rw [hy360]; exact H) | exact H
 have Ny360 := Aside0.mk hy360
 clear hy360
 have H' := Aside0.mk H
 clear H
 go_enter Try.func53, Try.ntmps53
 go_wp2_with (first | ((with_reducible refine gate_dst (N := 4) rfl ?_); refine box_event ?hg (N := 4) ?hd (cs := #[.int .i64 a0_0, .slice A0_1 l0_1.length c0_1, .slice A0_2 l0_2.length c0_2]) (t := 27) ?hr ?_; (case hd => rfl); (case hg => rfl); (case hr => first | (go_simp; done) | (go_simp; rfl)); intro gb355 hg w5 hbox hb; have BK355 := Aside0.mk (hbox); have GW355 := gS HB hg; have GE355 := gS HB hg; replace HB := bS HB hb; clear hb hbox hg) | ((with_reducible refine gate_dst (N := 5) rfl ?_); refine box_event ?hg (N := 5) ?hd (cs := #[.int .i64 a1_0, .slice A1_1 l1_1.length c1_1, .slice A1_2 l1_2.length c1_2]) (t := 27) ?hr ?_; (case hd => rfl); (case hg => rfl); (case hr => first | (go_simp; done) | (go_simp; rfl)); intro gb356 hg w6 hbox hb; have BK356 := Aside0.mk (hbox); have GW356 := gS HB hg; have GE356 := gS HB hg; replace HB := bS HB hb; have NB355_356 := nL BK355 hg; have NB356_355 := nR BK355 hg; replace BK355 := kB BK355 hb; clear hb hbox hg) | ((with_reducible refine gate_dst (N := 17) rfl ?_); refine Kd.S_lit (Kd.slice 3 (Kd.int .i64)) _ 31 ?hg (N := 17) ?hd (xs := ([] : List (List Int))) (inner := []) (ok := fun _ => True) (okp := fun _ => True) ?hr ?hp (fun _ hk => hk) trivial (Below.refl _ _) (Nat.le_refl _) (by simp) ?_; (case hd => rfl); (case hg => rfl); (case hr => first | (go_simp; done) | (go_simp; rfl)); (case hp => exact (Reps.none _ _)); intro v358 w7 ho8 hb hg_ hnew_; clear hg_ hnew_; (first | rw [← Ny357.out] at ho8 | (simp only [Int.reduceToNat] at ho8; rw [← Ny357.out] at ho8)); have HO359 := Aside0.mk (Kd.S_lower ho8 (below_size (zB HB))); replace BK355 := kB BK355 hb; replace BK356 := kB BK356 hb; replace HB := bS HB hb; clear hb ho8) | ((with_reducible refine gate_dst (N := 18) rfl ?_); refine Kd.R_lit Kd.bool _ 4 ?hg (N := 18) ?hd (xs := ([true, false] : List Bool)) (inner := [.bool true, .bool false]) (ok := fun _ => True) (okp := fun _ => True) ?hr ?hp (fun _ hk => hk) trivial (Below.refl _ _) (Nat.le_refl _) (by simp) ?_; (case hd => rfl); (case hg => rfl); (case hr => first | (go_simp; done) | (go_simp; rfl)); (case hp => exact (Reps.one (show Kd.M Kd.bool _ _ _ true [.bool true] from rfl) (Reps.one (show Kd.M Kd.bool _ _ _ false [.bool false] from rfl) (Reps.none _ _)))); intro v361 w9 ho10 hb hg_ hnew_; clear hg_ hnew_; (first | rw [← Ny360.out] at ho10 | (simp only [Int.reduceToNat] at ho10; rw [← Ny360.out] at ho10)); replace HO359 := Aside0.mk (Kd.S_below (zS HO359) hb); have HO362 := Aside0.mk (Kd.R_lower ho10 (below_size (zB HB))); replace BK355 := kB BK355 hb; replace BK356 := kB BK356 hb; replace HB := bS HB hb; clear hb ho10; obtain ⟨Ao11, co11, eo11⟩ := Kd.R_slice HO362.out; subst eo11))
 go_loopg [9, 20] k (fun kq v9 v20 w' => ∃ (x9_1 : List (List Int)) (x20_1 : Int), v20 = .int .i64 x20_1 ∧ Aside0 (impl_nextFollowed.l0 kq a2 a3 x9_1 y360 (y360.length : Int) x20_1 a0_0 l0_1 l0_2 a1_0 l1_1 l1_2 = some r) ∧ Aside0 (kq ≤ k) ∧ Aside0 (Kd.S (Kd.slice 3 (Kd.int .i64)) 31 w' w.heap.size (fun _ => True) v9 x9_1) ∧ Aside0 (Kd.R Kd.bool 4 w' w.heap.size (fun _ => True) (.slice Ao11 y360.length co11) y360) ∧ Aside0 (w'.heap[gb355]? = some (.cells #[.int .i64 a0_0, (.slice A0_1 l0_1.length c0_1), (.slice A0_2 l0_2.length c0_2)] 27 (0, 0))) ∧ Aside0 (w'.heap[gb356]? = some (.cells #[.int .i64 a1_0, (.slice A1_1 l1_1.length c1_1), (.slice A1_2 l1_2.length c1_2)] 27 (0, 0))) ∧ Aside0 (Below w.heap.size w w'))
 case atStart => exact ⟨(y357), (0), zF, H', ⟨Nat.le_refl _⟩, ⟨zS HO359⟩, ⟨zR HO362⟩, ⟨zK BK355⟩, ⟨zK BK356⟩, ⟨zB HB⟩⟩
 case round =>
  clear H'
  try clear c1
  try clear p2
  try clear c5
  obtain ⟨x9_1, x20_1, rfl, HA, HK1, HO_9, HO_18, BK355, BK356, HB⟩ := hrel
  cases gk with
  | zero => exact absurd HA.out (by simp [impl_nextFollowed.l0])
  | succ k1 =>
   have H := HA.out
   clear HA
   simp only [impl_nextFollowed.l0] at H
   by_cases c12 : x20_1 < (y360.length : Int)
   ·rw [if_pos c12] at H
    have c12b0 : decide (x20_1 < (y360.length : Int)) = true := decide_eq_true c12
    clear c12
    obtain ⟨c13, H⟩ := ifS H
    have c13b0 : decide (0 ≤ x20_1) = true := decide_eq_true c13
    clear c13
    obtain ⟨c14, H⟩ := ifS H
    have c14b0 : decide (x20_1 < (y360.length : Int)) = true := decide_eq_true c14
    clear c14
    obtain ⟨t364, A15, H⟩ := bindS H
    have HC16 := Aside0.mk H
    clear H
    have p363 : 0 ≤ (x20_1 : Int) := zD
    have q363 : x20_1 < (y360.length : Int) := zD
    obtain ⟨ad363, e363, hx363_0⟩ := Kd.at_bool (Kd.R_reads' HO_18.out).2.2 x20_1 p363 q363
    cases e363
    replace p363 := eq_true p363
    replace q363 := eq_true q363
    have hnb17 := NB355_356.out
    have hnc17 := NB356_355.out
    obtain ⟨hcz18_0, hcz18_1, hcz18_2, hfz18_0, hfz18_1, hfz18_2⟩ := bq3 BK355
    go_upto_if 28 with (first | ((with_reducible refine gate_callee (f := 27) rfl ?_); refine goesL_ (some 26) rfl rfl Try.func27 (by kernel_rfl) rfl #[.agg #[.int .i64 a0_0, .slice A0_1 l0_1.length c0_1, .slice A0_2 l0_2.length c0_2], .int .i64 a2, .bool true] rfl zG ?_; (with_reducible refine (impl_MovesFrom.calls k1 a0_0 _ _ l0_1 _ _ l0_2 a2 true t364 _ ?side1 ?side2 ?side3 ?side4 A15.out).mono ?_); (case side1 => exact cS HR0_1 HB); (case side2 => exact HC0_1.out); (case side3 => exact cS HR0_2 HB); (case side4 => exact HC0_2.out); rintro e w19 ⟨v365, rfl, ho0, hb⟩; refine ⟨_, rfl, ?_⟩; replace HO_9 := Aside0.mk (Kd.S_elder' (zS HO_9) (Kd.R_base ho0) hb); replace HO_18 := Aside0.mk (Kd.R_below (zR HO_18) hb); have HO366 := Aside0.mk (Kd.R_lower ho0 (below_size (zB HB))); replace BK355 := kB BK355 hb; replace BK356 := kB BK356 hb; replace HB := bS HB hb; (try clear hb); (try clear ho0)))
    (try simp only [Act.put, List.setIfInBounds_toArray, List.set_cons_zero, List.set_cons_succ])
    obtain ⟨bq20, hbq20⟩ : ∃ b_ : Bool, b_ = (rdOf false y360 x20_1) := ⟨_, rfl⟩
    (try rw [← hbq20])
    have Nbq20 := Aside0.mk hbq20
    clear hbq20
    go_cut [12] (fun v12 wc => ∃ (kq : Nat) (x12_15 : List Int), Aside0 (impl_nextFollowed.j1 kq a2 a3 x9_1 bq20 x12_15 y360 (y360.length : Int) x20_1 a0_0 l0_1 l0_2 a1_0 l1_1 l1_2 = some r) ∧ Aside0 (kq ≤ k1) ∧ Aside0 (Kd.S (Kd.slice 3 (Kd.int .i64)) 31 wc w.heap.size (fun k_ => some k_ ≠ (v12 : Value).ownBlock) u9 x9_1) ∧ Aside0 (Kd.R (Kd.int .i64) 3 wc w.heap.size (fun _ => True) v12 x12_15) ∧ Aside0 (Kd.R Kd.bool 4 wc w.heap.size (fun _ => True) (.slice (some ad363) y360.length co11) y360) ∧ Aside0 (wc.heap[gb355]? = some (.cells #[.int .i64 a0_0, (.slice A0_1 l0_1.length c0_1), (.slice A0_2 l0_2.length c0_2)] 27 (0, 0))) ∧ Aside0 (wc.heap[gb356]? = some (.cells #[.int .i64 a1_0, (.slice A1_1 l1_1.length c1_1), (.slice A1_2 l1_2.length c1_2)] 27 (0, 0))) ∧ Aside0 (Below w.heap.size w wc))
    case first =>
     have H := HC16.out
     clear HC16
     replace H : (if bq20 = true then (impl_nextFollowed.j1 k1 a2 a3 x9_1 bq20 t364 y360 (y360.length : Int) x20_1 a0_0 l0_1 l0_2 a1_0 l1_1 l1_2) else ((impl_MovesFrom.f k1 a1_0 l1_1 l1_2 a3 false).bind fun t367 => (impl_nextFollowed.j1 k1 a2 a3 x9_1 bq20 t367 y360 (y360.length : Int) x20_1 a0_0 l0_1 l0_2 a1_0 l1_1 l1_2))) = some r := by rw [← Nbq20.out] at H; exact H
     by_cases c21 : bq20 = true
     ·subst c21
      rename_i hm1_ hm2_
      have hm3_ := hm1_
      clear hm1_
      have H1 : (impl_nextFollowed.j1 k1 a2 a3 x9_1 true t364 y360 (y360.length : Int) x20_1 a0_0 l0_1 l0_2 a1_0 l1_1 l1_2) = some r := by rw [if_pos rfl] at H; exact H
      clear H
      have H := H1
      clear H1
      have H' := Aside0.mk H
      clear H
      go_wp2
      go_meet
      case rel => exact ⟨_, (t364), H', ⟨by have := HK1.out; first | omega | exact Nat.le_refl _⟩, ⟨by (with_reducible repeat (first | apply Kd.S_alloc | apply Kd.S_drewN | apply Kd.S_drew)); exact Kd.S_mono HO_9.out (fun _ hk => hk.2)⟩, ⟨zR HO366⟩, ⟨zR HO_18⟩, ⟨zK BK355⟩, ⟨zK BK356⟩, ⟨zB HB⟩⟩
     ·replace c21 := Bool.eq_false_iff.mpr c21
      subst c21
      rename_i hm1_ hm2_
      have hm3_ := hm1_
      clear hm1_
      have H1 : ((impl_MovesFrom.f k1 a1_0 l1_1 l1_2 a3 false).bind fun t367 => (impl_nextFollowed.j1 k1 a2 a3 x9_1 false t367 y360 (y360.length : Int) x20_1 a0_0 l0_1 l0_2 a1_0 l1_1 l1_2)) = some r := by rw [if_neg (show ¬ (false = true) by decide)] at H; exact H
      clear H
      have H := H1
      clear H1
      obtain ⟨t367, A22, H⟩ := bindS H
      have H' := Aside0.mk H
      clear H
      have hnb23 := NB356_355.out
      have hnc23 := NB355_356.out
      obtain ⟨hcz24_0, hcz24_1, hcz24_2, hfz24_0, hfz24_1, hfz24_2⟩ := bq3 BK356
      go_wp2_with (first | ((with_reducible refine gate_callee (f := 27) rfl ?_); refine goesL_ (some 31) rfl rfl Try.func27 (by kernel_rfl) rfl #[.agg #[.int .i64 a1_0, .slice A1_1 l1_1.length c1_1, .slice A1_2 l1_2.length c1_2], .int .i64 a3, .bool false] rfl zG ?_; (with_reducible refine (impl_MovesFrom.calls k1 a1_0 _ _ l1_1 _ _ l1_2 a3 false t367 _ ?side1 ?side2 ?side3 ?side4 A22.out).mono ?_); (case side1 => exact cS HR1_1 HB); (case side2 => exact HC1_1.out); (case side3 => exact cS HR1_2 HB); (case side4 => exact HC1_2.out); rintro e w25 ⟨v368, rfl, ho0, hb⟩; refine ⟨_, rfl, ?_⟩; replace HO_9 := Aside0.mk (Kd.S_elder' (zS HO_9) (Kd.R_base ho0) hb); replace HO_18 := Aside0.mk (Kd.R_below (zR HO_18) hb); have HO369 := Aside0.mk (Kd.R_lower (Kd.R_new' ho0 (Kd.R_lt (zR HO366))) (below_size (zB HB))); replace HO366 := Aside0.mk (Kd.R_elder' (zR HO366) (Kd.R_base ho0) hb); replace BK355 := kB BK355 hb; replace BK356 := kB BK356 hb; replace HB := bS HB hb; (try clear hb); (try clear ho0)))
      go_meet
      case rel => exact ⟨_, (t367), H', ⟨by have := HK1.out; first | omega | exact Nat.le_refl _⟩, ⟨by (with_reducible repeat (first | apply Kd.S_alloc | apply Kd.S_drewN | apply Kd.S_drew)); exact Kd.S_mono HO_9.out (fun _ hk => hk.2)⟩, ⟨by (with_reducible repeat (first | apply Kd.R_alloc | apply Kd.R_drewN | apply Kd.R_drew)); exact Kd.R_mono HO369.out (fun _ hk => trivial)⟩, ⟨zR HO_18⟩, ⟨zK BK355⟩, ⟨zK BK356⟩, ⟨zB HB⟩⟩
    case rest =>
     have Nbq20_ := Nbq20.out
     clear Nbq20
     subst Nbq20_
     clear HC16
     try clear c1
     try clear c2
     try clear p2
     try clear q2
     try clear p3
     try clear q3
     try clear hx3
     try clear c5
     try clear c12
     try clear c12b0
     try clear c13
     try clear c13b0
     try clear c14
     try clear c14b0
     try clear c17
     try clear q20
     try clear c21
     try clear c23
     try clear hcz18_0
     try clear hcz18_1
     try clear hcz18_2
     try clear hcz24_0
     try clear hcz24_1
     try clear hcz24_2
     try clear hfz18_0
     try clear hfz18_1
     try clear hfz18_2
     try clear hfz24_0
     try clear hfz24_1
     try clear hfz24_2
     try clear hx363_0
     try clear p2
     try clear p363
     try clear q363
     obtain ⟨kq, x12_15, HA, HJ15, HO_9, HO_12, HO_18, BK355, BK356, HB⟩ := hcut
     cases kq with
     | zero => exact absurd HA.out (by simp [impl_nextFollowed.j1])
     | succ kj15 =>
      have H := HA.out
      clear HA
      simp only [impl_nextFollowed.j1] at H
      have H' := Aside0.mk H
      clear H
      obtain ⟨Ao26, co26, eo26⟩ := Kd.R_slice HO_12.out
      subst eo26
      go_wp2
      go_loopg [9, 34] kj15 (fun kq v9 v34 w' => ∃ (x9_3 : List (List Int)) (x34_3 : Int), v34 = .int .i64 x34_3 ∧ Aside0 (impl_nextFollowed.l1 kq a2 a3 x9_3 (rdOf false y360 x20_1) y360 (y360.length : Int) x20_1 x12_15 (x12_15.length : Int) x34_3 a0_0 l0_1 l0_2 a1_0 l1_1 l1_2 = some r) ∧ Aside0 (kq ≤ kj15) ∧ Aside0 (Kd.S (Kd.slice 3 (Kd.int .i64)) 31 w' w.heap.size (fun k_ => some k_ ≠ ((.slice Ao26 x12_15.length co26) : Value).ownBlock) v9 x9_3) ∧ Aside0 (Kd.R Kd.bool 4 w' w.heap.size (fun _ => True) (.slice (some ad363) y360.length co11) y360) ∧ Aside0 (Kd.R (Kd.int .i64) 3 w' w.heap.size (fun _ => True) (.slice Ao26 x12_15.length co26) x12_15) ∧ Aside0 (w'.heap[gb355]? = some (.cells #[.int .i64 a0_0, (.slice A0_1 l0_1.length c0_1), (.slice A0_2 l0_2.length c0_2)] 27 (0, 0))) ∧ Aside0 (w'.heap[gb356]? = some (.cells #[.int .i64 a1_0, (.slice A1_1 l1_1.length c1_1), (.slice A1_2 l1_2.length c1_2)] 27 (0, 0))) ∧ Aside0 (Below w.heap.size w w'))
      case atStart => exact ⟨(x9_1), (0), zF, H', ⟨Nat.le_refl _⟩, ⟨zS HO_9⟩, ⟨zR HO_18⟩, ⟨zR HO_12⟩, ⟨zK BK355⟩, ⟨zK BK356⟩, ⟨zB HB⟩⟩
      case round =>
       clear H'
       try clear c1
       try clear c2
       try clear p2
       try clear q2
       try clear p3
       try clear q3
       try clear hx3
       try clear c5
       try clear c12
       try clear c12b0
       try clear c13
       try clear c13b0
       try clear c14
       try clear c14b0
       try clear c17
       try clear q20
       try clear c21
       try clear c23
       try clear hcz18_0
       try clear hcz18_1
       try clear hcz18_2
       try clear hcz24_0
       try clear hcz24_1
       try clear hcz24_2
       try clear hfz18_0
       try clear hfz18_1
       try clear hfz18_2
       try clear hfz24_0
       try clear hfz24_1
       try clear hfz24_2
       try clear hx363_0
       try clear p2
       try clear p3
       try clear p363
       try clear q2
       try clear q20
       try clear q3
       try clear q363
       obtain ⟨x9_3, x34_3, rfl, HA, HK3, HO_9, HO_18, HO_32, BK355, BK356, HB⟩ := hrel
       cases gk with
       | zero => exact absurd HA.out (by simp [impl_nextFollowed.l1])
       | succ k3 =>
        have H := HA.out
        clear HA
        simp only [impl_nextFollowed.l1] at H
        by_cases c27 : x34_3 < (x12_15.length : Int)
        ·rw [if_pos c27] at H
         have c27b0 : decide (x34_3 < (x12_15.length : Int)) = true := decide_eq_true c27
         clear c27
         obtain ⟨c28, H⟩ := ifS H
         have c28b0 : decide (0 ≤ x34_3) = true := decide_eq_true c28
         clear c28
         obtain ⟨c29, H⟩ := ifS H
         have c29b0 : decide (x34_3 < (x12_15.length : Int)) = true := decide_eq_true c29
         clear c29
         obtain ⟨t371, A30, H⟩ := bindS H
         obtain ⟨t372, A31, H⟩ := bindS H
         by_cases c32 : t371 ≥ 0
         ·rw [if_pos c32] at H
          have c32b0 : decide (0 ≤ t371) = true := decide_eq_true c32
          clear c32
          by_cases c33 : t372 ≥ 0
          ·rw [if_pos c33] at H
           have c33b0 : decide (0 ≤ t372) = true := decide_eq_true c33
           clear c33
           obtain ⟨c34, H⟩ := ifS H
           have c34b0 : decide (0 ≤ t371) = true := decide_eq_true c34
           clear c34
           obtain ⟨c35, H⟩ := ifS H
           have c35b0 : decide (t371 < (l0_2.length : Int)) = true := decide_eq_true c35
           clear c35
           obtain ⟨c36, H⟩ := ifS H
           have c36b0 : decide (0 ≤ t372) = true := decide_eq_true c36
           clear c36
           obtain ⟨c37, H⟩ := ifS H
           have c37b0 : decide (t372 < (l1_2.length : Int)) = true := decide_eq_true c37
           clear c37
           obtain ⟨y375, hy375⟩ : ∃ y_ : List Int, y_ = (([(rd_T46 l0_2 t371).f3, (rd_T46 l1_2 t372).f3] : List Int)) := ⟨_, rfl⟩
           replace H : (if x9_3.length < 5864062014805 then (impl_nextFollowed.l1 k3 a2 a3 (x9_3 ++ [y375]) (rdOf false y360 x20_1) y360 (y360.length : Int) x20_1 x12_15 (x12_15.length : Int) (wrap64 (x34_3 + 1)) a0_0 l0_1 l0_2 a1_0 l1_1 l1_2) else (none)) = some r := by first | (rw [hy375]; with_reducible exact H) | (rw [hy375]; exact H) | exact H
           have Ny375 := Aside0.mk hy375
           clear hy375
           obtain ⟨c38, H⟩ := ifS H
           have LMc38 := Aside0.mk c38
           clear c38
           obtain ⟨y378, hy378⟩ : ∃ y_ : List (List Int), y_ = (x9_3 ++ [y375]) := ⟨_, rfl⟩
           replace H : (impl_nextFollowed.l1 k3 a2 a3 y378 (rdOf false y360 x20_1) y360 (y360.length : Int) x20_1 x12_15 (x12_15.length : Int) (wrap64 (x34_3 + 1)) a0_0 l0_1 l0_2 a1_0 l1_1 l1_2) = some r := by first | (rw [hy378]; with_reducible exact H) | (rw [hy378]; exact H) | exact H
           have Ny378 := Aside0.mk hy378
           clear hy378
           have H' := Aside0.mk H
           clear H
           have p370 : 0 ≤ (x34_3 : Int) := zD
           have q370 : x34_3 < (x12_15.length : Int) := zD
           obtain ⟨ad370, e370, hx370_0⟩ := Kd.at_int (Kd.R_reads' HO_32.out).2.2 x34_3 p370 q370
           cases e370
           replace p370 := eq_true p370
           replace q370 := eq_true q370
           try go_wp2
           replace HO_9 := Aside0.mk (Kd.S_drew HO_9.out)
           replace HO_18 := Aside0.mk (Kd.R_drew HO_18.out)
           replace HO_32 := Aside0.mk (Kd.R_drew HO_32.out)
           replace BK355 := Aside0.mk (blk_drew BK355.out)
           replace BK356 := Aside0.mk (blk_drew BK356.out)
           replace HB := Aside0.mk (below_drew1 HB.out)
           refine start_ (n := 12) (S := fun w' => w'.cell? ⟨gb355, 0, none⟩ = some (.int .i64 a0_0) ∧ w'.cell? ⟨gb355, 1, none⟩ = some (.slice A0_1 l0_1.length c0_1) ∧ w'.cell? ⟨gb355, 2, none⟩ = some (.slice A0_2 l0_2.length c0_2) ∧ w'.cell? ⟨gb356, 0, none⟩ = some (.int .i64 a1_0) ∧ w'.cell? ⟨gb356, 1, none⟩ = some (.slice A1_1 l1_1.length c1_1) ∧ w'.cell? ⟨gb356, 2, none⟩ = some (.slice A1_2 l1_2.length c1_2)) (ds := []) (bm 12 0) (by kernel_rfl) rfl (bm0 _) ⟨bc0 BK355, bc1 BK355, bc2 BK355, bc0 BK356, bc1 BK356, bc2 BK356⟩ (fun hHeld => ?_); refine with_tabW impl_nextFollowed.tab11 impl_nextFollowed.bits11 (fun HT_ HW_ => ?_)
           generalize wr.drew = w39 at HO_9 HO_18 HO_32 BK355 BK356 HB hHeld ⊢
           refine pU 1 (some 39) (bm 12 2) HT_ rfl rfl ?_
           refine pU 2 (some 40) (bm 12 6) HT_ rfl rfl ?_
           refine pU 3 (some 41) (bm 12 14) HT_ rfl rfl ?_
           refine pU 6 (some 44) (bm 12 78) HT_ rfl rfl ?_
           refine pU 7 (some 45) (bm 12 206) HT_ rfl rfl ?_
           refine pU 8 (some 46) (bm 12 462) HT_ rfl rfl ?_
           refine tU 0 (some 38) (bm 12 463) HT_ HW_ rfl rfl hHeld ?_
           refine tU 5 (some 43) (bm 12 495) HT_ HW_ rfl rfl hHeld ?_
           refine one_ (i := 4) (N := some 42) (bm 12 511) rfl rfl (one_of HT_.out (by kernel_rfl)) (by decide) (fun K hK => ?_)
           refine goes_ Try.func29 (by kernel_rfl) rfl #[.agg #[.int .i64 a0_0, .slice A0_1 l0_1.length c0_1, .slice A0_2 l0_2.length c0_2], .int .i64 a2, .bool (rdOf false y360 x20_1), .int .i64 (rd x12_15 x34_3)] (by rfl) rfl rfl zG ?_
           with_reducible refine (impl_MoveOf.calls a0_0 _ _ l0_1 _ _ l0_2 a2 (rdOf false y360 x20_1) (rd x12_15 x34_3) t371 _ ?side1 ?side2 ?side3 ?side4 A30.out).mono ?_
           (case side1 => exact cS HR0_1 HB)
           (case side2 => exact HC0_1.out)
           (case side3 => exact cS HR0_2 HB)
           (case side4 => exact HC0_2.out)
           rintro e w40 ⟨rfl, hb⟩
           refine ⟨_, rfl, ?_⟩
           replace HO_9 := Aside0.mk (Kd.S_below (zS HO_9) hb)
           replace HO_18 := Aside0.mk (Kd.R_below (zR HO_18) hb)
           replace HO_32 := Aside0.mk (Kd.R_below (zR HO_32) hb)
           replace BK355 := kB BK355 hb
           replace BK356 := kB BK356 hb
           replace HB := bS HB hb
           (try clear hb); (try clear hb2); (try clear hk); (try clear hi)
           refine hK.out _ _ ⟨bc0 BK355, bc1 BK355, bc2 BK355, bc0 BK356, bc1 BK356, bc2 BK356⟩ (fun hHeld => ?_)
           clear hK K
           refine nU 42 ?_
           refine one_ (i := 9) (N := some 47) (bm 12 1023) rfl rfl (one_of HT_.out (by kernel_rfl)) (by decide) (fun K hK => ?_)
           refine goes_ Try.func29 (by kernel_rfl) rfl #[.agg #[.int .i64 a1_0, .slice A1_1 l1_1.length c1_1, .slice A1_2 l1_2.length c1_2], .int .i64 a3, .bool (rdOf false y360 x20_1), .int .i64 (rd x12_15 x34_3)] (by rfl) rfl rfl zG ?_
           with_reducible refine (impl_MoveOf.calls a1_0 _ _ l1_1 _ _ l1_2 a3 (rdOf false y360 x20_1) (rd x12_15 x34_3) t372 _ ?side1 ?side2 ?side3 ?side4 A31.out).mono ?_
           (case side1 => exact cS HR1_1 HB)
           (case side2 => exact HC1_1.out)
           (case side3 => exact cS HR1_2 HB)
           (case side4 => exact HC1_2.out)
           rintro e w41 ⟨rfl, hb⟩
           refine ⟨_, rfl, ?_⟩
           replace HO_9 := Aside0.mk (Kd.S_below (zS HO_9) hb)
           replace HO_18 := Aside0.mk (Kd.R_below (zR HO_18) hb)
           replace HO_32 := Aside0.mk (Kd.R_below (zR HO_32) hb)
           replace BK355 := kB BK355 hb
           replace BK356 := kB BK356 hb
           replace HB := bS HB hb
           (try clear hb); (try clear hb2); (try clear hk); (try clear hi)
           refine hK.out _ _ ⟨bc0 BK355, bc1 BK355, bc2 BK355, bc0 BK356, bc1 BK356, bc2 BK356⟩ (fun hHeld => ?_)
           clear hK K
           refine nU 47 ?_
           refine pU 10 (some 15) (bm 12 2047) HT_ rfl rfl ?_
           refine pU 11 (some 16) (bm 12 4095) HT_ rfl rfl ?_
           refine done_ (done_of HT_.out (by kernel_rfl)) ?_
           try clear hHeld
           try go_wp2
           replace HO_9 := Aside0.mk (Kd.S_drew HO_9.out)
           replace HO_18 := Aside0.mk (Kd.R_drew HO_18.out)
           replace HO_32 := Aside0.mk (Kd.R_drew HO_32.out)
           replace BK355 := Aside0.mk (blk_drew BK355.out)
           replace BK356 := Aside0.mk (blk_drew BK356.out)
           replace HB := Aside0.mk (below_drew1 HB.out)
           have p373 : 0 ≤ (t371 : Int) := zD
           have q373 : t371 < (l0_2.length : Int) := zD
           obtain ⟨ad373, e373, hx373_0, hx373_1, hx373_2, hx373_3⟩ := at_T46 HR0_2.out t371 p373 q373
           have hw373_3 := hx373_3
           have hw373_2 := hx373_2
           have hw373_1 := hx373_1
           have hw373_0 := hx373_0
           cases e373
           replace hx373_0 := hL HB hx373_0
           replace hx373_1 := hL HB hx373_1
           replace hx373_2 := hL HB hx373_2
           replace hx373_3 := hL HB hx373_3
           replace p373 := eq_true p373
           replace q373 := eq_true q373
           have p374 : 0 ≤ (t372 : Int) := zD
           have q374 : t372 < (l1_2.length : Int) := zD
           obtain ⟨ad374, e374, hx374_0, hx374_1, hx374_2, hx374_3⟩ := at_T46 HR1_2.out t372 p374 q374
           have hw374_3 := hx374_3
           have hw374_2 := hx374_2
           have hw374_1 := hx374_1
           have hw374_0 := hx374_0
           cases e374
           replace hx374_0 := hL HB hx374_0
           replace hx374_1 := hL HB hx374_1
           replace hx374_2 := hL HB hx374_2
           replace hx374_3 := hL HB hx374_3
           replace p374 := eq_true p374
           replace q374 := eq_true q374
           refine start_ (n := 17) (S := fun w' => w'.cell? ⟨gb355, 0, none⟩ = some (.int .i64 a0_0) ∧ w'.cell? ⟨gb355, 1, none⟩ = some (.slice A0_1 l0_1.length c0_1) ∧ w'.cell? ⟨gb355, 2, none⟩ = some (.slice (some ad373) l0_2.length c0_2) ∧ w'.cell? ⟨gb356, 0, none⟩ = some (.int .i64 a1_0) ∧ w'.cell? ⟨gb356, 1, none⟩ = some (.slice A1_1 l1_1.length c1_1) ∧ w'.cell? ⟨gb356, 2, none⟩ = some (.slice (some ad374) l1_2.length c1_2) ∧ w'.cell? (ad373.add ((t371).toNat * 4)) = some (.int .i64 ((rd_T46 l0_2 t371).f0)) ∧ w'.cell? ⟨(ad373.add ((t371).toNat * 4)).block, (ad373.add ((t371).toNat * 4)).off + 1, none⟩ = some (.bool ((rd_T46 l0_2 t371).f1)) ∧ w'.cell? ⟨(ad373.add ((t371).toNat * 4)).block, (ad373.add ((t371).toNat * 4)).off + 2, none⟩ = some (.int .i64 ((rd_T46 l0_2 t371).f2)) ∧ w'.cell? ⟨(ad373.add ((t371).toNat * 4)).block, (ad373.add ((t371).toNat * 4)).off + 3, none⟩ = some (.int .i64 ((rd_T46 l0_2 t371).f3)) ∧ w'.cell? (ad374.add ((t372).toNat * 4)) = some (.int .i64 ((rd_T46 l1_2 t372).f0)) ∧ w'.cell? ⟨(ad374.add ((t372).toNat * 4)).block, (ad374.add ((t372).toNat * 4)).off + 1, none⟩ = some (.bool ((rd_T46 l1_2 t372).f1)) ∧ w'.cell? ⟨(ad374.add ((t372).toNat * 4)).block, (ad374.add ((t372).toNat * 4)).off + 2, none⟩ = some (.int .i64 ((rd_T46 l1_2 t372).f2)) ∧ w'.cell? ⟨(ad374.add ((t372).toNat * 4)).block, (ad374.add ((t372).toNat * 4)).off + 3, none⟩ = some (.int .i64 ((rd_T46 l1_2 t372).f3))) (ds := []) (bm 17 0) (by kernel_rfl) rfl (bm0 _) ⟨bc0 BK355, bc1 BK355, bc2 BK355, bc0 BK356, bc1 BK356, bc2 BK356, (hL HB hw373_0), (hL HB hw373_1), (hL HB hw373_2), (hL HB hw373_3), (hL HB hw374_0), (hL HB hw374_1), (hL HB hw374_2), (hL HB hw374_3)⟩ (fun hHeld => ?_); refine with_tabW impl_nextFollowed.tab13 impl_nextFollowed.bits13 (fun HT_ HW_ => ?_)
           generalize w41.drew = w42 at HO_9 HO_18 HO_32 BK355 BK356 HB hx373_0 hx373_1 hx373_2 hx373_3 hx374_0 hx374_1 hx374_2 hx374_3 hHeld ⊢
           refine pU 0 (some 54) (bm 17 1) HT_ rfl rfl ?_
           refine pU 1 (some 55) (bm 17 3) HT_ rfl rfl ?_
           refine pU 3 (some 57) (bm 17 11) HT_ rfl rfl ?_
           refine pU 7 (some 61) (bm 17 139) HT_ rfl rfl ?_
           refine pU 9 (some 63) (bm 17 651) HT_ rfl rfl ?_
           refine tU 2 (some 56) (bm 17 655) HT_ HW_ rfl rfl hHeld ?_
           refine pU 4 (some 58) (bm 17 671) HT_ rfl rfl ?_
           refine pU 5 (some 59) (bm 17 703) HT_ rfl rfl ?_
           refine tU 6 (some 60) (bm 17 767) HT_ HW_ rfl rfl hHeld ?_
           refine tU 8 (some 62) (bm 17 1023) HT_ HW_ rfl rfl hHeld ?_
           refine pU 10 (some 64) (bm 17 2047) HT_ rfl rfl ?_
           refine pU 11 (some 65) (bm 17 4095) HT_ rfl rfl ?_
           refine tU 12 (some 66) (bm 17 8191) HT_ HW_ rfl rfl hHeld ?_
           refine one_ (i := 13) (N := some 67) (bm 17 16383) rfl rfl (one_of HT_.out (by kernel_rfl)) (by decide) (fun K hK => ?_)
           refine Kd.R_lit_step (Kd.int .i64) _ 3 ?hg (N := 67) ?hd (xs := ([(rd_T46 l0_2 t371).f3, (rd_T46 l1_2 t372).f3] : List Int)) (inner := [.int .i64 ((rd_T46 l0_2 t371).f3), .int .i64 ((rd_T46 l1_2 t372).f3)]) (ok := fun _ => True) (okp := fun _ => True) ?hr ?hp (fun _ hk => hk) trivial (Below.refl _ _) (Nat.le_refl _) (by simp) ?_; (case hd => rfl); (case hg => rfl); (case hr => first | (go_simp; done) | (go_simp; rfl)); (case hp => exact (Reps.one (show Kd.M (Kd.int .i64) _ _ _ ((rd_T46 l0_2 t371).f3) [.int .i64 ((rd_T46 l0_2 t371).f3)] from rfl) (Reps.one (show Kd.M (Kd.int .i64) _ _ _ ((rd_T46 l1_2 t372).f3) [.int .i64 ((rd_T46 l1_2 t372).f3)] from rfl) (Reps.none _ _))))
           intro v376 w43 ho44 hb hg_ hnew_
           clear hg_ hnew_
           (first | rw [← Ny375.out] at ho44 | (simp only [Int.reduceToNat] at ho44; rw [← Ny375.out] at ho44))
           replace HO_9 := Aside0.mk (Kd.S_elder' (zS HO_9) (Kd.R_base ho44) hb)
           replace HO_18 := Aside0.mk (Kd.R_below (zR HO_18) hb)
           have HO377 := Aside0.mk (Kd.R_lower (Kd.R_new' ho44 (Kd.R_lt (zR HO_32))) (below_size (zB HB)))
           replace HO_32 := Aside0.mk (Kd.R_elder' (zR HO_32) (Kd.R_base ho44) hb)
           replace BK355 := kB BK355 hb
           replace BK356 := kB BK356 hb
           replace HB := bS HB hb
           clear hb ho44
           obtain ⟨Ao46, co46, eo46⟩ := Kd.R_slice HO377.out
           (first | subst eo46 | (obtain ⟨f4_, f5_⟩ := slI eo46; subst f4_; subst f5_))
           refine hK.out _ _ ⟨bc0 BK355, bc1 BK355, bc2 BK355, bc0 BK356, bc1 BK356, bc2 BK356, (hL HB hw373_0), (hL HB hw373_1), (hL HB hw373_2), (hL HB hw373_3), (hL HB hw374_0), (hL HB hw374_1), (hL HB hw374_2), (hL HB hw374_3)⟩ (fun hHeld => ?_)
           clear hK K
           refine nU 67 ?_
           refine one_ (i := 14) (N := some 68) (bm 17 32767) rfl rfl (one_of HT_.out (by kernel_rfl)) (by decide) (fun K hK => ?_)
           refine value_ (w1 := ?_) (v := ?_) (by rfl) rfl ?_ ?_
           rotate_left 2
           ·go_simp
            constructor
            ·rfl
            ·rfl
           refine hK.out _ _ ⟨(blk_cell (blk_alloc BK355.out _) 0).trans rfl, (blk_cell (blk_alloc BK355.out _) 1).trans rfl, (blk_cell (blk_alloc BK355.out _) 2).trans rfl, (blk_cell (blk_alloc BK356.out _) 0).trans rfl, (blk_cell (blk_alloc BK356.out _) 1).trans rfl, (blk_cell (blk_alloc BK356.out _) 2).trans rfl, (World.cell?_alloc_lt _ _ _ (World.block_lt_of_cell? _ _ ((hL HB hw373_0)))).trans ((hL HB hw373_0)), (World.cell?_alloc_lt _ _ _ (World.block_lt_of_cell? _ _ ((hL HB hw373_1)))).trans ((hL HB hw373_1)), (World.cell?_alloc_lt _ _ _ (World.block_lt_of_cell? _ _ ((hL HB hw373_2)))).trans ((hL HB hw373_2)), (World.cell?_alloc_lt _ _ _ (World.block_lt_of_cell? _ _ ((hL HB hw373_3)))).trans ((hL HB hw373_3)), (World.cell?_alloc_lt _ _ _ (World.block_lt_of_cell? _ _ ((hL HB hw374_0)))).trans ((hL HB hw374_0)), (World.cell?_alloc_lt _ _ _ (World.block_lt_of_cell? _ _ ((hL HB hw374_1)))).trans ((hL HB hw374_1)), (World.cell?_alloc_lt _ _ _ (World.block_lt_of_cell? _ _ ((hL HB hw374_2)))).trans ((hL HB hw374_2)), (World.cell?_alloc_lt _ _ _ (World.block_lt_of_cell? _ _ ((hL HB hw374_3)))).trans ((hL HB hw374_3))⟩ (fun hHeld => ?_)
           clear hK K
           refine nU 68 ?_
           refine one_ (i := 15) (N := some 69) (bm 17 65535) rfl rfl (one_of HT_.out (by kernel_rfl)) (by decide) (fun K hK => ?_)
           refine Kd.S_append_step (Kd.slice 3 (Kd.int .i64)) (w0 := w) w.heap.size (by rfl) (.tmp 54) (.tmp 68) 33 31 (.slice none 0 0) 24 rfl Try.underlying33 info31 rfl (by decide) (by omega) u9 x9_3 y375 [.slice Ao46 y375.length co46] (fun k_ => some k_ ≠ (.slice (some ad370) x12_15.length co26 : Value).ownBlock) (fun k_ => some k_ = (.slice Ao46 y375.length co46 : Value).ownBlock) rfl rfl ?aP (fun k_ hk_ => ((Kd.R_mono (ok' := fun k_ => ((fun k_ => some k_ ≠ (.slice (some ad370) x12_15.length co26 : Value).ownBlock)) k_ ∧ some k_ ≠ (u9 : Value).ownBlock) (Kd.R_apart' (HO377.out) (Kd.S_typed HO_9.out) (by decide)) (fun k_ hk => ⟨hk.1.2, hk.2⟩))).1 k_ hk_.symm) ?aF ?aO ?aB ?aS ?aL ?_
           (case aP => exact Kd.M_row (Kd.R_mono (Kd.R_tight rfl (Kd.R_mono (ok' := fun k_ => ((fun k_ => some k_ ≠ (.slice (some ad370) x12_15.length co26 : Value).ownBlock)) k_ ∧ some k_ ≠ (u9 : Value).ownBlock) (Kd.R_apart' (HO377.out) (Kd.S_typed HO_9.out) (by decide)) (fun k_ hk => ⟨hk.1.2, hk.2⟩))) (fun _ h_ => h_)))
           (case aB => exact (zB HB))
           (case aF => exact (fun k_ hk => Kd.fresh' (Kd.R_lt (zR HO_32)) k_ hk))
           (case aO => exact (by (with_reducible repeat (first | apply Kd.S_alloc | apply Kd.S_drewN | apply Kd.S_drew)); exact Kd.S_mono HO_9.out (fun k_ hk => ⟨hk.1, fun e_ => hk.2 e_⟩)))
           (case aS => exact (below_size (zB HB)))
           (case aL => have := LMc38.out; omega)
           intro v379 w45 ho hb hg hat
           rw [← Ny378.out] at ho
           replace HO_18 := Aside0.mk (Kd.R_over' (zR HO_18) (Kd.S_typed (zS HO_9)) (by decide) hg)
           replace HO_32 := Aside0.mk (Kd.R_over' (zR HO_32) (Kd.S_typed (zS HO_9)) (by decide) hg)
           replace BK355 := Aside0.mk (blk_grown (g := gb355) (o := .cells #[.int .i64 a0_0, .slice A0_1 l0_1.length c0_1, .slice (some ad373) l0_2.length c0_2] 27 (0, 0)) (zK BK355) hg (Kd.S_ne HO_9.out BK355.out (by decide)))
           replace BK356 := Aside0.mk (blk_grown (g := gb356) (o := .cells #[.int .i64 a1_0, .slice A1_1 l1_1.length c1_1, .slice (some ad374) l1_2.length c1_2] 27 (0, 0)) (zK BK356) hg (Kd.S_ne HO_9.out BK356.out (by decide)))
           replace HB := Aside0.mk (hb)
           have HO380 := Aside0.mk (ho)
           clear HO_9 HO377
           clear ho hb hg hat
           refine hK.out _ _ ⟨bc0 BK355, bc1 BK355, bc2 BK355, bc0 BK356, bc1 BK356, bc2 BK356, (hL HB hw373_0), (hL HB hw373_1), (hL HB hw373_2), (hL HB hw373_3), (hL HB hw374_0), (hL HB hw374_1), (hL HB hw374_2), (hL HB hw374_3)⟩ (fun hHeld => ?_)
           clear hK K
           refine nU 69 ?_
           refine pU 16 (some 9) (bm 17 131071) HT_ rfl rfl ?_
           refine done_ (done_of HT_.out (by kernel_rfl)) ?_
           try clear hHeld
           try go_wp2
           go_roundg k3
           case measure => have := HK1.out; have := HJ15.out; have := HK3.out; omega
           case rel => exact ⟨(y378), (wrap64 (x34_3 + 1)), zF, H', ⟨by have := HK1.out; have := HJ15.out; have := HK3.out; omega⟩, ⟨zS HO380⟩, ⟨zR HO_18⟩, ⟨by (with_reducible repeat (first | apply Kd.R_alloc | apply Kd.R_drewN | apply Kd.R_drew)); exact Kd.R_mono HO_32.out (fun _ hk => trivial)⟩, ⟨zK BK355⟩, ⟨zK BK356⟩, ⟨zB HB⟩⟩
          ·rw [if_neg c33] at H
           have c33b0 : decide (0 ≤ t372) = false := decide_eq_false c33
           clear c33
           have H' := Aside0.mk H
           clear H
           have p370 : 0 ≤ (x34_3 : Int) := zD
           have q370 : x34_3 < (x12_15.length : Int) := zD
           obtain ⟨ad370, e370, hx370_0⟩ := Kd.at_int (Kd.R_reads' HO_32.out).2.2 x34_3 p370 q370
           cases e370
           replace p370 := eq_true p370
           replace q370 := eq_true q370
           try go_wp2
           replace HO_9 := Aside0.mk (Kd.S_drew HO_9.out)
           replace HO_18 := Aside0.mk (Kd.R_drew HO_18.out)
           replace HO_32 := Aside0.mk (Kd.R_drew HO_32.out)
           replace BK355 := Aside0.mk (blk_drew BK355.out)
           replace BK356 := Aside0.mk (blk_drew BK356.out)
           replace HB := Aside0.mk (below_drew1 HB.out)
           refine start_ (n := 12) (S := fun w' => w'.cell? ⟨gb355, 0, none⟩ = some (.int .i64 a0_0) ∧ w'.cell? ⟨gb355, 1, none⟩ = some (.slice A0_1 l0_1.length c0_1) ∧ w'.cell? ⟨gb355, 2, none⟩ = some (.slice A0_2 l0_2.length c0_2) ∧ w'.cell? ⟨gb356, 0, none⟩ = some (.int .i64 a1_0) ∧ w'.cell? ⟨gb356, 1, none⟩ = some (.slice A1_1 l1_1.length c1_1) ∧ w'.cell? ⟨gb356, 2, none⟩ = some (.slice A1_2 l1_2.length c1_2)) (ds := []) (bm 12 0) (by kernel_rfl) rfl (bm0 _) ⟨bc0 BK355, bc1 BK355, bc2 BK355, bc0 BK356, bc1 BK356, bc2 BK356⟩ (fun hHeld => ?_); refine with_tabW impl_nextFollowed.tab11 impl_nextFollowed.bits11 (fun HT_ HW_ => ?_)
           generalize wr.drew = w47 at HO_9 HO_18 HO_32 BK355 BK356 HB hHeld ⊢
           refine pU 1 (some 39) (bm 12 2) HT_ rfl rfl ?_
           refine pU 2 (some 40) (bm 12 6) HT_ rfl rfl ?_
           refine pU 3 (some 41) (bm 12 14) HT_ rfl rfl ?_
           refine pU 6 (some 44) (bm 12 78) HT_ rfl rfl ?_
           refine pU 7 (some 45) (bm 12 206) HT_ rfl rfl ?_
           refine pU 8 (some 46) (bm 12 462) HT_ rfl rfl ?_
           refine tU 0 (some 38) (bm 12 463) HT_ HW_ rfl rfl hHeld ?_
           refine tU 5 (some 43) (bm 12 495) HT_ HW_ rfl rfl hHeld ?_
           refine one_ (i := 4) (N := some 42) (bm 12 511) rfl rfl (one_of HT_.out (by kernel_rfl)) (by decide) (fun K hK => ?_)
           refine goes_ Try.func29 (by kernel_rfl) rfl #[.agg #[.int .i64 a0_0, .slice A0_1 l0_1.length c0_1, .slice A0_2 l0_2.length c0_2], .int .i64 a2, .bool (rdOf false y360 x20_1), .int .i64 (rd x12_15 x34_3)] (by rfl) rfl rfl zG ?_
           with_reducible refine (impl_MoveOf.calls a0_0 _ _ l0_1 _ _ l0_2 a2 (rdOf false y360 x20_1) (rd x12_15 x34_3) t371 _ ?side1 ?side2 ?side3 ?side4 A30.out).mono ?_
           (case side1 => exact cS HR0_1 HB)
           (case side2 => exact HC0_1.out)
           (case side3 => exact cS HR0_2 HB)
           (case side4 => exact HC0_2.out)
           rintro e w48 ⟨rfl, hb⟩
           refine ⟨_, rfl, ?_⟩
           replace HO_9 := Aside0.mk (Kd.S_below (zS HO_9) hb)
           replace HO_18 := Aside0.mk (Kd.R_below (zR HO_18) hb)
           replace HO_32 := Aside0.mk (Kd.R_below (zR HO_32) hb)
           replace BK355 := kB BK355 hb
           replace BK356 := kB BK356 hb
           replace HB := bS HB hb
           (try clear hb); (try clear hb2); (try clear hk); (try clear hi)
           refine hK.out _ _ ⟨bc0 BK355, bc1 BK355, bc2 BK355, bc0 BK356, bc1 BK356, bc2 BK356⟩ (fun hHeld => ?_)
           clear hK K
           refine nU 42 ?_
           refine one_ (i := 9) (N := some 47) (bm 12 1023) rfl rfl (one_of HT_.out (by kernel_rfl)) (by decide) (fun K hK => ?_)
           refine goes_ Try.func29 (by kernel_rfl) rfl #[.agg #[.int .i64 a1_0, .slice A1_1 l1_1.length c1_1, .slice A1_2 l1_2.length c1_2], .int .i64 a3, .bool (rdOf false y360 x20_1), .int .i64 (rd x12_15 x34_3)] (by rfl) rfl rfl zG ?_
           with_reducible refine (impl_MoveOf.calls a1_0 _ _ l1_1 _ _ l1_2 a3 (rdOf false y360 x20_1) (rd x12_15 x34_3) t372 _ ?side1 ?side2 ?side3 ?side4 A31.out).mono ?_
           (case side1 => exact cS HR1_1 HB)
           (case side2 => exact HC1_1.out)
           (case side3 => exact cS HR1_2 HB)
           (case side4 => exact HC1_2.out)
           rintro e w49 ⟨rfl, hb⟩
           refine ⟨_, rfl, ?_⟩
           replace HO_9 := Aside0.mk (Kd.S_below (zS HO_9) hb)
           replace HO_18 := Aside0.mk (Kd.R_below (zR HO_18) hb)
           replace HO_32 := Aside0.mk (Kd.R_below (zR HO_32) hb)
           replace BK355 := kB BK355 hb
           replace BK356 := kB BK356 hb
           replace HB := bS HB hb
           (try clear hb); (try clear hb2); (try clear hk); (try clear hi)
           refine hK.out _ _ ⟨bc0 BK355, bc1 BK355, bc2 BK355, bc0 BK356, bc1 BK356, bc2 BK356⟩ (fun hHeld => ?_)
           clear hK K
           refine nU 47 ?_
           refine pU 10 (some 15) (bm 12 2047) HT_ rfl rfl ?_
           refine pU 11 (some 16) (bm 12 4095) HT_ rfl rfl ?_
           refine done_ (done_of HT_.out (by kernel_rfl)) ?_
           try clear hHeld
           try go_wp2
           go_roundg k3
           case measure => have := HK1.out; have := HJ15.out; have := HK3.out; omega
           case rel => exact ⟨(x9_3), (wrap64 (x34_3 + 1)), zF, H', ⟨by have := HK1.out; have := HJ15.out; have := HK3.out; omega⟩, ⟨zS HO_9⟩, ⟨zR HO_18⟩, ⟨zR HO_32⟩, ⟨zK BK355⟩, ⟨zK BK356⟩, ⟨zB HB⟩⟩
         ·rw [if_neg c32] at H
          have c32b0 : decide (0 ≤ t371) = false := decide_eq_false c32
          clear c32
          have H' := Aside0.mk H
          clear H
          have p370 : 0 ≤ (x34_3 : Int) := zD
          have q370 : x34_3 < (x12_15.length : Int) := zD
          obtain ⟨ad370, e370, hx370_0⟩ := Kd.at_int (Kd.R_reads' HO_32.out).2.2 x34_3 p370 q370
          cases e370
          replace p370 := eq_true p370
          replace q370 := eq_true q370
          try go_wp2
          replace HO_9 := Aside0.mk (Kd.S_drew HO_9.out)
          replace HO_18 := Aside0.mk (Kd.R_drew HO_18.out)
          replace HO_32 := Aside0.mk (Kd.R_drew HO_32.out)
          replace BK355 := Aside0.mk (blk_drew BK355.out)
          replace BK356 := Aside0.mk (blk_drew BK356.out)
          replace HB := Aside0.mk (below_drew1 HB.out)
          refine start_ (n := 12) (S := fun w' => w'.cell? ⟨gb355, 0, none⟩ = some (.int .i64 a0_0) ∧ w'.cell? ⟨gb355, 1, none⟩ = some (.slice A0_1 l0_1.length c0_1) ∧ w'.cell? ⟨gb355, 2, none⟩ = some (.slice A0_2 l0_2.length c0_2) ∧ w'.cell? ⟨gb356, 0, none⟩ = some (.int .i64 a1_0) ∧ w'.cell? ⟨gb356, 1, none⟩ = some (.slice A1_1 l1_1.length c1_1) ∧ w'.cell? ⟨gb356, 2, none⟩ = some (.slice A1_2 l1_2.length c1_2)) (ds := []) (bm 12 0) (by kernel_rfl) rfl (bm0 _) ⟨bc0 BK355, bc1 BK355, bc2 BK355, bc0 BK356, bc1 BK356, bc2 BK356⟩ (fun hHeld => ?_); refine with_tabW impl_nextFollowed.tab11 impl_nextFollowed.bits11 (fun HT_ HW_ => ?_)
          generalize wr.drew = w50 at HO_9 HO_18 HO_32 BK355 BK356 HB hHeld ⊢
          refine pU 1 (some 39) (bm 12 2) HT_ rfl rfl ?_
          refine pU 2 (some 40) (bm 12 6) HT_ rfl rfl ?_
          refine pU 3 (some 41) (bm 12 14) HT_ rfl rfl ?_
          refine pU 6 (some 44) (bm 12 78) HT_ rfl rfl ?_
          refine pU 7 (some 45) (bm 12 206) HT_ rfl rfl ?_
          refine pU 8 (some 46) (bm 12 462) HT_ rfl rfl ?_
          refine tU 0 (some 38) (bm 12 463) HT_ HW_ rfl rfl hHeld ?_
          refine tU 5 (some 43) (bm 12 495) HT_ HW_ rfl rfl hHeld ?_
          refine one_ (i := 4) (N := some 42) (bm 12 511) rfl rfl (one_of HT_.out (by kernel_rfl)) (by decide) (fun K hK => ?_)
          refine goes_ Try.func29 (by kernel_rfl) rfl #[.agg #[.int .i64 a0_0, .slice A0_1 l0_1.length c0_1, .slice A0_2 l0_2.length c0_2], .int .i64 a2, .bool (rdOf false y360 x20_1), .int .i64 (rd x12_15 x34_3)] (by rfl) rfl rfl zG ?_
          with_reducible refine (impl_MoveOf.calls a0_0 _ _ l0_1 _ _ l0_2 a2 (rdOf false y360 x20_1) (rd x12_15 x34_3) t371 _ ?side1 ?side2 ?side3 ?side4 A30.out).mono ?_
          (case side1 => exact cS HR0_1 HB)
          (case side2 => exact HC0_1.out)
          (case side3 => exact cS HR0_2 HB)
          (case side4 => exact HC0_2.out)
          rintro e w51 ⟨rfl, hb⟩
          refine ⟨_, rfl, ?_⟩
          replace HO_9 := Aside0.mk (Kd.S_below (zS HO_9) hb)
          replace HO_18 := Aside0.mk (Kd.R_below (zR HO_18) hb)
          replace HO_32 := Aside0.mk (Kd.R_below (zR HO_32) hb)
          replace BK355 := kB BK355 hb
          replace BK356 := kB BK356 hb
          replace HB := bS HB hb
          (try clear hb); (try clear hb2); (try clear hk); (try clear hi)
          refine hK.out _ _ ⟨bc0 BK355, bc1 BK355, bc2 BK355, bc0 BK356, bc1 BK356, bc2 BK356⟩ (fun hHeld => ?_)
          clear hK K
          refine nU 42 ?_
          refine one_ (i := 9) (N := some 47) (bm 12 1023) rfl rfl (one_of HT_.out (by kernel_rfl)) (by decide) (fun K hK => ?_)
          refine goes_ Try.func29 (by kernel_rfl) rfl #[.agg #[.int .i64 a1_0, .slice A1_1 l1_1.length c1_1, .slice A1_2 l1_2.length c1_2], .int .i64 a3, .bool (rdOf false y360 x20_1), .int .i64 (rd x12_15 x34_3)] (by rfl) rfl rfl zG ?_
          with_reducible refine (impl_MoveOf.calls a1_0 _ _ l1_1 _ _ l1_2 a3 (rdOf false y360 x20_1) (rd x12_15 x34_3) t372 _ ?side1 ?side2 ?side3 ?side4 A31.out).mono ?_
          (case side1 => exact cS HR1_1 HB)
          (case side2 => exact HC1_1.out)
          (case side3 => exact cS HR1_2 HB)
          (case side4 => exact HC1_2.out)
          rintro e w52 ⟨rfl, hb⟩
          refine ⟨_, rfl, ?_⟩
          replace HO_9 := Aside0.mk (Kd.S_below (zS HO_9) hb)
          replace HO_18 := Aside0.mk (Kd.R_below (zR HO_18) hb)
          replace HO_32 := Aside0.mk (Kd.R_below (zR HO_32) hb)
          replace BK355 := kB BK355 hb
          replace BK356 := kB BK356 hb
          replace HB := bS HB hb
          (try clear hb); (try clear hb2); (try clear hk); (try clear hi)
          refine hK.out _ _ ⟨bc0 BK355, bc1 BK355, bc2 BK355, bc0 BK356, bc1 BK356, bc2 BK356⟩ (fun hHeld => ?_)
          clear hK K
          refine nU 47 ?_
          refine pU 10 (some 15) (bm 12 2047) HT_ rfl rfl ?_
          refine pU 11 (some 16) (bm 12 4095) HT_ rfl rfl ?_
          refine done_ (done_of HT_.out (by kernel_rfl)) ?_
          try clear hHeld
          try go_wp2
          go_roundg k3
          case measure => have := HK1.out; have := HJ15.out; have := HK3.out; omega
          case rel => exact ⟨(x9_3), (wrap64 (x34_3 + 1)), zF, H', ⟨by have := HK1.out; have := HJ15.out; have := HK3.out; omega⟩, ⟨zS HO_9⟩, ⟨zR HO_18⟩, ⟨zR HO_32⟩, ⟨zK BK355⟩, ⟨zK BK356⟩, ⟨zB HB⟩⟩
        ·rw [if_neg c27] at H
         have c27b0 : decide (x34_3 < (x12_15.length : Int)) = false := decide_eq_false c27
         clear c27
         have H' := Aside0.mk H
         clear H
         go_wp2
         go_roundg k3
         case measure => have := HK1.out; have := HJ15.out; have := HK3.out; omega
         case rel => exact ⟨(x9_3), (wrap64 (x20_1 + 1)), zF, H', ⟨by have := HK1.out; have := HJ15.out; have := HK3.out; omega⟩, ⟨by (with_reducible repeat (first | apply Kd.S_alloc | apply Kd.S_drewN | apply Kd.S_drew)); exact Kd.S_mono HO_9.out (fun _ hk => trivial)⟩, ⟨zR HO_18⟩, ⟨zK BK355⟩, ⟨zK BK356⟩, ⟨zB HB⟩⟩
   ·rw [if_neg c12] at H
    have c12b0 : decide (x20_1 < (y360.length : Int)) = false := decide_eq_false c12
    clear c12
    obtain rfl := Option.some.inj H
    go_wp2
    go_ret
    exact ⟨_, zE, by (with_reducible repeat (first | apply Kd.S_alloc | apply Kd.S_drewN | apply Kd.S_drew)); exact HO_9.out, zB HB⟩

/-! ### impl_FollowPairs_reach: functions 20 and 52 (by hand) -/
set_option maxRecDepth 100000 in
theorem impl_FollowPairs_reach.lit (k : Nat) (x y : Int) (a0_0 : Int) (A0_1 : Option Addr) (c0_1 : Nat) (l0_1 : List Bool) (A0_2 : Option Addr) (c0_2 : Nat) (l0_2 : List (S46)) (a1_0 : Int) (A1_1 : Option Addr) (c1_1 : Nat) (l1_1 : List Bool) (A1_2 : Option Addr) (c1_2 : Nat) (l1_2 : List (S46)) (r : List (List Int)) (W : World) (hr0_1 : Kd.C Kd.bool W A0_1 l0_1.length l0_1) (hc0_1 : l0_1.length ≤ c0_1) (hr0_2 : Kd.C k46 W A0_2 l0_2.length l0_2) (hc0_2 : l0_2.length ≤ c0_2) (hr1_1 : Kd.C Kd.bool W A1_1 l1_1.length l1_1) (hc1_1 : l1_1.length ≤ c1_1) (hr1_2 : Kd.C k46 W A1_2 l1_2.length l1_2) (hc1_2 : l1_2.length ≤ c1_2) {B0_ B1_ : Nat} (hB0_ : W.heap[B0_]? = some (.cells #[.int .i64 a0_0, .slice A0_1 l0_1.length c0_1, .slice A0_2 l0_2.length c0_2] 27 (0, 0))) (hB1_ : W.heap[B1_]? = some (.cells #[.int .i64 a1_0, .slice A1_1 l1_1.length c1_1, .slice A1_2 l1_2.length c1_2] 27 (0, 0))) (h : impl_nextFollowed.f k a0_0 l0_1 l0_2 a1_0 l1_1 l1_2 x y = some r) :
  Calls Try.prog 52 #[.int .i64 x, .int .i64 y, .pointer (some ⟨B0_, 0, none⟩), .pointer (some ⟨B1_, 0, none⟩)] W fun e w' => ∃ v0_ : Value, e = .returned (v0_) ∧ Kd.S (Kd.slice 3 (Kd.int .i64)) 31 w' W.heap.size (fun _ => True) v0_ r ∧ Below W.heap.size W w' := by
 have hcl0_0 : W.cell? ⟨B0_, 0, none⟩ = some (.int .i64 a0_0) := (blk_cell hB0_ 0).trans rfl
 have hcl0_1 : W.cell? ⟨B0_, 1, none⟩ = some (.slice A0_1 l0_1.length c0_1) := (blk_cell hB0_ 1).trans rfl
 have hcl0_2 : W.cell? ⟨B0_, 2, none⟩ = some (.slice A0_2 l0_2.length c0_2) := (blk_cell hB0_ 2).trans rfl
 have hbk0_ := blk_lt hB0_
 have hcl1_0 : W.cell? ⟨B1_, 0, none⟩ = some (.int .i64 a1_0) := (blk_cell hB1_ 0).trans rfl
 have hcl1_1 : W.cell? ⟨B1_, 1, none⟩ = some (.slice A1_1 l1_1.length c1_1) := (blk_cell hB1_ 1).trans rfl
 have hcl1_2 : W.cell? ⟨B1_, 2, none⟩ = some (.slice A1_2 l1_2.length c1_2) := (blk_cell hB1_ 2).trans rfl
 have hbk1_ := blk_lt hB1_
 have hu27 := Try.underlying27
 have HX := Aside0.mk (impl_nextFollowed.calls k a0_0 A0_1 c0_1 l0_1 A0_2 c0_2 l0_2 a1_0 A1_1 c1_1 l1_1 A1_2 c1_2 l1_2 x y r W hr0_1 hc0_1 hr0_2 hc0_2 hr1_1 hc1_1 hr1_2 hc1_2 h)
 clear h hr0_1 hc0_1 hr0_2 hc0_2 hr1_1 hc1_1 hr1_2 hc1_2
 go_enter Try.func52, Try.ntmps52
 go_wp2_with (go_at_call 53; refine HX.out.mono ?_; rintro e w' ⟨v_, rfl, hs, hb⟩)
 go_ret
 exact ⟨v_, rfl, hs, hb⟩
def impl_FollowPairs_reach.f (k : Nat) (a0_0 : Int) (l0_1 : List Bool) (l0_2 : List (S46)) (a1_0 : Int) (l1_1 : List Bool) (l1_2 : List (S46)) : Option (List (List Int)) := impl_reached.f (inst_ := ⟨fun k_ x_ y_ => impl_nextFollowed.f k_ a0_0 l0_1 l0_2 a1_0 l1_1 l1_2 x_ y_, fun x_ y_ k_ => impl_nextFollowed.mono a0_0 l0_1 l0_2 a1_0 l1_1 l1_2 x_ y_ k_⟩) k
theorem impl_FollowPairs_reach.mono : ∀ y0 y1 y2 y3 y4 y5 k, LeO (impl_FollowPairs_reach.f k y0 y1 y2 y3 y4 y5) (impl_FollowPairs_reach.f (k + 1) y0 y1 y2 y3 y4 y5) := fun y0 y1 y2 y3 y4 y5 => impl_reached.mono (inst_ := ⟨fun k_ x_ y_ => impl_nextFollowed.f k_ y0 y1 y2 y3 y4 y5 x_ y_, fun x_ y_ k_ => impl_nextFollowed.mono y0 y1 y2 y3 y4 y5 x_ y_ k_⟩)
theorem impl_FollowPairs_reach.calls (k : Nat) (a0_0 : Int) (A0_1 : Option Addr) (c0_1 : Nat) (l0_1 : List Bool) (A0_2 : Option Addr) (c0_2 : Nat) (l0_2 : List (S46)) (a1_0 : Int) (A1_1 : Option Addr) (c1_1 : Nat) (l1_1 : List Bool) (A1_2 : Option Addr) (c1_2 : Nat) (l1_2 : List (S46)) (r : List (List Int)) (w : World) (hr0_1 : Kd.C Kd.bool w A0_1 l0_1.length l0_1) (hc0_1 : l0_1.length ≤ c0_1) (hr0_2 : Kd.C k46 w A0_2 l0_2.length l0_2) (hc0_2 : l0_2.length ≤ c0_2) (hr1_1 : Kd.C Kd.bool w A1_1 l1_1.length l1_1) (hc1_1 : l1_1.length ≤ c1_1) (hr1_2 : Kd.C k46 w A1_2 l1_2.length l1_2) (hc1_2 : l1_2.length ≤ c1_2) {B0_ B1_ : Nat} (hB0_ : w.heap[B0_]? = some (.cells #[.int .i64 a0_0, .slice A0_1 l0_1.length c0_1, .slice A0_2 l0_2.length c0_2] 27 (0, 0))) (hB1_ : w.heap[B1_]? = some (.cells #[.int .i64 a1_0, .slice A1_1 l1_1.length c1_1, .slice A1_2 l1_2.length c1_2] 27 (0, 0))) (h : impl_FollowPairs_reach.f k a0_0 l0_1 l0_2 a1_0 l1_1 l1_2 = some r) :
  Calls Try.prog 20 #[.func (.func 52) #[] #[.pointer (some ⟨B0_, 0, none⟩), .pointer (some ⟨B1_, 0, none⟩)]] w fun e w' => ∃ v0_ : Value, e = .returned (v0_) ∧ Kd.S (Kd.slice 3 (Kd.int .i64)) 31 w' w.heap.size (fun _ => True) v0_ r ∧ Below w.heap.size w w' :=
 impl_reached.calls (inst_ := ⟨fun k_ x_ y_ => impl_nextFollowed.f k_ a0_0 l0_1 l0_2 a1_0 l1_1 l1_2 x_ y_, fun x_ y_ k_ => impl_nextFollowed.mono a0_0 l0_1 l0_2 a1_0 l1_1 l1_2 x_ y_ k_⟩) k r w Try.func52 (by kernel_rfl) rfl (lb_ := #[.pointer (some ⟨B0_, 0, none⟩), .pointer (some ⟨B1_, 0, none⟩)]) (fun k x y r W hb hf => impl_FollowPairs_reach.lit k x y a0_0 A0_1 c0_1 l0_1 A0_2 c0_2 l0_2 a1_0 A1_1 c1_1 l1_1 A1_2 c1_2 l1_2 r W (Kd.C_below hr0_1 hb) hc0_1 (Kd.C_below hr0_2 hb) hc0_2 (Kd.C_below hr1_1 hb) hc1_1 (Kd.C_below hr1_2 hb) hc1_2 (blk_below hB0_ hb) (blk_below hB1_ hb) hf) h
/-! ### impl_FollowPairs: function 36 -/
def impl_FollowPairs.f (k : Nat) (a0_0 : Int) (l0_1 : List Bool) (l0_2 : List (S46)) (a1_0 : Int) (l1_1 : List Bool) (l1_2 : List (S46)) : Option ((List (List Int))) := (impl_IsMachine.f k a0_0 l0_1 l0_2).bind fun t383 => (if t383 = true then ((impl_IsMachine.f k a1_0 l1_1 l1_2).bind fun t384 => (if t384 = true then ((impl_FollowPairs_reach.f k a0_0 l0_1 l0_2 a1_0 l1_1 l1_2).bind fun t385 => (some t385)) else (some ([] : List (List Int))))) else (some ([] : List (List Int))))
theorem impl_FollowPairs.mono : ∀ a0 a1 a2 a3 a4 a5 k, LeO (impl_FollowPairs.f k a0 a1 a2 a3 a4 a5) (impl_FollowPairs.f (k + 1) a0 a1 a2 a3 a4 a5) := by
 intro a0 a1 a2 a3 a4 a5 k
 unfold impl_FollowPairs.f
 repeat' first
   | (with_reducible exact impl_FollowPairs_reach.mono _ _ _ _ _ _ _)
   | (with_reducible exact impl_IsMachine.mono _ _ _ _)
   | (with_reducible exact LeO.refl _)
   | (with_reducible exact LeO.none _)
   | (with_reducible refine LeO.ite ?_ ?_)
   | (with_reducible refine LeO.bind ?_ (fun _ => ?_))
   | exact impl_FollowPairs_reach.mono _ _ _ _ _ _ _
   | exact impl_IsMachine.mono _ _ _ _
   | exact LeO.none _
   | refine LeO.ite ?_ ?_
   | refine LeO.bind ?_ (fun _ => ?_)
set_option maxHeartbeats 8000000 in
set_option maxRecDepth 100000 in
theorem impl_FollowPairs.calls (k : Nat) (a0_0 : Int) (A0_1 : Option Addr) (c0_1 : Nat) (l0_1 : List Bool) (A0_2 : Option Addr) (c0_2 : Nat) (l0_2 : List (S46)) (a1_0 : Int) (A1_1 : Option Addr) (c1_1 : Nat) (l1_1 : List Bool) (A1_2 : Option Addr) (c1_2 : Nat) (l1_2 : List (S46)) (r : List (List Int)) (w : World) (hr0_1 : Kd.C Kd.bool w A0_1 l0_1.length l0_1) (hc0_1 : l0_1.length ≤ c0_1) (hr0_2 : Kd.C k46 w A0_2 l0_2.length l0_2) (hc0_2 : l0_2.length ≤ c0_2) (hr1_1 : Kd.C Kd.bool w A1_1 l1_1.length l1_1) (hc1_1 : l1_1.length ≤ c1_1) (hr1_2 : Kd.C k46 w A1_2 l1_2.length l1_2) (hc1_2 : l1_2.length ≤ c1_2) (h : impl_FollowPairs.f k a0_0 l0_1 l0_2 a1_0 l1_1 l1_2 = some r) :
  Calls Try.prog 36 #[.agg #[.int .i64 a0_0, .slice A0_1 l0_1.length c0_1, .slice A0_2 l0_2.length c0_2], .agg #[.int .i64 a1_0, .slice A1_1 l1_1.length c1_1, .slice A1_2 l1_2.length c1_2]] w fun e w' => ∃ v0_ : Value, e = .returned (v0_) ∧ Kd.S (Kd.slice 3 (Kd.int .i64)) 31 w' w.heap.size (fun _ => True) v0_ r ∧ Below w.heap.size w w' := by
 have hu27 := Try.underlying27
 have HR0_1 := Aside0.mk hr0_1
 have HC0_1 := Aside0.mk hc0_1
 clear hr0_1 hc0_1
 have HR0_2 := Aside0.mk hr0_2
 have HC0_2 := Aside0.mk hc0_2
 clear hr0_2 hc0_2
 have HR1_1 := Aside0.mk hr1_1
 have HC1_1 := Aside0.mk hc1_1
 clear hr1_1 hc1_1
 have HR1_2 := Aside0.mk hr1_2
 have HC1_2 := Aside0.mk hc1_2
 clear hr1_2 hc1_2
 have HB := Aside0.mk (Below.refl w.heap.size w)
 have H : ((impl_IsMachine.f k a0_0 l0_1 l0_2).bind fun t383 => (if t383 = true then ((impl_IsMachine.f k a1_0 l1_1 l1_2).bind fun t384 => (if t384 = true then ((impl_FollowPairs_reach.f k a0_0 l0_1 l0_2 a1_0 l1_1 l1_2).bind fun t385 => (some t385)) else (some ([] : List (List Int))))) else (some ([] : List (List Int))))) = some r := h
 clear h
 obtain ⟨t383, A3, H⟩ := bindS H
 by_cases c4 : t383 = true
 ·subst c4
  have H1 : ((impl_IsMachine.f k a1_0 l1_1 l1_2).bind fun t384 => (if t384 = true then ((impl_FollowPairs_reach.f k a0_0 l0_1 l0_2 a1_0 l1_1 l1_2).bind fun t385 => (some t385)) else (some ([] : List (List Int))))) = some r := by rw [if_pos rfl] at H; exact H
  clear H
  have H := H1
  clear H1
  obtain ⟨t384, A5, H⟩ := bindS H
  by_cases c6 : t384 = true
  ·subst c6
   have H1 : ((impl_FollowPairs_reach.f k a0_0 l0_1 l0_2 a1_0 l1_1 l1_2).bind fun t385 => (some t385)) = some r := by rw [if_pos rfl] at H; exact H
   clear H
   have H := H1
   clear H1
   obtain ⟨t385, A7, H⟩ := bindS H
   obtain rfl := Option.some.inj H
   go_enter Try.func36, Try.ntmps36
   go_wp2_with (first | ((with_reducible refine gate_dst (N := 2) rfl ?_); refine box_event ?hg (N := 2) ?hd (cs := #[.int .i64 a0_0, .slice A0_1 l0_1.length c0_1, .slice A0_2 l0_2.length c0_2]) (t := 27) ?hr ?_; (case hd => rfl); (case hg => rfl); (case hr => first | (go_simp; done) | (go_simp; rfl)); intro gb381 hg w8 hbox hb; have BK381 := Aside0.mk (hbox); have GW381 := gS HB hg; have GE381 := gS HB hg; replace HB := bS HB hb; clear hb hbox hg) | ((with_reducible refine gate_dst (N := 3) rfl ?_); refine box_event ?hg (N := 3) ?hd (cs := #[.int .i64 a1_0, .slice A1_1 l1_1.length c1_1, .slice A1_2 l1_2.length c1_2]) (t := 27) ?hr ?_; (case hd => rfl); (case hg => rfl); (case hr => first | (go_simp; done) | (go_simp; rfl)); intro gb382 hg w9 hbox hb; have BK382 := Aside0.mk (hbox); have GW382 := gS HB hg; have GE382 := gS HB hg; replace HB := bS HB hb; have NB381_382 := nL BK381 hg; have NB382_381 := nR BK381 hg; replace BK381 := kB BK381 hb; clear hb hbox hg; have hnb10 := NB381_382.out; have hnc10 := NB382_381.out; obtain ⟨hcz11_0, hcz11_1, hcz11_2, hfz11_0, hfz11_1, hfz11_2⟩ := bq3 BK381) | ((with_reducible refine gate_callee (f := 10) rfl ?_); refine goesL_ (some 6) rfl rfl Try.func10 (by kernel_rfl) rfl #[.agg #[.int .i64 a0_0, .slice A0_1 l0_1.length c0_1, .slice A0_2 l0_2.length c0_2]] rfl zG ?_; (with_reducible refine (impl_IsMachine.calls k a0_0 _ _ l0_1 _ _ l0_2 true _ ?side1 ?side2 ?side3 ?side4 A3.out).mono ?_); (case side1 => exact cS HR0_1 HB); (case side2 => exact HC0_1.out); (case side3 => exact cS HR0_2 HB); (case side4 => exact HC0_2.out); rintro e w12 ⟨rfl, hb⟩; refine ⟨_, rfl, ?_⟩; replace BK381 := kB BK381 hb; replace BK382 := kB BK382 hb; replace HB := bS HB hb; (try clear hb); obtain ⟨hcz13_0, hcz13_1, hcz13_2, hfz13_0, hfz13_1, hfz13_2⟩ := bq3 BK382) | (go_at_call 10; (with_reducible refine (impl_IsMachine.calls k a1_0 _ _ l1_1 _ _ l1_2 true _ ?side1 ?side2 ?side3 ?side4 A5.out).mono ?_); (case side1 => exact cS HR1_1 HB); (case side2 => exact HC1_1.out); (case side3 => exact cS HR1_2 HB); (case side4 => exact HC1_2.out); rintro e w14 ⟨rfl, hb⟩; replace BK381 := kB BK381 hb; replace BK382 := kB BK382 hb; replace HB := bS HB hb; (try clear hb)) | ((with_reducible refine gate_callee (f := 20) rfl ?_); refine goesL_ (some 14) rfl rfl Try.func20 (by kernel_rfl) rfl #[.func (.func 52) #[] #[.pointer (some ⟨gb381, 0, none⟩), .pointer (some ⟨gb382, 0, none⟩)]] rfl zG ?_; (with_reducible refine (impl_FollowPairs_reach.calls k a0_0 A0_1 c0_1 l0_1 A0_2 c0_2 l0_2 a1_0 A1_1 c1_1 l1_1 A1_2 c1_2 l1_2 t385 _ ?side1 ?side2 ?side3 ?side4 ?side5 ?side6 ?side7 ?side8 ?side9 ?side10 A7.out).mono ?_); (case side1 => exact cS HR0_1 HB); (case side2 => exact HC0_1.out); (case side3 => exact cS HR0_2 HB); (case side4 => exact HC0_2.out); (case side5 => exact cS HR1_1 HB); (case side6 => exact HC1_1.out); (case side7 => exact cS HR1_2 HB); (case side8 => exact HC1_2.out); (case side9 => exact (fun h_ => h_) (zK BK381)); (case side10 => exact (fun h_ => h_) (zK BK382)); rintro e w15 ⟨v386, rfl, ho0, hb⟩; refine ⟨_, rfl, ?_⟩; have HO387 := Aside0.mk (Kd.S_lower ho0 (below_size (zB HB))); replace BK381 := kB BK381 hb; replace BK382 := kB BK382 hb; replace HB := bS HB hb; (try clear hb); (try clear ho0)))
   go_ret
   exact ⟨_, zE, by (with_reducible repeat (first | apply Kd.S_alloc | apply Kd.S_drewN | apply Kd.S_drew)); exact HO387.out, zB HB⟩
  ·replace c6 := Bool.eq_false_iff.mpr c6
   subst c6
   have H1 : (some ([] : List (List Int))) = some r := by rw [if_neg (show ¬ (false = true) by decide)] at H; exact H
   clear H
   have H := H1
   clear H1
   obtain rfl := Option.some.inj H
   go_enter Try.func36, Try.ntmps36
   go_wp2_with (first | ((with_reducible refine gate_dst (N := 2) rfl ?_); refine box_event ?hg (N := 2) ?hd (cs := #[.int .i64 a0_0, .slice A0_1 l0_1.length c0_1, .slice A0_2 l0_2.length c0_2]) (t := 27) ?hr ?_; (case hd => rfl); (case hg => rfl); (case hr => first | (go_simp; done) | (go_simp; rfl)); intro gb381 hg w16 hbox hb; have BK381 := Aside0.mk (hbox); have GW381 := gS HB hg; have GE381 := gS HB hg; replace HB := bS HB hb; clear hb hbox hg) | ((with_reducible refine gate_dst (N := 3) rfl ?_); refine box_event ?hg (N := 3) ?hd (cs := #[.int .i64 a1_0, .slice A1_1 l1_1.length c1_1, .slice A1_2 l1_2.length c1_2]) (t := 27) ?hr ?_; (case hd => rfl); (case hg => rfl); (case hr => first | (go_simp; done) | (go_simp; rfl)); intro gb382 hg w17 hbox hb; have BK382 := Aside0.mk (hbox); have GW382 := gS HB hg; have GE382 := gS HB hg; replace HB := bS HB hb; have NB381_382 := nL BK381 hg; have NB382_381 := nR BK381 hg; replace BK381 := kB BK381 hb; clear hb hbox hg; have hnb18 := NB381_382.out; have hnc18 := NB382_381.out; obtain ⟨hcz19_0, hcz19_1, hcz19_2, hfz19_0, hfz19_1, hfz19_2⟩ := bq3 BK381) | ((with_reducible refine gate_callee (f := 10) rfl ?_); refine goesL_ (some 6) rfl rfl Try.func10 (by kernel_rfl) rfl #[.agg #[.int .i64 a0_0, .slice A0_1 l0_1.length c0_1, .slice A0_2 l0_2.length c0_2]] rfl zG ?_; (with_reducible refine (impl_IsMachine.calls k a0_0 _ _ l0_1 _ _ l0_2 true _ ?side1 ?side2 ?side3 ?side4 A3.out).mono ?_); (case side1 => exact cS HR0_1 HB); (case side2 => exact HC0_1.out); (case side3 => exact cS HR0_2 HB); (case side4 => exact HC0_2.out); rintro e w20 ⟨rfl, hb⟩; refine ⟨_, rfl, ?_⟩; replace BK381 := kB BK381 hb; replace BK382 := kB BK382 hb; replace HB := bS HB hb; (try clear hb); obtain ⟨hcz21_0, hcz21_1, hcz21_2, hfz21_0, hfz21_1, hfz21_2⟩ := bq3 BK382) | (go_at_call 10; (with_reducible refine (impl_IsMachine.calls k a1_0 _ _ l1_1 _ _ l1_2 false _ ?side1 ?side2 ?side3 ?side4 A5.out).mono ?_); (case side1 => exact cS HR1_1 HB); (case side2 => exact HC1_1.out); (case side3 => exact cS HR1_2 HB); (case side4 => exact HC1_2.out); rintro e w22 ⟨rfl, hb⟩; replace BK381 := kB BK381 hb; replace BK382 := kB BK382 hb; replace HB := bS HB hb; (try clear hb)))
   go_ret
   exact ⟨_, zE, by first | exact Kd.S_nil _ _ _ _ _ | exact Kd.N_nil _ _ _ _ _ | exact Kd.V_nil _ _ _ _ _ | exact Kd.Q_nil _ _ _ _ _ | exact Kd.R_nil _ _ _ _ _, zB HB⟩
 ·replace c4 := Bool.eq_false_iff.mpr c4
  subst c4
  have H1 : (some ([] : List (List Int))) = some r := by rw [if_neg (show ¬ (false = true) by decide)] at H; exact H
  clear H
  have H := H1
  clear H1
  obtain rfl := Option.some.inj H
  go_enter Try.func36, Try.ntmps36
  go_wp2_with (first | ((with_reducible refine gate_dst (N := 2) rfl ?_); refine box_event ?hg (N := 2) ?hd (cs := #[.int .i64 a0_0, .slice A0_1 l0_1.length c0_1, .slice A0_2 l0_2.length c0_2]) (t := 27) ?hr ?_; (case hd => rfl); (case hg => rfl); (case hr => first | (go_simp; done) | (go_simp; rfl)); intro gb381 hg w23 hbox hb; have BK381 := Aside0.mk (hbox); have GW381 := gS HB hg; have GE381 := gS HB hg; replace HB := bS HB hb; clear hb hbox hg) | ((with_reducible refine gate_dst (N := 3) rfl ?_); refine box_event ?hg (N := 3) ?hd (cs := #[.int .i64 a1_0, .slice A1_1 l1_1.length c1_1, .slice A1_2 l1_2.length c1_2]) (t := 27) ?hr ?_; (case hd => rfl); (case hg => rfl); (case hr => first | (go_simp; done) | (go_simp; rfl)); intro gb382 hg w24 hbox hb; have BK382 := Aside0.mk (hbox); have GW382 := gS HB hg; have GE382 := gS HB hg; replace HB := bS HB hb; have NB381_382 := nL BK381 hg; have NB382_381 := nR BK381 hg; replace BK381 := kB BK381 hb; clear hb hbox hg; have hnb25 := NB381_382.out; have hnc25 := NB382_381.out; obtain ⟨hcz26_0, hcz26_1, hcz26_2, hfz26_0, hfz26_1, hfz26_2⟩ := bq3 BK381) | ((with_reducible refine gate_callee (f := 10) rfl ?_); refine goesL_ (some 6) rfl rfl Try.func10 (by kernel_rfl) rfl #[.agg #[.int .i64 a0_0, .slice A0_1 l0_1.length c0_1, .slice A0_2 l0_2.length c0_2]] rfl zG ?_; (with_reducible refine (impl_IsMachine.calls k a0_0 _ _ l0_1 _ _ l0_2 false _ ?side1 ?side2 ?side3 ?side4 A3.out).mono ?_); (case side1 => exact cS HR0_1 HB); (case side2 => exact HC0_1.out); (case side3 => exact cS HR0_2 HB); (case side4 => exact HC0_2.out); rintro e w27 ⟨rfl, hb⟩; refine ⟨_, rfl, ?_⟩; replace BK381 := kB BK381 hb; replace BK382 := kB BK382 hb; replace HB := bS HB hb; (try clear hb)))
  go_ret
  exact ⟨_, zE, by first | exact Kd.S_nil _ _ _ _ _ | exact Kd.N_nil _ _ _ _ _ | exact Kd.V_nil _ _ _ _ _ | exact Kd.Q_nil _ _ _ _ _ | exact Kd.R_nil _ _ _ _ _, zB HB⟩

/-! ### slices_Index_int_int: function 57 -/
def slices_Index_int_int.l0 : Nat → List Int → Int → Int → Int → Option (Int)
 | 0, _, _, _, _ => none
 | k + 1, x0, x1, x7, x8 => if x8 < x7 then (if 0 ≤ x8 then (if x8 < (x0.length : Int) then (if x1 = (rd x0 x8) then (some x8) else (slices_Index_int_int.l0 k x0 x1 x7 (wrap64 (x8 + 1)))) else (none)) else (none)) else (some (-1))
def slices_Index_int_int.f (k : Nat) (l0 : List Int) (a1 : Int) : Option (Int) := slices_Index_int_int.l0 k l0 a1 (l0.length : Int) 0
theorem slices_Index_int_int.mono_l : ∀ k, (∀ y0 y1 y2 y3, LeO (slices_Index_int_int.l0 k y0 y1 y2 y3) (slices_Index_int_int.l0 (k + 1) y0 y1 y2 y3))
 | 0 => fun _ _ _ _ r h => by simp [slices_Index_int_int.l0] at h
 | k + 1 => by
  have ih0 := slices_Index_int_int.mono_l k
  ·intro y0 y1 y2 y3
   unfold slices_Index_int_int.l0
   repeat' first
   | (with_reducible exact ih0 _ _ _ _)
   | (with_reducible exact LeO.refl _)
   | (with_reducible exact LeO.none _)
   | (with_reducible refine LeO.ite ?_ ?_)
   | (with_reducible refine LeO.bind ?_ (fun _ => ?_))
   | exact ih0 _ _ _ _
   | exact LeO.none _
   | refine LeO.ite ?_ ?_
   | refine LeO.bind ?_ (fun _ => ?_)
theorem slices_Index_int_int.mono : ∀ a0 a1 k, LeO (slices_Index_int_int.f k a0 a1) (slices_Index_int_int.f (k + 1) a0 a1) := by
 intro a0 a1 k
 have ih0 := slices_Index_int_int.mono_l k
 unfold slices_Index_int_int.f
 repeat' first
   | (with_reducible exact ih0 _ _ _ _)
   | (with_reducible exact LeO.refl _)
   | (with_reducible exact LeO.none _)
   | (with_reducible refine LeO.ite ?_ ?_)
   | (with_reducible refine LeO.bind ?_ (fun _ => ?_))
   | exact ih0 _ _ _ _
   | exact LeO.none _
   | refine LeO.ite ?_ ?_
   | refine LeO.bind ?_ (fun _ => ?_)
set_option maxHeartbeats 8000000 in
set_option maxRecDepth 100000 in
theorem slices_Index_int_int.calls (k : Nat) (A0 : Option Addr) (c0 : Nat) (l0 : List Int) (a1 : Int) (r : Int) (w : World) (hr0 : Kd.C (Kd.int .i64) w A0 l0.length l0) (hc0 : l0.length ≤ c0) (h : slices_Index_int_int.f k l0 a1 = some r) :
  Calls Try.prog 57 #[.slice A0 l0.length c0, .int .i64 a1] w fun e w' => e = .returned (.int .i64 r) ∧ Drawn0 w w' := by
 have HR0 := Aside0.mk hr0
 have HC0 := Aside0.mk hc0
 clear hr0 hc0
 have H : (slices_Index_int_int.l0 k l0 a1 (l0.length : Int) 0) = some r := h
 clear h
 have H' := Aside0.mk H
 clear H
 go_enter Try.func57, Try.ntmps57
 go_wp2
 go_loopg [8] k (fun kq v8 w' => ∃ (x8_1 : Int), v8 = .int .i64 x8_1 ∧ Aside0 (slices_Index_int_int.l0 kq l0 a1 (l0.length : Int) x8_1 = some r) ∧ Aside0 (kq ≤ k) ∧ Drawn0 w w')
 case atStart => exact ⟨(0), zF, H', ⟨Nat.le_refl _⟩, by repeat (first | exact Drawn0.refl _ | apply Drawn0.step)⟩
 case round =>
  clear H'
  try clear p2
  obtain ⟨x8_1, rfl, HA, HK1, ⟨m1, rfl⟩⟩ := hrel
  cases gk with
  | zero => exact absurd HA.out (by simp [slices_Index_int_int.l0])
  | succ k1 =>
   have H := HA.out
   clear HA
   simp only [slices_Index_int_int.l0] at H
   by_cases c3 : x8_1 < (l0.length : Int)
   ·rw [if_pos c3] at H
    have c3b0 : decide (x8_1 < (l0.length : Int)) = true := decide_eq_true c3
    clear c3
    obtain ⟨c4, H⟩ := ifS H
    have c4b0 : decide (0 ≤ x8_1) = true := decide_eq_true c4
    clear c4
    obtain ⟨c5, H⟩ := ifS H
    have c5b0 : decide (x8_1 < (l0.length : Int)) = true := decide_eq_true c5
    clear c5
    by_cases c6 : a1 = (rd l0 x8_1)
    ·rw [if_pos c6] at H
     have c6b0 : (a1 == (rd l0 x8_1)) = true := beq_iff_eq.mpr c6
     have c6b1 : (a1 != (rd l0 x8_1)) = false := bne_eq_false_iff_eq.mpr c6
     clear c6
     obtain rfl := Option.some.inj H
     have p388 : 0 ≤ (x8_1 : Int) := zD
     have q388 : x8_1 < (l0.length : Int) := zD
     obtain ⟨ad388, e388, hx388_0⟩ := Kd.at_int HR0.out x8_1 p388 q388
     cases e388
     replace p388 := eq_true p388
     replace q388 := eq_true q388
     go_wp2
     go_ret
     exact ⟨by first | rfl | (simp; done) | (simp [*]; done), by repeat (first | exact Drawn0.refl _ | apply Drawn0.step)⟩
    ·rw [if_neg c6] at H
     have c6b0 : (a1 == (rd l0 x8_1)) = false := beq_eq_false_iff_ne.mpr c6
     have c6b1 : (a1 != (rd l0 x8_1)) = true := bne_iff_ne.mpr c6
     have H' := Aside0.mk H
     clear H
     have p388 : 0 ≤ (x8_1 : Int) := zD
     have q388 : x8_1 < (l0.length : Int) := zD
     obtain ⟨ad388, e388, hx388_0⟩ := Kd.at_int HR0.out x8_1 p388 q388
     cases e388
     replace p388 := eq_true p388
     replace q388 := eq_true q388
     go_wp2
     go_roundg k1
     case measure => have := HK1.out; omega
     case rel => exact ⟨(wrap64 (x8_1 + 1)), zF, H', ⟨by have := HK1.out; omega⟩, by repeat (first | exact Drawn0.refl _ | apply Drawn0.step)⟩
   ·rw [if_neg c3] at H
    have c3b0 : decide (x8_1 < (l0.length : Int)) = false := decide_eq_false c3
    clear c3
    obtain rfl := Option.some.inj H
    go_wp2
    go_ret
    exact ⟨by first | rfl | (simp; done) | (simp [*]; done), by repeat (first | exact Drawn0.refl _ | apply Drawn0.step)⟩

/-! ### slices_Contains_int_int: function 43 -/
def slices_Contains_int_int.f (k : Nat) (l0 : List Int) (a1 : Int) : Option (Bool) := (slices_Index_int_int.f k l0 a1).bind fun t389 => (some (decide (t389 ≥ 0)))
theorem slices_Contains_int_int.mono : ∀ a0 a1 k, LeO (slices_Contains_int_int.f k a0 a1) (slices_Contains_int_int.f (k + 1) a0 a1) := by
 intro a0 a1 k
 unfold slices_Contains_int_int.f
 repeat' first
   | (with_reducible exact slices_Index_int_int.mono _ _ _)
   | (with_reducible exact LeO.refl _)
   | (with_reducible exact LeO.none _)
   | (with_reducible refine LeO.ite ?_ ?_)
   | (with_reducible refine LeO.bind ?_ (fun _ => ?_))
   | exact slices_Index_int_int.mono _ _ _
   | exact LeO.none _
   | refine LeO.ite ?_ ?_
   | refine LeO.bind ?_ (fun _ => ?_)
set_option maxHeartbeats 8000000 in
set_option maxRecDepth 100000 in
theorem slices_Contains_int_int.calls (k : Nat) (A0 : Option Addr) (c0 : Nat) (l0 : List Int) (a1 : Int) (r : Bool) (w : World) (hr0 : Kd.C (Kd.int .i64) w A0 l0.length l0) (hc0 : l0.length ≤ c0) (h : slices_Contains_int_int.f k l0 a1 = some r) :
  Calls Try.prog 43 #[.slice A0 l0.length c0, .int .i64 a1] w fun e w' => e = .returned (.bool r) ∧ Drawn0 w w' := by
 have HR0 := Aside0.mk hr0
 have HC0 := Aside0.mk hc0
 clear hr0 hc0
 have H : ((slices_Index_int_int.f k l0 a1).bind fun t389 => (some (decide (t389 ≥ 0)))) = some r := h
 clear h
 obtain ⟨t389, A3, H⟩ := bindS H
 obtain rfl := Option.some.inj H
 go_enter Try.func43, Try.ntmps43
 go_wp2_with (first | ((with_reducible refine gate_callee (f := 57) rfl ?_); refine goesL_ (some 7) rfl rfl Try.func57 (by kernel_rfl) rfl #[.slice A0 l0.length c0, .int .i64 a1] rfl zG ?_; (with_reducible refine (slices_Index_int_int.calls k _ _ l0 a1 t389 _ ?side1 ?side2 A3.out).mono ?_); (case side1 => exact cT HR0); (case side2 => exact HC0.out); rintro e w' ⟨rfl, ⟨nd, rfl⟩⟩; refine ⟨_, rfl, ?_⟩))
 go_ret
 exact ⟨by first | rfl | (simp; done) | (simp [*]; done), by repeat (first | exact Drawn0.refl _ | apply Drawn0.step)⟩

end Go.Proofs.Ytfibjclnaeocbaa.PFnChain
