-- WRITTEN by pp.py, this session's own wrapper around the print; not trusted: Lean checks it
import Derived.Test.YtmenijbpglknbaaPFnExactFollowsx0
import Derived.Test.YtmenijbpglknbaaPFnExactFollowsx11
namespace Go.Proofs.Ytmenijbpglknbaa.PFnExactFollows
open Go.RowKit Go.Proofs.Ytmenijbpglknbaa.Hw Go.Proofs.YtmenijbpglknbaaW.PrintWords Go.Proofs.YtmenijbpglknbaaW.PrintLast Go.Proofs.YtmenijbpglknbaaW.PrintMore
attribute [local go_sem] max2_int min2_int max_two min_two max_three min_three max_four min_four   -- for this text's walks alone
set_option linter.unusedVariables false
set_option linter.unusedSimpArgs false
set_option linter.unusedSectionVars false

/-! ### impl_nextFollowed: function 52 -/
mutual
def impl_nextFollowed.l0 : Nat → Int → Int → List (List Int) → List Bool → Int → Int → Int → List Bool → List (S64) → Int → List Bool → List (S64) → Option ((List (List Int)))
 | 0, _, _, _, _, _, _, _, _, _, _, _, _ => none
 | k + 1, x2, x3, x9, x18, x19, x20, x371000, x371001, x371002, x372000, x372001, x372002 => if x20 < x19 then (if 0 ≤ x20 then (if x20 < (x18.length : Int) then ((impl_MovesFrom.f k x371000 x371001 x371002 x2 true).bind fun t379 => (if rdOf false x18 x20 = true then (impl_nextFollowed.j1 k x2 x3 x9 (rdOf false x18 x20) t379 x18 x19 x20 x371000 x371001 x371002 x372000 x372001 x372002) else ((impl_MovesFrom.f k x372000 x372001 x372002 x3 false).bind fun t382 => (impl_nextFollowed.j1 k x2 x3 x9 (rdOf false x18 x20) t382 x18 x19 x20 x371000 x371001 x371002 x372000 x372001 x372002)))) else (none)) else (none)) else (some x9)
def impl_nextFollowed.j1 : Nat → Int → Int → List (List Int) → Bool → List Int → List Bool → Int → Int → Int → List Bool → List (S64) → Int → List Bool → List (S64) → Option ((List (List Int)))
 | 0, _, _, _, _, _, _, _, _, _, _, _, _, _, _ => none
 | k + 1, x2, x3, x9, x11, x12, x18, x19, x20, x371000, x371001, x371002, x372000, x372001, x372002 => impl_nextFollowed.l1 k x2 x3 x9 x11 x18 x19 x20 x12 (x12.length : Int) 0 x371000 x371001 x371002 x372000 x372001 x372002
def impl_nextFollowed.l1 : Nat → Int → Int → List (List Int) → Bool → List Bool → Int → Int → List Int → Int → Int → Int → List Bool → List (S64) → Int → List Bool → List (S64) → Option ((List (List Int)))
 | 0, _, _, _, _, _, _, _, _, _, _, _, _, _, _, _, _ => none
 | k + 1, x2, x3, x9, x11, x18, x19, x20, x32, x33, x34, x371000, x371001, x371002, x372000, x372001, x372002 => if x34 < x33 then (if 0 ≤ x34 then (if x34 < (x32.length : Int) then ((impl_MoveOf.f x371000 x371001 x371002 x2 x11 (rd x32 x34)).bind fun t386 => ((impl_MoveOf.f x372000 x372001 x372002 x3 x11 (rd x32 x34)).bind fun t387 => (if t386 ≥ 0 then (if t387 ≥ 0 then (if 0 ≤ t386 then (if t386 < (x371002.length : Int) then (if 0 ≤ t387 then (if t387 < (x372002.length : Int) then (if x9.length < 5864062014805 then (impl_nextFollowed.l1 k x2 x3 (x9 ++ [(([(rd_T64 x371002 t386).f3, (rd_T64 x372002 t387).f3] : List Int))]) x11 x18 x19 x20 x32 x33 (wrap64 (x34 + 1)) x371000 x371001 x371002 x372000 x372001 x372002) else (none)) else (none)) else (none)) else (none)) else (none)) else (impl_nextFollowed.l1 k x2 x3 x9 x11 x18 x19 x20 x32 x33 (wrap64 (x34 + 1)) x371000 x371001 x371002 x372000 x372001 x372002)) else (impl_nextFollowed.l1 k x2 x3 x9 x11 x18 x19 x20 x32 x33 (wrap64 (x34 + 1)) x371000 x371001 x371002 x372000 x372001 x372002)))) else (none)) else (none)) else (impl_nextFollowed.l0 k x2 x3 x9 x18 x19 (wrap64 (x20 + 1)) x371000 x371001 x371002 x372000 x372001 x372002)
end
def impl_nextFollowed.f (k : Nat) (a0_0 : Int) (l0_1 : List Bool) (l0_2 : List (S64)) (a1_0 : Int) (l1_1 : List Bool) (l1_2 : List (S64)) (a2 : Int) (a3 : Int) : Option ((List (List Int))) := (some (([true, false] : List Bool) : List Bool)).bind fun y375 => (impl_nextFollowed.l0 k a2 a3 (([] : List (List Int))) y375 (y375.length : Int) 0 a0_0 l0_1 l0_2 a1_0 l1_1 l1_2)
theorem impl_nextFollowed.mono_l : ∀ k, (∀ y0 y1 y2 y3 y4 y5 y6 y7 y8 y9 y10 y11, LeO (impl_nextFollowed.l0 k y0 y1 y2 y3 y4 y5 y6 y7 y8 y9 y10 y11) (impl_nextFollowed.l0 (k + 1) y0 y1 y2 y3 y4 y5 y6 y7 y8 y9 y10 y11)) ∧ (∀ y0 y1 y2 y3 y4 y5 y6 y7 y8 y9 y10 y11 y12 y13, LeO (impl_nextFollowed.j1 k y0 y1 y2 y3 y4 y5 y6 y7 y8 y9 y10 y11 y12 y13) (impl_nextFollowed.j1 (k + 1) y0 y1 y2 y3 y4 y5 y6 y7 y8 y9 y10 y11 y12 y13)) ∧ (∀ y0 y1 y2 y3 y4 y5 y6 y7 y8 y9 y10 y11 y12 y13 y14 y15, LeO (impl_nextFollowed.l1 k y0 y1 y2 y3 y4 y5 y6 y7 y8 y9 y10 y11 y12 y13 y14 y15) (impl_nextFollowed.l1 (k + 1) y0 y1 y2 y3 y4 y5 y6 y7 y8 y9 y10 y11 y12 y13 y14 y15))
 | 0 => ⟨fun _ _ _ _ _ _ _ _ _ _ _ _ r h => by simp [impl_nextFollowed.l0] at h, fun _ _ _ _ _ _ _ _ _ _ _ _ _ _ r h => by simp [impl_nextFollowed.j1] at h, fun _ _ _ _ _ _ _ _ _ _ _ _ _ _ _ _ r h => by simp [impl_nextFollowed.l1] at h⟩
 | k + 1 => by
  obtain ⟨ih0, ih1, ih2⟩ := impl_nextFollowed.mono_l k
  refine ⟨?_, ?_, ?_⟩
  ·intro y0 y1 y2 y3 y4 y5 y6 y7 y8 y9 y10 y11
   unfold impl_nextFollowed.l0
   repeat' first
   | (with_reducible exact ih0 _ _ _ _ _ _ _ _ _ _ _ _)
   | (with_reducible exact ih1 _ _ _ _ _ _ _ _ _ _ _ _ _ _)
   | (with_reducible exact ih2 _ _ _ _ _ _ _ _ _ _ _ _ _ _ _ _)
   | (with_reducible exact impl_MovesFrom.mono _ _ _ _ _ _)
   | (with_reducible exact LeO.refl _)
   | (with_reducible exact LeO.none _)
   | (with_reducible refine LeO.ite ?_ ?_)
   | (with_reducible refine LeO.bind ?_ (fun _ => ?_))
   | exact ih0 _ _ _ _ _ _ _ _ _ _ _ _
   | exact ih1 _ _ _ _ _ _ _ _ _ _ _ _ _ _
   | exact ih2 _ _ _ _ _ _ _ _ _ _ _ _ _ _ _ _
   | exact impl_MovesFrom.mono _ _ _ _ _ _
   | exact LeO.none _
   | refine LeO.ite ?_ ?_
   | refine LeO.bind ?_ (fun _ => ?_)
  ·intro y0 y1 y2 y3 y4 y5 y6 y7 y8 y9 y10 y11 y12 y13
   unfold impl_nextFollowed.j1
   repeat' first
   | (with_reducible exact ih0 _ _ _ _ _ _ _ _ _ _ _ _)
   | (with_reducible exact ih1 _ _ _ _ _ _ _ _ _ _ _ _ _ _)
   | (with_reducible exact ih2 _ _ _ _ _ _ _ _ _ _ _ _ _ _ _ _)
   | (with_reducible exact impl_MovesFrom.mono _ _ _ _ _ _)
   | (with_reducible exact LeO.refl _)
   | (with_reducible exact LeO.none _)
   | (with_reducible refine LeO.ite ?_ ?_)
   | (with_reducible refine LeO.bind ?_ (fun _ => ?_))
   | exact ih0 _ _ _ _ _ _ _ _ _ _ _ _
   | exact ih1 _ _ _ _ _ _ _ _ _ _ _ _ _ _
   | exact ih2 _ _ _ _ _ _ _ _ _ _ _ _ _ _ _ _
   | exact impl_MovesFrom.mono _ _ _ _ _ _
   | exact LeO.none _
   | refine LeO.ite ?_ ?_
   | refine LeO.bind ?_ (fun _ => ?_)
  ·intro y0 y1 y2 y3 y4 y5 y6 y7 y8 y9 y10 y11 y12 y13 y14 y15
   unfold impl_nextFollowed.l1
   repeat' first
   | (with_reducible exact ih0 _ _ _ _ _ _ _ _ _ _ _ _)
   | (with_reducible exact ih1 _ _ _ _ _ _ _ _ _ _ _ _ _ _)
   | (with_reducible exact ih2 _ _ _ _ _ _ _ _ _ _ _ _ _ _ _ _)
   | (with_reducible exact impl_MovesFrom.mono _ _ _ _ _ _)
   | (with_reducible exact LeO.refl _)
   | (with_reducible exact LeO.none _)
   | (with_reducible refine LeO.ite ?_ ?_)
   | (with_reducible refine LeO.bind ?_ (fun _ => ?_))
   | exact ih0 _ _ _ _ _ _ _ _ _ _ _ _
   | exact ih1 _ _ _ _ _ _ _ _ _ _ _ _ _ _
   | exact ih2 _ _ _ _ _ _ _ _ _ _ _ _ _ _ _ _
   | exact impl_MovesFrom.mono _ _ _ _ _ _
   | exact LeO.none _
   | refine LeO.ite ?_ ?_
   | refine LeO.bind ?_ (fun _ => ?_)
theorem impl_nextFollowed.mono : ∀ a0 a1 a2 a3 a4 a5 a6 a7 k, LeO (impl_nextFollowed.f k a0 a1 a2 a3 a4 a5 a6 a7) (impl_nextFollowed.f (k + 1) a0 a1 a2 a3 a4 a5 a6 a7) := by
 intro a0 a1 a2 a3 a4 a5 a6 a7 k
 obtain ⟨ih0, ih1, ih2⟩ := impl_nextFollowed.mono_l k
 unfold impl_nextFollowed.f
 repeat' first
   | (with_reducible exact ih0 _ _ _ _ _ _ _ _ _ _ _ _)
   | (with_reducible exact ih1 _ _ _ _ _ _ _ _ _ _ _ _ _ _)
   | (with_reducible exact ih2 _ _ _ _ _ _ _ _ _ _ _ _ _ _ _ _)
   | (with_reducible exact impl_MovesFrom.mono _ _ _ _ _ _)
   | (with_reducible exact LeO.refl _)
   | (with_reducible exact LeO.none _)
   | (with_reducible refine LeO.ite ?_ ?_)
   | (with_reducible refine LeO.bind ?_ (fun _ => ?_))
   | exact ih0 _ _ _ _ _ _ _ _ _ _ _ _
   | exact ih1 _ _ _ _ _ _ _ _ _ _ _ _ _ _
   | exact ih2 _ _ _ _ _ _ _ _ _ _ _ _ _ _ _ _
   | exact impl_MovesFrom.mono _ _ _ _ _ _
   | exact LeO.none _
   | refine LeO.ite ?_ ?_
   | refine LeO.bind ?_ (fun _ => ?_)
def impl_nextFollowed.T11 : Bool × List (List Nat × List Nat) := (true, [([], []), ([], []), ([], []), ([], []), ([0, 1, 2, 3], [0, 1, 2, 3]), ([], []), ([], []), ([], []), ([], []), ([5, 6, 7, 8, 4], [5, 6, 7, 8]), ([4, 9, 0, 1, 2, 3, 4], [4]), ([9, 10, 0, 1, 2, 3, 4, 5, 6, 7, 8, 9, 10], [9])])
def impl_nextFollowed.B11 : List Nat := [0, 0, 0, 0, 15, 0, 0, 0, 0, 511, 1023, 2047]
theorem impl_nextFollowed.tab11 : rtab .any (opsOf Try.f52 11) = impl_nextFollowed.T11 := by kernel_rfl
theorem impl_nextFollowed.bits11 : waitsOk impl_nextFollowed.T11.2 impl_nextFollowed.B11 = true := by kernel_rfl
def impl_nextFollowed.T13 : Bool × List (List Nat × List Nat) := (true, [([], []), ([], []), ([1], [1]), ([], []), ([2, 3], [2, 3]), ([4], [4]), ([5], [5]), ([], []), ([7], [7]), ([], []), ([8, 9], [8, 9]), ([10], [10]), ([11], [11]), ([6, 12], [6, 12]), ([13], [13]), ([0, 14], [0, 14]), ([15, 15, 0, 1, 2, 3, 4, 5, 6, 7, 8, 9, 10, 11, 12, 13, 14, 15], [0, 15])])
def impl_nextFollowed.B13 : List Nat := [0, 0, 2, 0, 14, 30, 62, 0, 128, 0, 896, 1920, 3968, 8190, 16382, 32767, 65535]
theorem impl_nextFollowed.tab13 : rtab .any (opsOf Try.f52 13) = impl_nextFollowed.T13 := by kernel_rfl
theorem impl_nextFollowed.bits13 : waitsOk impl_nextFollowed.T13.2 impl_nextFollowed.B13 = true := by kernel_rfl
set_option maxHeartbeats 8000000 in
set_option maxRecDepth 100000 in
theorem impl_nextFollowed.calls (k : Nat) (a0_0 : Int) (A0_1 : Option Addr) (c0_1 : Nat) (l0_1 : List Bool) (A0_2 : Option Addr) (c0_2 : Nat) (l0_2 : List (S64)) (a1_0 : Int) (A1_1 : Option Addr) (c1_1 : Nat) (l1_1 : List Bool) (A1_2 : Option Addr) (c1_2 : Nat) (l1_2 : List (S64)) (a2 : Int) (a3 : Int) (r : List (List Int)) (w : World) (hr0_1 : Kd.C Kd.bool w A0_1 l0_1.length l0_1) (hc0_1 : l0_1.length ≤ c0_1) (hr0_2 : Kd.C k64 w A0_2 l0_2.length l0_2) (hc0_2 : l0_2.length ≤ c0_2) (hr1_1 : Kd.C Kd.bool w A1_1 l1_1.length l1_1) (hc1_1 : l1_1.length ≤ c1_1) (hr1_2 : Kd.C k64 w A1_2 l1_2.length l1_2) (hc1_2 : l1_2.length ≤ c1_2) (h : impl_nextFollowed.f k a0_0 l0_1 l0_2 a1_0 l1_1 l1_2 a2 a3 = some r) :
  Calls Try.prog 52 #[.agg #[.int .i64 a0_0, .slice A0_1 l0_1.length c0_1, .slice A0_2 l0_2.length c0_2], .agg #[.int .i64 a1_0, .slice A1_1 l1_1.length c1_1, .slice A1_2 l1_2.length c1_2], .int .i64 a2, .int .i64 a3] w fun e w' => ∃ v0_ : Value, e = .returned (v0_) ∧ Kd.S (Kd.slice 3 (Kd.int .i64)) 38 w' w.heap.size (fun _ => True) v0_ r ∧ Below w.heap.size w w' := by
 have hu31 := Try.underlying31
 have HR0_1 := Aside0.mk hr0_1
 have HC0_1 := Aside0.mk hc0_1
 clear hr0_1 hc0_1
 have HR0_2 := Aside0.mk hr0_2
 have HC0_2 := Aside0.mk hc0_2
 clear hr0_2 hc0_2
 have HR1_1 := Aside0.mk hr1_1
 have HC1_1 := Aside0.mk hc1_1
 clear hr1_1 hc1_1
 have HR1_2 := Aside0.mk hr1_2
 have HC1_2 := Aside0.mk hc1_2
 clear hr1_2 hc1_2
 have HB := Aside0.mk (Below.refl w.heap.size w)
 have H : ((some (([true, false] : List Bool) : List Bool)).bind fun y375 => (impl_nextFollowed.l0 k a2 a3 (([] : List (List Int))) y375 (y375.length : Int) 0 a0_0 l0_1 l0_2 a1_0 l1_1 l1_2)) = some r := h
 clear h
 obtain ⟨y372, hy372⟩ : ∃ y_ : List (List Int), y_ = (([] : List (List Int))) := ⟨_, rfl⟩
 replace H : ((some (([true, false] : List Bool) : List Bool)).bind fun y375 => (impl_nextFollowed.l0 k a2 a3 y372 y375 (y375.length : Int) 0 a0_0 l0_1 l0_2 a1_0 l1_1 l1_2)) = some r := by first | (rw [hy372]; with_reducible exact H) | (have H2_ := (Option.bind_some _ _).symm.trans H; rw [hy372]; with_reducible exact H2_) | (have H2_ := (Option.bind_some _ _).symm.trans H; with_reducible exact H2_) | with_reducible exact H | (rw [hy372]; exact H) | exact H
 have Ny372 := Aside0.mk hy372
 clear hy372
 obtain ⟨y375, hy375⟩ : ∃ y_ : List Bool, y_ = (([true, false] : List Bool)) := ⟨_, rfl⟩
 replace H : (impl_nextFollowed.l0 k a2 a3 y372 y375 (y375.length : Int) 0 a0_0 l0_1 l0_2 a1_0 l1_1 l1_2) = some r := by first | (rw [hy375]; with_reducible exact H) | (have H2_ := (Option.bind_some _ _).symm.trans H; rw [hy375]; with_reducible exact H2_) | (have H2_ := (Option.bind_some _ _).symm.trans H; with_reducible exact H2_) | with_reducible exact H | (rw [hy375]; exact H) | exact H
 have Ny375 := Aside0.mk hy375
 clear hy375
 have H' := Aside0.mk H
 clear H
 go_enter Try.func52, Try.ntmps52
 go_wp2_with (first | ((with_reducible refine gate_dst (N := 4) rfl ?_); refine box_event ?hg (N := 4) ?hd (cs := #[.int .i64 a0_0, .slice A0_1 l0_1.length c0_1, .slice A0_2 l0_2.length c0_2]) (t := 31) ?hr ?_; (case hd => rfl); (case hg => rfl); (case hr => first | (go_simp; done) | (go_simp; rfl)); intro gb370 hg w5 hbox hb; have n0_ := bS HB hb; have n1_ := Aside0.mk (hbox); have n2_ := gS HB hg; have n3_ := gS HB hg; clear HB; have HB := n0_; have BK370 := n1_; have GW370 := n2_; have GE370 := n3_; clear n0_ n1_ n2_ n3_; clear hb hbox hg) | ((with_reducible refine gate_dst (N := 5) rfl ?_); refine box_event ?hg (N := 5) ?hd (cs := #[.int .i64 a1_0, .slice A1_1 l1_1.length c1_1, .slice A1_2 l1_2.length c1_2]) (t := 31) ?hr ?_; (case hd => rfl); (case hg => rfl); (case hr => first | (go_simp; done) | (go_simp; rfl)); intro gb371 hg w6 hbox hb; have n0_ := kB BK370 hb; have n1_ := bS HB hb; have n2_ := Aside0.mk (hbox); have n3_ := gS HB hg; have n4_ := gS HB hg; have n5_ := Aside0.mk ((by rw [hg]; exact Nat.ne_of_lt (blk_lt (g := gb370) (o := .cells #[.int .i64 a0_0, .slice A0_1 l0_1.length c0_1, .slice A0_2 l0_2.length c0_2] 31 (0, 0)) (zK BK370)) : gb370 ≠ gb371)); have n6_ := Aside0.mk ((by rw [hg]; exact Nat.ne_of_gt (blk_lt (g := gb370) (o := .cells #[.int .i64 a0_0, .slice A0_1 l0_1.length c0_1, .slice A0_2 l0_2.length c0_2] 31 (0, 0)) (zK BK370)) : gb371 ≠ gb370)); clear BK370; clear HB; have BK370 := n0_; have HB := n1_; have BK371 := n2_; have GW371 := n3_; have GE371 := n4_; have NB370_371 := n5_; have NB371_370 := n6_; clear n0_ n1_ n2_ n3_ n4_ n5_ n6_; clear hb hbox hg) | ((with_reducible refine gate_dst (N := 17) rfl ?_); refine Kd.S_lit (Kd.slice 3 (Kd.int .i64)) _ 38 ?hg (N := 17) ?hd (xs := ([] : List (List Int))) (inner := []) (ok := fun _ => True) (okp := fun _ => True) ?hr ?hp (fun _ hk => hk) trivial (Below.refl _ _) (Nat.le_refl _) (by simp) ?_; (case hd => rfl); (case hg => rfl); (case hr => first | (go_simp; done) | (go_simp; rfl)); (case hp => exact (Reps.none _ _)); intro v373 w7 ho8 hb hg_ hnew_; clear hg_ hnew_; (first | rw [← Ny372.out] at ho8 | (simp only [Int.reduceToNat] at ho8; rw [← Ny372.out] at ho8)); have n0_ := Aside0.mk (Kd.S_lower ho8 (below_size (zB HB))); have n1_ := kB BK370 hb; have n2_ := kB BK371 hb; have n3_ := bS HB hb; clear BK370; clear BK371; clear HB; have HO374 := n0_; have BK370 := n1_; have BK371 := n2_; have HB := n3_; clear n0_ n1_ n2_ n3_; clear hb ho8) | ((with_reducible refine gate_dst (N := 18) rfl ?_); refine Kd.R_lit Kd.bool _ 4 ?hg (N := 18) ?hd (xs := ([true, false] : List Bool)) (inner := [.bool true, .bool false]) (ok := fun _ => True) (okp := fun _ => True) ?hr ?hp (fun _ hk => hk) trivial (Below.refl _ _) (Nat.le_refl _) (by simp) ?_; (case hd => rfl); (case hg => rfl); (case hr => first | (go_simp; done) | (go_simp; rfl)); (case hp => exact (Reps.one (show Kd.M Kd.bool _ _ _ true [.bool true] from rfl) (Reps.one (show Kd.M Kd.bool _ _ _ false [.bool false] from rfl) (Reps.none _ _)))); intro v376 w9 ho10 hb hg_ hnew_; clear hg_ hnew_; (first | rw [← Ny375.out] at ho10 | (simp only [Int.reduceToNat] at ho10; rw [← Ny375.out] at ho10)); have n0_ := Aside0.mk (Kd.S_below (zS HO374) hb); have n1_ := Aside0.mk (Kd.R_lower ho10 (below_size (zB HB))); have n2_ := kB BK370 hb; have n3_ := kB BK371 hb; have n4_ := bS HB hb; clear HO374; clear BK370; clear BK371; clear HB; have HO374 := n0_; have HO377 := n1_; have BK370 := n2_; have BK371 := n3_; have HB := n4_; clear n0_ n1_ n2_ n3_ n4_; clear hb ho10; obtain ⟨Ao11, co11, eo11⟩ := Kd.R_slice HO377.out; subst eo11))
 go_loopg [9, 20] k (fun kq v9 v20 w' => ∃ (x9_1 : List (List Int)) (x20_1 : Int), v20 = .int .i64 x20_1 ∧ Aside0 (impl_nextFollowed.l0 kq a2 a3 x9_1 y375 (y375.length : Int) x20_1 a0_0 l0_1 l0_2 a1_0 l1_1 l1_2 = some r) ∧ Aside0 (kq ≤ k) ∧ Aside0 (Kd.S (Kd.slice 3 (Kd.int .i64)) 38 w' w.heap.size (fun _ => True) v9 x9_1) ∧ Aside0 (Kd.R Kd.bool 4 w' w.heap.size (fun _ => True) (.slice Ao11 y375.length co11) y375) ∧ Aside0 (w'.heap[gb370]? = some (.cells #[.int .i64 a0_0, (.slice A0_1 l0_1.length c0_1), (.slice A0_2 l0_2.length c0_2)] 31 (0, 0))) ∧ Aside0 (w'.heap[gb371]? = some (.cells #[.int .i64 a1_0, (.slice A1_1 l1_1.length c1_1), (.slice A1_2 l1_2.length c1_2)] 31 (0, 0))) ∧ Aside0 (Below w.heap.size w w'))
 case atStart => exact ⟨(y372), (0), zF, H', ⟨Nat.le_refl _⟩, ⟨zS HO374⟩, ⟨zR HO377⟩, ⟨zK BK370⟩, ⟨zK BK371⟩, ⟨zB HB⟩⟩
 case round =>
  clear H'
  try clear c1
  try clear p2
  try clear c5
  obtain ⟨x9_1, x20_1, rfl, HA, HK1, HO_9, HO_18, BK370, BK371, HB⟩ := hrel
  cases gk with
  | zero => exact absurd HA.out (by simp [impl_nextFollowed.l0])
  | succ k1 =>
   have H := HA.out
   clear HA
   simp only [impl_nextFollowed.l0] at H
   by_cases c12 : x20_1 < (y375.length : Int)
   ·rw [if_pos c12] at H
    have c12b0 : decide (x20_1 < (y375.length : Int)) = true := decide_eq_true c12
    clear c12
    by_cases c13 : 0 ≤ x20_1
    ·rw [if_pos c13] at H
     have c13b0 : decide (0 ≤ x20_1) = true := decide_eq_true c13
     clear c13
     by_cases c14 : x20_1 < (y375.length : Int)
     ·rw [if_pos c14] at H
      have c14b0 : decide (x20_1 < (y375.length : Int)) = true := decide_eq_true c14
      clear c14
      replace H := Option.bind_eq_some_iff.mp H
      obtain ⟨t379, A150, H⟩ := H
      replace H : (if rdOf false y375 x20_1 = true then (impl_nextFollowed.j1 k1 a2 a3 x9_1 (rdOf false y375 x20_1) t379 y375 (y375.length : Int) x20_1 a0_0 l0_1 l0_2 a1_0 l1_1 l1_2) else ((impl_MovesFrom.f k1 a1_0 l1_1 l1_2 a3 false).bind fun t382 => (impl_nextFollowed.j1 k1 a2 a3 x9_1 (rdOf false y375 x20_1) t382 y375 (y375.length : Int) x20_1 a0_0 l0_1 l0_2 a1_0 l1_1 l1_2))) = some r := H
      have A15 := Aside0.mk A150
      clear A150
      have HC16 := Aside0.mk H
      clear H
      have p378 : 0 ≤ (x20_1 : Int) := of_decide_eq_true (by first | (with_reducible assumption) | assumption)
      have q378 : x20_1 < (y375.length : Int) := of_decide_eq_true (by first | (with_reducible assumption) | assumption)
      obtain ⟨ad378, e378, hx378_0⟩ := Kd.at_bool (Kd.R_reads' HO_18.out).2.2 x20_1 p378 q378
      cases e378
      replace p378 := eq_true p378
      replace q378 := eq_true q378
      have hnb17 := NB370_371.out
      have hnc17 := NB371_370.out
      have hcz18_0 := bc0 BK370
      have hcz18_1 := bc1 BK370
      have hcz18_2 := bc2 BK370
      have hfz18_0 := bf BK370 0
      have hfz18_1 := bf BK370 1
      have hfz18_2 := bf BK370 2
      go_upto_if 28 with (first | ((with_reducible refine gate_callee (f := 64) rfl ?_); refine goesL_ (some 26) rfl rfl Try.func64 (by kernel_rfl) rfl #[.agg #[.int .i64 a0_0, .slice A0_1 l0_1.length c0_1, .slice A0_2 l0_2.length c0_2], .int .i64 a2, .bool true] rfl zG ?_; (with_reducible refine (impl_MovesFrom.calls k1 a0_0 _ _ l0_1 _ _ l0_2 a2 true t379 _ ?side1 ?side2 ?side3 ?side4 A15.out).mono ?_); (case side1 => exact cS HR0_1 HB); (case side2 => exact HC0_1.out); (case side3 => exact cS HR0_2 HB); (case side4 => exact HC0_2.out); rintro e w19 ⟨v380, rfl, ho0, hb⟩; refine ⟨_, rfl, ?_⟩; have n0_ := Aside0.mk (Kd.S_elder' (zS HO_9) (Kd.R_base ho0) hb); have n1_ := Aside0.mk (Kd.R_below (zR HO_18) hb); have n2_ := Aside0.mk (Kd.R_lower ho0 (below_size (zB HB))); have n3_ := kB BK370 hb; have n4_ := kB BK371 hb; have n5_ := bS HB hb; clear HO_9; clear HO_18; clear BK370; clear BK371; clear HB; have HO_9 := n0_; have HO_18 := n1_; have HO381 := n2_; have BK370 := n3_; have BK371 := n4_; have HB := n5_; clear n0_ n1_ n2_ n3_ n4_ n5_; (try clear hb); (try clear ho0)))
      (try simp only [Act.put, List.setIfInBounds_toArray, List.set_cons_zero, List.set_cons_succ])
      obtain ⟨bq20, hbq20⟩ : ∃ b_ : Bool, b_ = (rdOf false y375 x20_1) := ⟨_, rfl⟩
      (try rw [← hbq20])
      have Nbq20 := Aside0.mk hbq20
      clear hbq20
      go_cut [12] (fun v12 wc => ∃ (kq : Nat) (x12_15 : List Int), Aside0 (impl_nextFollowed.j1 kq a2 a3 x9_1 bq20 x12_15 y375 (y375.length : Int) x20_1 a0_0 l0_1 l0_2 a1_0 l1_1 l1_2 = some r) ∧ Aside0 (kq ≤ k1) ∧ Aside0 (Kd.S (Kd.slice 3 (Kd.int .i64)) 38 wc w.heap.size (fun k_ => some k_ ≠ (v12 : Value).ownBlock) u9 x9_1) ∧ Aside0 (Kd.R (Kd.int .i64) 3 wc w.heap.size (fun _ => True) v12 x12_15) ∧ Aside0 (Kd.R Kd.bool 4 wc w.heap.size (fun _ => True) (.slice (some ad378) y375.length co11) y375) ∧ Aside0 (wc.heap[gb370]? = some (.cells #[.int .i64 a0_0, (.slice A0_1 l0_1.length c0_1), (.slice A0_2 l0_2.length c0_2)] 31 (0, 0))) ∧ Aside0 (wc.heap[gb371]? = some (.cells #[.int .i64 a1_0, (.slice A1_1 l1_1.length c1_1), (.slice A1_2 l1_2.length c1_2)] 31 (0, 0))) ∧ Aside0 (Below w.heap.size w wc))
      case first =>
       have H := HC16.out
       clear HC16
       replace H : (if bq20 = true then (impl_nextFollowed.j1 k1 a2 a3 x9_1 bq20 t379 y375 (y375.length : Int) x20_1 a0_0 l0_1 l0_2 a1_0 l1_1 l1_2) else ((impl_MovesFrom.f k1 a1_0 l1_1 l1_2 a3 false).bind fun t382 => (impl_nextFollowed.j1 k1 a2 a3 x9_1 bq20 t382 y375 (y375.length : Int) x20_1 a0_0 l0_1 l0_2 a1_0 l1_1 l1_2))) = some r := by rw [← Nbq20.out] at H; exact H
       by_cases c21 : bq20 = true
       ·subst c21
        rename_i hm1_ hm2_
        have hm3_ := hm1_
        clear hm1_
        have H1 : (impl_nextFollowed.j1 k1 a2 a3 x9_1 true t379 y375 (y375.length : Int) x20_1 a0_0 l0_1 l0_2 a1_0 l1_1 l1_2) = some r := by rw [if_pos rfl] at H; exact H
        clear H
        have H := H1
        clear H1
        have H' := Aside0.mk H
        clear H
        go_wp2
        go_meet
        case rel => exact ⟨_, (t379), H', ⟨by have := HK1.out; first | omega | exact Nat.le_refl _⟩, ⟨by (with_reducible repeat (first | apply Kd.S_alloc | apply Kd.S_drewN | apply Kd.S_drew)); exact Kd.S_mono HO_9.out (fun _ hk => hk.2)⟩, ⟨zR HO381⟩, ⟨zR HO_18⟩, ⟨zK BK370⟩, ⟨zK BK371⟩, ⟨zB HB⟩⟩
       ·replace c21 := Bool.eq_false_iff.mpr c21
        subst c21
        rename_i hm1_ hm2_
        have hm3_ := hm1_
        clear hm1_
        have H1 : ((impl_MovesFrom.f k1 a1_0 l1_1 l1_2 a3 false).bind fun t382 => (impl_nextFollowed.j1 k1 a2 a3 x9_1 false t382 y375 (y375.length : Int) x20_1 a0_0 l0_1 l0_2 a1_0 l1_1 l1_2)) = some r := by rw [if_neg (show ¬ (false = true) by decide)] at H; exact H
        clear H
        have H := H1
        clear H1
        replace H := Option.bind_eq_some_iff.mp H
        obtain ⟨t382, A220, H⟩ := H
        replace H : (impl_nextFollowed.j1 k1 a2 a3 x9_1 false t382 y375 (y375.length : Int) x20_1 a0_0 l0_1 l0_2 a1_0 l1_1 l1_2) = some r := H
        have A22 := Aside0.mk A220
        clear A220
        have H' := Aside0.mk H
        clear H
        have hnb23 := NB371_370.out
        have hnc23 := NB370_371.out
        have hcz24_0 := bc0 BK371
        have hcz24_1 := bc1 BK371
        have hcz24_2 := bc2 BK371
        have hfz24_0 := bf BK371 0
        have hfz24_1 := bf BK371 1
        have hfz24_2 := bf BK371 2
        go_wp2_with (first | ((with_reducible refine gate_callee (f := 64) rfl ?_); refine goesL_ (some 31) rfl rfl Try.func64 (by kernel_rfl) rfl #[.agg #[.int .i64 a1_0, .slice A1_1 l1_1.length c1_1, .slice A1_2 l1_2.length c1_2], .int .i64 a3, .bool false] rfl zG ?_; (with_reducible refine (impl_MovesFrom.calls k1 a1_0 _ _ l1_1 _ _ l1_2 a3 false t382 _ ?side1 ?side2 ?side3 ?side4 A22.out).mono ?_); (case side1 => exact cS HR1_1 HB); (case side2 => exact HC1_1.out); (case side3 => exact cS HR1_2 HB); (case side4 => exact HC1_2.out); rintro e w25 ⟨v383, rfl, ho0, hb⟩; refine ⟨_, rfl, ?_⟩; have n0_ := Aside0.mk (Kd.S_elder' (zS HO_9) (Kd.R_base ho0) hb); have n1_ := Aside0.mk (Kd.R_below (zR HO_18) hb); have n2_ := Aside0.mk (Kd.R_elder' (zR HO381) (Kd.R_base ho0) hb); have n3_ := Aside0.mk (Kd.R_lower (Kd.R_new' ho0 (Kd.R_lt (zR HO381))) (below_size (zB HB))); have n4_ := kB BK370 hb; have n5_ := kB BK371 hb; have n6_ := bS HB hb; clear HO_9; clear HO_18; clear HO381; clear BK370; clear BK371; clear HB; have HO_9 := n0_; have HO_18 := n1_; have HO381 := n2_; have HO384 := n3_; have BK370 := n4_; have BK371 := n5_; have HB := n6_; clear n0_ n1_ n2_ n3_ n4_ n5_ n6_; (try clear hb); (try clear ho0)))
        go_meet
        case rel => exact ⟨_, (t382), H', ⟨by have := HK1.out; first | omega | exact Nat.le_refl _⟩, ⟨by (with_reducible repeat (first | apply Kd.S_alloc | apply Kd.S_drewN | apply Kd.S_drew)); exact Kd.S_mono HO_9.out (fun _ hk => hk.2)⟩, ⟨by (with_reducible repeat (first | apply Kd.R_alloc | apply Kd.R_drewN | apply Kd.R_drew)); exact Kd.R_mono HO384.out (fun _ hk => trivial)⟩, ⟨zR HO_18⟩, ⟨zK BK370⟩, ⟨zK BK371⟩, ⟨zB HB⟩⟩
      case rest =>
       have Nbq20_ := Nbq20.out
       clear Nbq20
       subst Nbq20_
       clear HC16
       try clear c1
       try clear c2
       try clear p2
       try clear q2
       try clear p3
       try clear q3
       try clear hx3
       try clear c5
       try clear c6
       try clear c12
       try clear c12b0
       try clear c13
       try clear c13b0
       try clear c14
       try clear c14b0
       try clear c17
       try clear q20
       try clear c21
       try clear c23
       try clear hcz18_0
       try clear hcz18_1
       try clear hcz18_2
       try clear hcz24_0
       try clear hcz24_1
       try clear hcz24_2
       try clear hfz18_0
       try clear hfz18_1
       try clear hfz18_2
       try clear hfz24_0
       try clear hfz24_1
       try clear hfz24_2
       try clear hx378_0
       try clear p2
       try clear p378
       try clear q378
       obtain ⟨kq, x12_15, HA, HJ15, HO_9, HO_12, HO_18, BK370, BK371, HB⟩ := hcut
       cases kq with
       | zero => exact absurd HA.out (by simp [impl_nextFollowed.j1])
       | succ kj15 =>
        have H := HA.out
        clear HA
        simp only [impl_nextFollowed.j1] at H
        have H' := Aside0.mk H
        clear H
        obtain ⟨Ao26, co26, eo26⟩ := Kd.R_slice HO_12.out
        subst eo26
        go_wp2
        go_loopg [9, 34] kj15 (fun kq v9 v34 w' => ∃ (x9_3 : List (List Int)) (x34_3 : Int), v34 = .int .i64 x34_3 ∧ Aside0 (impl_nextFollowed.l1 kq a2 a3 x9_3 (rdOf false y375 x20_1) y375 (y375.length : Int) x20_1 x12_15 (x12_15.length : Int) x34_3 a0_0 l0_1 l0_2 a1_0 l1_1 l1_2 = some r) ∧ Aside0 (kq ≤ kj15) ∧ Aside0 (Kd.S (Kd.slice 3 (Kd.int .i64)) 38 w' w.heap.size (fun k_ => some k_ ≠ ((.slice Ao26 x12_15.length co26) : Value).ownBlock) v9 x9_3) ∧ Aside0 (Kd.R Kd.bool 4 w' w.heap.size (fun _ => True) (.slice (some ad378) y375.length co11) y375) ∧ Aside0 (Kd.R (Kd.int .i64) 3 w' w.heap.size (fun _ => True) (.slice Ao26 x12_15.length co26) x12_15) ∧ Aside0 (w'.heap[gb370]? = some (.cells #[.int .i64 a0_0, (.slice A0_1 l0_1.length c0_1), (.slice A0_2 l0_2.length c0_2)] 31 (0, 0))) ∧ Aside0 (w'.heap[gb371]? = some (.cells #[.int .i64 a1_0, (.slice A1_1 l1_1.length c1_1), (.slice A1_2 l1_2.length c1_2)] 31 (0, 0))) ∧ Aside0 (Below w.heap.size w w'))
        case atStart => exact ⟨(x9_1), (0), zF, H', ⟨Nat.le_refl _⟩, ⟨zS HO_9⟩, ⟨zR HO_18⟩, ⟨zR HO_12⟩, ⟨zK BK370⟩, ⟨zK BK371⟩, ⟨zB HB⟩⟩
        case round =>
         clear H'
         try clear c1
         try clear c2
         try clear p2
         try clear q2
         try clear p3
         try clear q3
         try clear hx3
         try clear c5
         try clear c6
         try clear c12
         try clear c12b0
         try clear c13
         try clear c13b0
         try clear c14
         try clear c14b0
         try clear c17
         try clear q20
         try clear c21
         try clear c23
         try clear hcz18_0
         try clear hcz18_1
         try clear hcz18_2
         try clear hcz24_0
         try clear hcz24_1
         try clear hcz24_2
         try clear hfz18_0
         try clear hfz18_1
         try clear hfz18_2
         try clear hfz24_0
         try clear hfz24_1
         try clear hfz24_2
         try clear hx378_0
         try clear p2
         try clear p3
         try clear p378
         try clear q2
         try clear q20
         try clear q3
         try clear q378
         obtain ⟨x9_3, x34_3, rfl, HA, HK3, HO_9, HO_18, HO_32, BK370, BK371, HB⟩ := hrel
         cases gk with
         | zero => exact absurd HA.out (by simp [impl_nextFollowed.l1])
         | succ k3 =>
          have H := HA.out
          clear HA
          simp only [impl_nextFollowed.l1] at H
          by_cases c27 : x34_3 < (x12_15.length : Int)
          ·rw [if_pos c27] at H
           have c27b0 : decide (x34_3 < (x12_15.length : Int)) = true := decide_eq_true c27
           clear c27
           by_cases c28 : 0 ≤ x34_3
           ·rw [if_pos c28] at H
            have c28b0 : decide (0 ≤ x34_3) = true := decide_eq_true c28
            clear c28
            by_cases c29 : x34_3 < (x12_15.length : Int)
            ·rw [if_pos c29] at H
             have c29b0 : decide (x34_3 < (x12_15.length : Int)) = true := decide_eq_true c29
             clear c29
             replace H := Option.bind_eq_some_iff.mp H
             obtain ⟨t386, A300, H⟩ := H
             replace H : ((impl_MoveOf.f a1_0 l1_1 l1_2 a3 (rdOf false y375 x20_1) (rd x12_15 x34_3)).bind fun t387 => (if t386 ≥ 0 then (if t387 ≥ 0 then (if 0 ≤ t386 then (if t386 < (l0_2.length : Int) then (if 0 ≤ t387 then (if t387 < (l1_2.length : Int) then (if x9_3.length < 5864062014805 then (impl_nextFollowed.l1 k3 a2 a3 (x9_3 ++ [(([(rd_T64 l0_2 t386).f3, (rd_T64 l1_2 t387).f3] : List Int))]) (rdOf false y375 x20_1) y375 (y375.length : Int) x20_1 x12_15 (x12_15.length : Int) (wrap64 (x34_3 + 1)) a0_0 l0_1 l0_2 a1_0 l1_1 l1_2) else (none)) else (none)) else (none)) else (none)) else (none)) else (impl_nextFollowed.l1 k3 a2 a3 x9_3 (rdOf false y375 x20_1) y375 (y375.length : Int) x20_1 x12_15 (x12_15.length : Int) (wrap64 (x34_3 + 1)) a0_0 l0_1 l0_2 a1_0 l1_1 l1_2)) else (impl_nextFollowed.l1 k3 a2 a3 x9_3 (rdOf false y375 x20_1) y375 (y375.length : Int) x20_1 x12_15 (x12_15.length : Int) (wrap64 (x34_3 + 1)) a0_0 l0_1 l0_2 a1_0 l1_1 l1_2))) = some r := H
             have A30 := Aside0.mk A300
             clear A300
             replace H := Option.bind_eq_some_iff.mp H
             obtain ⟨t387, A310, H⟩ := H
             replace H : (if t386 ≥ 0 then (if t387 ≥ 0 then (if 0 ≤ t386 then (if t386 < (l0_2.length : Int) then (if 0 ≤ t387 then (if t387 < (l1_2.length : Int) then (if x9_3.length < 5864062014805 then (impl_nextFollowed.l1 k3 a2 a3 (x9_3 ++ [(([(rd_T64 l0_2 t386).f3, (rd_T64 l1_2 t387).f3] : List Int))]) (rdOf false y375 x20_1) y375 (y375.length : Int) x20_1 x12_15 (x12_15.length : Int) (wrap64 (x34_3 + 1)) a0_0 l0_1 l0_2 a1_0 l1_1 l1_2) else (none)) else (none)) else (none)) else (none)) else (none)) else (impl_nextFollowed.l1 k3 a2 a3 x9_3 (rdOf false y375 x20_1) y375 (y375.length : Int) x20_1 x12_15 (x12_15.length : Int) (wrap64 (x34_3 + 1)) a0_0 l0_1 l0_2 a1_0 l1_1 l1_2)) else (impl_nextFollowed.l1 k3 a2 a3 x9_3 (rdOf false y375 x20_1) y375 (y375.length : Int) x20_1 x12_15 (x12_15.length : Int) (wrap64 (x34_3 + 1)) a0_0 l0_1 l0_2 a1_0 l1_1 l1_2)) = some r := H
             have A31 := Aside0.mk A310
             clear A310
             by_cases c32 : t386 ≥ 0
             ·rw [if_pos c32] at H
              have c32b0 : decide (0 ≤ t386) = true := decide_eq_true c32
              clear c32
              by_cases c33 : t387 ≥ 0
              ·rw [if_pos c33] at H
               have c33b0 : decide (0 ≤ t387) = true := decide_eq_true c33
               clear c33
               by_cases c34 : 0 ≤ t386
               ·rw [if_pos c34] at H
                have c34b0 : decide (0 ≤ t386) = true := decide_eq_true c34
                clear c34
                by_cases c35 : t386 < (l0_2.length : Int)
                ·rw [if_pos c35] at H
                 have c35b0 : decide (t386 < (l0_2.length : Int)) = true := decide_eq_true c35
                 clear c35
                 by_cases c36 : 0 ≤ t387
                 ·rw [if_pos c36] at H
                  have c36b0 : decide (0 ≤ t387) = true := decide_eq_true c36
                  clear c36
                  by_cases c37 : t387 < (l1_2.length : Int)
                  ·rw [if_pos c37] at H
                   have c37b0 : decide (t387 < (l1_2.length : Int)) = true := decide_eq_true c37
                   clear c37
                   obtain ⟨y390, hy390⟩ : ∃ y_ : List Int, y_ = (([(rd_T64 l0_2 t386).f3, (rd_T64 l1_2 t387).f3] : List Int)) := ⟨_, rfl⟩
                   replace H : (if x9_3.length < 5864062014805 then (impl_nextFollowed.l1 k3 a2 a3 (x9_3 ++ [y390]) (rdOf false y375 x20_1) y375 (y375.length : Int) x20_1 x12_15 (x12_15.length : Int) (wrap64 (x34_3 + 1)) a0_0 l0_1 l0_2 a1_0 l1_1 l1_2) else (none)) = some r := by first | (rw [hy390]; with_reducible exact H) | (have H2_ := (Option.bind_some _ _).symm.trans H; rw [hy390]; with_reducible exact H2_) | (have H2_ := (Option.bind_some _ _).symm.trans H; with_reducible exact H2_) | with_reducible exact H | (rw [hy390]; exact H) | exact H
                   have Ny390 := Aside0.mk hy390
                   clear hy390
                   by_cases c38 : x9_3.length < 5864062014805
                   ·rw [if_pos c38] at H
                    have LMc38 := Aside0.mk c38
                    clear c38
                    obtain ⟨y393, hy393⟩ : ∃ y_ : List (List Int), y_ = (x9_3 ++ [y390]) := ⟨_, rfl⟩
                    replace H : (impl_nextFollowed.l1 k3 a2 a3 y393 (rdOf false y375 x20_1) y375 (y375.length : Int) x20_1 x12_15 (x12_15.length : Int) (wrap64 (x34_3 + 1)) a0_0 l0_1 l0_2 a1_0 l1_1 l1_2) = some r := by first | (rw [hy393]; with_reducible exact H) | (have H2_ := (Option.bind_some _ _).symm.trans H; rw [hy393]; with_reducible exact H2_) | (have H2_ := (Option.bind_some _ _).symm.trans H; with_reducible exact H2_) | with_reducible exact H | (rw [hy393]; exact H) | exact H
                    have Ny393 := Aside0.mk hy393
                    clear hy393
                    have H' := Aside0.mk H
                    clear H
                    have p385 : 0 ≤ (x34_3 : Int) := of_decide_eq_true (by first | (with_reducible assumption) | assumption)
                    have q385 : x34_3 < (x12_15.length : Int) := of_decide_eq_true (by first | (with_reducible assumption) | assumption)
                    obtain ⟨ad385, e385, hx385_0⟩ := Kd.at_int (Kd.R_reads' HO_32.out).2.2 x34_3 p385 q385
                    cases e385
                    replace p385 := eq_true p385
                    replace q385 := eq_true q385
                    try go_wp2
                    have n0_ := Aside0.mk (Kd.S_drew HO_9.out)
                    have n1_ := Aside0.mk (Kd.R_drew HO_18.out)
                    have n2_ := Aside0.mk (Kd.R_drew HO_32.out)
                    have n3_ := Aside0.mk (blk_drew BK370.out)
                    have n4_ := Aside0.mk (blk_drew BK371.out)
                    have n5_ := Aside0.mk (below_drew1 HB.out)
                    clear HO_9
                    clear HO_18
                    clear HO_32
                    clear BK370
                    clear BK371
                    clear HB
                    have HO_9 := n0_
                    have HO_18 := n1_
                    have HO_32 := n2_
                    have BK370 := n3_
                    have BK371 := n4_
                    have HB := n5_
                    clear n0_ n1_ n2_ n3_ n4_ n5_
                    refine start_ (n := 12) (S := fun w' => w'.cell? ⟨gb370, 0, none⟩ = some (.int .i64 a0_0) ∧ w'.cell? ⟨gb370, 1, none⟩ = some (.slice A0_1 l0_1.length c0_1) ∧ w'.cell? ⟨gb370, 2, none⟩ = some (.slice A0_2 l0_2.length c0_2) ∧ w'.cell? ⟨gb371, 0, none⟩ = some (.int .i64 a1_0) ∧ w'.cell? ⟨gb371, 1, none⟩ = some (.slice A1_1 l1_1.length c1_1) ∧ w'.cell? ⟨gb371, 2, none⟩ = some (.slice A1_2 l1_2.length c1_2)) (ds := []) (bm 12 0) (by kernel_rfl) rfl (bm0 _) ⟨bc0 BK370, bc1 BK370, bc2 BK370, bc0 BK371, bc1 BK371, bc2 BK371⟩ (fun hHeld => ?_); refine with_tabW impl_nextFollowed.tab11 impl_nextFollowed.bits11 (fun HT_ HW_ => ?_)
                    generalize wr.drew = w39 at HO_9 HO_18 HO_32 BK370 BK371 HB hHeld ⊢
                    refine pure_ (i := 1) (N := some 39) (v := ?_) (a' := ?_) (bm 12 2) rfl rfl (any_of HT_.out (by kernel_rfl)) (fun _ _ _ h => h) (Or.inl ⟨by rfl, ?_⟩) ?_ ?_
                    rotate_left
                    ·intro w'
                     go_simp
                     with_reducible rfl
                    rotate_left
                    ·simp only [Act.put, List.setIfInBounds_toArray, List.set_cons_zero, List.set_cons_succ, i64_w, i32_w]
                     rfl
                    refine pure_ (i := 2) (N := some 40) (v := ?_) (a' := ?_) (bm 12 6) rfl rfl (any_of HT_.out (by kernel_rfl)) (fun _ _ _ h => h) (Or.inl ⟨by rfl, ?_⟩) ?_ ?_
                    rotate_left
                    ·intro w'
                     go_simp
                     with_reducible rfl
                    rotate_left
                    ·simp only [Act.put, List.setIfInBounds_toArray, List.set_cons_zero, List.set_cons_succ, i64_w, i32_w]
                     rfl
                    refine pure_ (i := 3) (N := some 41) (v := ?_) (a' := ?_) (bm 12 14) rfl rfl (any_of HT_.out (by kernel_rfl)) (fun _ _ _ h => h) (Or.inl ⟨by rfl, ?_⟩) ?_ ?_
                    rotate_left
                    ·intro w'
                     go_simp
                     with_reducible rfl
                    rotate_left
                    ·simp only [Act.put, List.setIfInBounds_toArray, List.set_cons_zero, List.set_cons_succ, i64_w, i32_w]
                     rfl
                    refine pure_ (i := 6) (N := some 44) (v := ?_) (a' := ?_) (bm 12 78) rfl rfl (any_of HT_.out (by kernel_rfl)) (fun _ _ _ h => h) (Or.inl ⟨by rfl, ?_⟩) ?_ ?_
                    rotate_left
                    ·intro w'
                     go_simp
                     with_reducible rfl
                    rotate_left
                    ·simp only [Act.put, List.setIfInBounds_toArray, List.set_cons_zero, List.set_cons_succ, i64_w, i32_w]
                     rfl
                    refine pure_ (i := 7) (N := some 45) (v := ?_) (a' := ?_) (bm 12 206) rfl rfl (any_of HT_.out (by kernel_rfl)) (fun _ _ _ h => h) (Or.inl ⟨by rfl, ?_⟩) ?_ ?_
                    rotate_left
                    ·intro w'
                     go_simp
                     with_reducible rfl
                    rotate_left
                    ·simp only [Act.put, List.setIfInBounds_toArray, List.set_cons_zero, List.set_cons_succ, i64_w, i32_w]
                     rfl
                    refine pure_ (i := 8) (N := some 46) (v := ?_) (a' := ?_) (bm 12 462) rfl rfl (any_of HT_.out (by kernel_rfl)) (fun _ _ _ h => h) (Or.inl ⟨by rfl, ?_⟩) ?_ ?_
                    rotate_left
                    ·intro w'
                     go_simp
                     with_reducible rfl
                    rotate_left
                    ·simp only [Act.put, List.setIfInBounds_toArray, List.set_cons_zero, List.set_cons_succ, i64_w, i32_w]
                     rfl
                    refine take_ (i := 0) (N := some 38) (v := ?_) (a' := ?_) (bm 12 463) rfl rfl (take_ofW HT_.out HW_.out (by kernel_rfl)) (fun _ _ _ h => h) (Or.inl ⟨by rfl, ?_⟩) hHeld ?_ ?_
                    rotate_left
                    ·rintro w' ⟨s0, s1, s2, s3, s4, s5⟩
                     go_simp
                     with_reducible rfl
                    rotate_left
                    ·simp only [Act.put, List.setIfInBounds_toArray, List.set_cons_zero, List.set_cons_succ, i64_w, i32_w]
                     rfl
                    refine take_ (i := 5) (N := some 43) (v := ?_) (a' := ?_) (bm 12 495) rfl rfl (take_ofW HT_.out HW_.out (by kernel_rfl)) (fun _ _ _ h => h) (Or.inl ⟨by rfl, ?_⟩) hHeld ?_ ?_
                    rotate_left
                    ·rintro w' ⟨s0, s1, s2, s3, s4, s5⟩
                     go_simp
                     with_reducible rfl
                    rotate_left
                    ·simp only [Act.put, List.setIfInBounds_toArray, List.set_cons_zero, List.set_cons_succ, i64_w, i32_w]
                     rfl
                    refine one_ (i := 4) (N := some 42) (bm 12 511) rfl rfl (one_of HT_.out (by kernel_rfl)) (by decide) (fun K hK => ?_)
                    refine goes_ Try.func65 (by kernel_rfl) rfl #[.agg #[.int .i64 a0_0, .slice A0_1 l0_1.length c0_1, .slice A0_2 l0_2.length c0_2], .int .i64 a2, .bool (rdOf false y375 x20_1), .int .i64 (rd x12_15 x34_3)] (by rfl) rfl rfl zG ?_
                    with_reducible refine (impl_MoveOf.calls a0_0 _ _ l0_1 _ _ l0_2 a2 (rdOf false y375 x20_1) (rd x12_15 x34_3) t386 _ ?side1 ?side2 ?side3 ?side4 A30.out).mono ?_
                    (case side1 => exact cS HR0_1 HB)
                    (case side2 => exact HC0_1.out)
                    (case side3 => exact cS HR0_2 HB)
                    (case side4 => exact HC0_2.out)
                    rintro e w40 ⟨rfl, hb⟩
                    refine ⟨_, rfl, ?_⟩
                    have n0_ := Aside0.mk (Kd.S_below (zS HO_9) hb)
                    have n1_ := Aside0.mk (Kd.R_below (zR HO_18) hb)
                    have n2_ := Aside0.mk (Kd.R_below (zR HO_32) hb)
                    have n3_ := kB BK370 hb
                    have n4_ := kB BK371 hb
                    have n5_ := bS HB hb
                    clear HO_9
                    clear HO_18
                    clear HO_32
                    clear BK370
                    clear BK371
                    clear HB
                    have HO_9 := n0_
                    have HO_18 := n1_
                    have HO_32 := n2_
                    have BK370 := n3_
                    have BK371 := n4_
                    have HB := n5_
                    clear n0_ n1_ n2_ n3_ n4_ n5_
                    (try clear hb)
                    (try clear hb2)
                    (try clear hk)
                    (try clear hi)
                    refine hK.out _ _ ⟨bc0 BK370, bc1 BK370, bc2 BK370, bc0 BK371, bc1 BK371, bc2 BK371⟩ (fun hHeld => ?_)
                    clear hK K
                    refine norm_ (a' := ?_) ?_ ?_
                    rotate_left
                    ·show Act.put _ (some 42) _ = _
                     simp only [Act.put, List.setIfInBounds_toArray, List.set_cons_zero, List.set_cons_succ, i64_w, i32_w]
                     rfl
                    refine one_ (i := 9) (N := some 47) (bm 12 1023) rfl rfl (one_of HT_.out (by kernel_rfl)) (by decide) (fun K hK => ?_)
                    refine goes_ Try.func65 (by kernel_rfl) rfl #[.agg #[.int .i64 a1_0, .slice A1_1 l1_1.length c1_1, .slice A1_2 l1_2.length c1_2], .int .i64 a3, .bool (rdOf false y375 x20_1), .int .i64 (rd x12_15 x34_3)] (by rfl) rfl rfl zG ?_
                    with_reducible refine (impl_MoveOf.calls a1_0 _ _ l1_1 _ _ l1_2 a3 (rdOf false y375 x20_1) (rd x12_15 x34_3) t387 _ ?side1 ?side2 ?side3 ?side4 A31.out).mono ?_
                    (case side1 => exact cS HR1_1 HB)
                    (case side2 => exact HC1_1.out)
                    (case side3 => exact cS HR1_2 HB)
                    (case side4 => exact HC1_2.out)
                    rintro e w41 ⟨rfl, hb⟩
                    refine ⟨_, rfl, ?_⟩
                    have n0_ := Aside0.mk (Kd.S_below (zS HO_9) hb)
                    have n1_ := Aside0.mk (Kd.R_below (zR HO_18) hb)
                    have n2_ := Aside0.mk (Kd.R_below (zR HO_32) hb)
                    have n3_ := kB BK370 hb
                    have n4_ := kB BK371 hb
                    have n5_ := bS HB hb
                    clear HO_9
                    clear HO_18
                    clear HO_32
                    clear BK370
                    clear BK371
                    clear HB
                    have HO_9 := n0_
                    have HO_18 := n1_
                    have HO_32 := n2_
                    have BK370 := n3_
                    have BK371 := n4_
                    have HB := n5_
                    clear n0_ n1_ n2_ n3_ n4_ n5_
                    (try clear hb)
                    (try clear hb2)
                    (try clear hk)
                    (try clear hi)
                    refine hK.out _ _ ⟨bc0 BK370, bc1 BK370, bc2 BK370, bc0 BK371, bc1 BK371, bc2 BK371⟩ (fun hHeld => ?_)
                    clear hK K
                    refine norm_ (a' := ?_) ?_ ?_
                    rotate_left
                    ·show Act.put _ (some 47) _ = _
                     simp only [Act.put, List.setIfInBounds_toArray, List.set_cons_zero, List.set_cons_succ, i64_w, i32_w]
                     rfl
                    refine pure_ (i := 10) (N := some 15) (v := ?_) (a' := ?_) (bm 12 2047) rfl rfl (any_of HT_.out (by kernel_rfl)) (fun _ _ _ h => h) (Or.inl ⟨by rfl, ?_⟩) ?_ ?_
                    rotate_left
                    ·intro w'
                     go_simp
                     with_reducible rfl
                    rotate_left
                    ·simp only [Act.put, List.setIfInBounds_toArray, List.set_cons_zero, List.set_cons_succ, i64_w, i32_w]
                     rfl
                    refine pure_ (i := 11) (N := some 16) (v := ?_) (a' := ?_) (bm 12 4095) rfl rfl (any_of HT_.out (by kernel_rfl)) (fun _ _ _ h => h) (Or.inl ⟨by rfl, ?_⟩) ?_ ?_
                    rotate_left
                    ·intro w'
                     go_simp
                     with_reducible rfl
                    rotate_left
                    ·simp only [Act.put, List.setIfInBounds_toArray, List.set_cons_zero, List.set_cons_succ, i64_w, i32_w]
                     rfl
                    refine done_ (done_of HT_.out (by kernel_rfl)) ?_
                    try clear hHeld
                    try go_wp2
                    have n0_ := Aside0.mk (Kd.S_drew HO_9.out)
                    have n1_ := Aside0.mk (Kd.R_drew HO_18.out)
                    have n2_ := Aside0.mk (Kd.R_drew HO_32.out)
                    have n3_ := Aside0.mk (blk_drew BK370.out)
                    have n4_ := Aside0.mk (blk_drew BK371.out)
                    have n5_ := Aside0.mk (below_drew1 HB.out)
                    clear HO_9
                    clear HO_18
                    clear HO_32
                    clear BK370
                    clear BK371
                    clear HB
                    have HO_9 := n0_
                    have HO_18 := n1_
                    have HO_32 := n2_
                    have BK370 := n3_
                    have BK371 := n4_
                    have HB := n5_
                    clear n0_ n1_ n2_ n3_ n4_ n5_
                    have p388 : 0 ≤ (t386 : Int) := of_decide_eq_true (by first | (with_reducible assumption) | assumption)
                    have q388 : t386 < (l0_2.length : Int) := of_decide_eq_true (by first | (with_reducible assumption) | assumption)
                    obtain ⟨ad388, e388, hx388_0, hx388_1, hx388_2, hx388_3⟩ := at_T64 HR0_2.out t386 p388 q388
                    have hw388_3 := hx388_3
                    have hw388_2 := hx388_2
                    have hw388_1 := hx388_1
                    have hw388_0 := hx388_0
                    cases e388
                    replace hx388_0 := (HB.out.cell (World.block_lt_of_cell? w _ hx388_0)).trans hx388_0
                    replace hx388_1 := (HB.out.cell (World.block_lt_of_cell? w _ hx388_1)).trans hx388_1
                    replace hx388_2 := (HB.out.cell (World.block_lt_of_cell? w _ hx388_2)).trans hx388_2
                    replace hx388_3 := (HB.out.cell (World.block_lt_of_cell? w _ hx388_3)).trans hx388_3
                    replace p388 := eq_true p388
                    replace q388 := eq_true q388
                    have p389 : 0 ≤ (t387 : Int) := of_decide_eq_true (by first | (with_reducible assumption) | assumption)
                    have q389 : t387 < (l1_2.length : Int) := of_decide_eq_true (by first | (with_reducible assumption) | assumption)
                    obtain ⟨ad389, e389, hx389_0, hx389_1, hx389_2, hx389_3⟩ := at_T64 HR1_2.out t387 p389 q389
                    have hw389_3 := hx389_3
                    have hw389_2 := hx389_2
                    have hw389_1 := hx389_1
                    have hw389_0 := hx389_0
                    cases e389
                    replace hx389_0 := (HB.out.cell (World.block_lt_of_cell? w _ hx389_0)).trans hx389_0
                    replace hx389_1 := (HB.out.cell (World.block_lt_of_cell? w _ hx389_1)).trans hx389_1
                    replace hx389_2 := (HB.out.cell (World.block_lt_of_cell? w _ hx389_2)).trans hx389_2
                    replace hx389_3 := (HB.out.cell (World.block_lt_of_cell? w _ hx389_3)).trans hx389_3
                    replace p389 := eq_true p389
                    replace q389 := eq_true q389
                    refine start_ (n := 17) (S := fun w' => w'.cell? ⟨gb370, 0, none⟩ = some (.int .i64 a0_0) ∧ w'.cell? ⟨gb370, 1, none⟩ = some (.slice A0_1 l0_1.length c0_1) ∧ w'.cell? ⟨gb370, 2, none⟩ = some (.slice (some ad388) l0_2.length c0_2) ∧ w'.cell? ⟨gb371, 0, none⟩ = some (.int .i64 a1_0) ∧ w'.cell? ⟨gb371, 1, none⟩ = some (.slice A1_1 l1_1.length c1_1) ∧ w'.cell? ⟨gb371, 2, none⟩ = some (.slice (some ad389) l1_2.length c1_2) ∧ w'.cell? (ad388.add ((t386).toNat * 4)) = some (.int .i64 ((rd_T64 l0_2 t386).f0)) ∧ w'.cell? ⟨(ad388.add ((t386).toNat * 4)).block, (ad388.add ((t386).toNat * 4)).off + 1, none⟩ = some (.bool ((rd_T64 l0_2 t386).f1)) ∧ w'.cell? ⟨(ad388.add ((t386).toNat * 4)).block, (ad388.add ((t386).toNat * 4)).off + 2, none⟩ = some (.int .i64 ((rd_T64 l0_2 t386).f2)) ∧ w'.cell? ⟨(ad388.add ((t386).toNat * 4)).block, (ad388.add ((t386).toNat * 4)).off + 3, none⟩ = some (.int .i64 ((rd_T64 l0_2 t386).f3)) ∧ w'.cell? (ad389.add ((t387).toNat * 4)) = some (.int .i64 ((rd_T64 l1_2 t387).f0)) ∧ w'.cell? ⟨(ad389.add ((t387).toNat * 4)).block, (ad389.add ((t387).toNat * 4)).off + 1, none⟩ = some (.bool ((rd_T64 l1_2 t387).f1)) ∧ w'.cell? ⟨(ad389.add ((t387).toNat * 4)).block, (ad389.add ((t387).toNat * 4)).off + 2, none⟩ = some (.int .i64 ((rd_T64 l1_2 t387).f2)) ∧ w'.cell? ⟨(ad389.add ((t387).toNat * 4)).block, (ad389.add ((t387).toNat * 4)).off + 3, none⟩ = some (.int .i64 ((rd_T64 l1_2 t387).f3))) (ds := []) (bm 17 0) (by kernel_rfl) rfl (bm0 _) ⟨bc0 BK370, bc1 BK370, bc2 BK370, bc0 BK371, bc1 BK371, bc2 BK371, ((HB.out.cell (World.block_lt_of_cell? w _ hw388_0)).trans hw388_0), ((HB.out.cell (World.block_lt_of_cell? w _ hw388_1)).trans hw388_1), ((HB.out.cell (World.block_lt_of_cell? w _ hw388_2)).trans hw388_2), ((HB.out.cell (World.block_lt_of_cell? w _ hw388_3)).trans hw388_3), ((HB.out.cell (World.block_lt_of_cell? w _ hw389_0)).trans hw389_0), ((HB.out.cell (World.block_lt_of_cell? w _ hw389_1)).trans hw389_1), ((HB.out.cell (World.block_lt_of_cell? w _ hw389_2)).trans hw389_2), ((HB.out.cell (World.block_lt_of_cell? w _ hw389_3)).trans hw389_3)⟩ (fun hHeld => ?_); refine with_tabW impl_nextFollowed.tab13 impl_nextFollowed.bits13 (fun HT_ HW_ => ?_)
                    generalize w41.drew = w42 at HO_9 HO_18 HO_32 BK370 BK371 HB hx388_0 hx388_1 hx388_2 hx388_3 hx389_0 hx389_1 hx389_2 hx389_3 hHeld ⊢
                    refine pure_ (i := 0) (N := some 54) (v := ?_) (a' := ?_) (bm 17 1) rfl rfl (any_of HT_.out (by kernel_rfl)) (fun _ _ _ h => h) (Or.inl ⟨by rfl, ?_⟩) ?_ ?_
                    rotate_left
                    ·intro w'
                     go_simp
                     with_reducible rfl
                    rotate_left
                    ·simp only [Act.put, List.setIfInBounds_toArray, List.set_cons_zero, List.set_cons_succ, i64_w, i32_w]
                     rfl
                    refine pure_ (i := 1) (N := some 55) (v := ?_) (a' := ?_) (bm 17 3) rfl rfl (any_of HT_.out (by kernel_rfl)) (fun _ _ _ h => h) (Or.inl ⟨by rfl, ?_⟩) ?_ ?_
                    rotate_left
                    ·intro w'
                     go_simp
                     with_reducible rfl
                    rotate_left
                    ·simp only [Act.put, List.setIfInBounds_toArray, List.set_cons_zero, List.set_cons_succ, i64_w, i32_w]
                     rfl
                    refine pure_ (i := 3) (N := some 57) (v := ?_) (a' := ?_) (bm 17 11) rfl rfl (any_of HT_.out (by kernel_rfl)) (fun _ _ _ h => h) (Or.inl ⟨by rfl, ?_⟩) ?_ ?_
                    rotate_left
                    ·intro w'
                     go_simp
                     with_reducible rfl
                    rotate_left
                    ·simp only [Act.put, List.setIfInBounds_toArray, List.set_cons_zero, List.set_cons_succ, i64_w, i32_w]
                     rfl
                    refine pure_ (i := 7) (N := some 61) (v := ?_) (a' := ?_) (bm 17 139) rfl rfl (any_of HT_.out (by kernel_rfl)) (fun _ _ _ h => h) (Or.inl ⟨by rfl, ?_⟩) ?_ ?_
                    rotate_left
                    ·intro w'
                     go_simp
                     with_reducible rfl
                    rotate_left
                    ·simp only [Act.put, List.setIfInBounds_toArray, List.set_cons_zero, List.set_cons_succ, i64_w, i32_w]
                     rfl
                    refine pure_ (i := 9) (N := some 63) (v := ?_) (a' := ?_) (bm 17 651) rfl rfl (any_of HT_.out (by kernel_rfl)) (fun _ _ _ h => h) (Or.inl ⟨by rfl, ?_⟩) ?_ ?_
                    rotate_left
                    ·intro w'
                     go_simp
                     with_reducible rfl
                    rotate_left
                    ·simp only [Act.put, List.setIfInBounds_toArray, List.set_cons_zero, List.set_cons_succ, i64_w, i32_w]
                     rfl
                    refine take_ (i := 2) (N := some 56) (v := ?_) (a' := ?_) (bm 17 655) rfl rfl (take_ofW HT_.out HW_.out (by kernel_rfl)) (fun _ _ _ h => h) (Or.inl ⟨by rfl, ?_⟩) hHeld ?_ ?_
                    rotate_left
                    ·rintro w' ⟨s0, s1, s2, s3, s4, s5, s6, s7, s8, s9, s10, s11, s12, s13⟩
                     go_simp
                     with_reducible rfl
                    rotate_left
                    ·simp only [Act.put, List.setIfInBounds_toArray, List.set_cons_zero, List.set_cons_succ, i64_w, i32_w]
                     rfl
                    refine pure_ (i := 4) (N := some 58) (v := ?_) (a' := ?_) (bm 17 671) rfl rfl (any_of HT_.out (by kernel_rfl)) (fun _ _ _ h => h) (Or.inl ⟨by rfl, ?_⟩) ?_ ?_
                    rotate_left
                    ·intro w'
                     go_simp
                     with_reducible rfl
                    rotate_left
                    ·simp only [Act.put, List.setIfInBounds_toArray, List.set_cons_zero, List.set_cons_succ, i64_w, i32_w]
                     rfl
                    refine pure_ (i := 5) (N := some 59) (v := ?_) (a' := ?_) (bm 17 703) rfl rfl (any_of HT_.out (by kernel_rfl)) (fun _ _ _ h => h) (Or.inl ⟨by rfl, ?_⟩) ?_ ?_
                    rotate_left
                    ·intro w'
                     go_simp
                     with_reducible rfl
                    rotate_left
                    ·simp only [Act.put, List.setIfInBounds_toArray, List.set_cons_zero, List.set_cons_succ, i64_w, i32_w]
                     rfl
                    refine take_ (i := 6) (N := some 60) (v := ?_) (a' := ?_) (bm 17 767) rfl rfl (take_ofW HT_.out HW_.out (by kernel_rfl)) (fun _ _ _ h => h) (Or.inl ⟨by rfl, ?_⟩) hHeld ?_ ?_
                    rotate_left
                    ·rintro w' ⟨s0, s1, s2, s3, s4, s5, s6, s7, s8, s9, s10, s11, s12, s13⟩
                     go_simp
                     with_reducible rfl
                    rotate_left
                    ·simp only [Act.put, List.setIfInBounds_toArray, List.set_cons_zero, List.set_cons_succ, i64_w, i32_w]
                     rfl
                    refine take_ (i := 8) (N := some 62) (v := ?_) (a' := ?_) (bm 17 1023) rfl rfl (take_ofW HT_.out HW_.out (by kernel_rfl)) (fun _ _ _ h => h) (Or.inl ⟨by rfl, ?_⟩) hHeld ?_ ?_
                    rotate_left
                    ·rintro w' ⟨s0, s1, s2, s3, s4, s5, s6, s7, s8, s9, s10, s11, s12, s13⟩
                     go_simp
                     with_reducible rfl
                    rotate_left
                    ·simp only [Act.put, List.setIfInBounds_toArray, List.set_cons_zero, List.set_cons_succ, i64_w, i32_w]
                     rfl
                    refine pure_ (i := 10) (N := some 64) (v := ?_) (a' := ?_) (bm 17 2047) rfl rfl (any_of HT_.out (by kernel_rfl)) (fun _ _ _ h => h) (Or.inl ⟨by rfl, ?_⟩) ?_ ?_
                    rotate_left
                    ·intro w'
                     go_simp
                     with_reducible rfl
                    rotate_left
                    ·simp only [Act.put, List.setIfInBounds_toArray, List.set_cons_zero, List.set_cons_succ, i64_w, i32_w]
                     rfl
                    refine pure_ (i := 11) (N := some 65) (v := ?_) (a' := ?_) (bm 17 4095) rfl rfl (any_of HT_.out (by kernel_rfl)) (fun _ _ _ h => h) (Or.inl ⟨by rfl, ?_⟩) ?_ ?_
                    rotate_left
                    ·intro w'
                     go_simp
                     with_reducible rfl
                    rotate_left
                    ·simp only [Act.put, List.setIfInBounds_toArray, List.set_cons_zero, List.set_cons_succ, i64_w, i32_w]
                     rfl
                    refine take_ (i := 12) (N := some 66) (v := ?_) (a' := ?_) (bm 17 8191) rfl rfl (take_ofW HT_.out HW_.out (by kernel_rfl)) (fun _ _ _ h => h) (Or.inl ⟨by rfl, ?_⟩) hHeld ?_ ?_
                    rotate_left
                    ·rintro w' ⟨s0, s1, s2, s3, s4, s5, s6, s7, s8, s9, s10, s11, s12, s13⟩
                     go_simp
                     with_reducible rfl
                    rotate_left
                    ·simp only [Act.put, List.setIfInBounds_toArray, List.set_cons_zero, List.set_cons_succ, i64_w, i32_w]
                     rfl
                    refine one_ (i := 13) (N := some 67) (bm 17 16383) rfl rfl (one_of HT_.out (by kernel_rfl)) (by decide) (fun K hK => ?_)
                    refine Kd.R_lit_step (Kd.int .i64) _ 3 ?hg (N := 67) ?hd (xs := ([(rd_T64 l0_2 t386).f3, (rd_T64 l1_2 t387).f3] : List Int)) (inner := [.int .i64 ((rd_T64 l0_2 t386).f3), .int .i64 ((rd_T64 l1_2 t387).f3)]) (ok := fun _ => True) (okp := fun _ => True) ?hr ?hp (fun _ hk => hk) trivial (Below.refl _ _) (Nat.le_refl _) (by simp) ?_; (case hd => rfl); (case hg => rfl); (case hr => first | (go_simp; done) | (go_simp; rfl)); (case hp => exact (Reps.one (show Kd.M (Kd.int .i64) _ _ _ ((rd_T64 l0_2 t386).f3) [.int .i64 ((rd_T64 l0_2 t386).f3)] from rfl) (Reps.one (show Kd.M (Kd.int .i64) _ _ _ ((rd_T64 l1_2 t387).f3) [.int .i64 ((rd_T64 l1_2 t387).f3)] from rfl) (Reps.none _ _))))
                    intro v391 w43 ho44 hb hg_ hnew_
                    clear hg_ hnew_
                    (first | rw [← Ny390.out] at ho44 | (simp only [Int.reduceToNat] at ho44; rw [← Ny390.out] at ho44))
                    have n0_ := Aside0.mk (Kd.S_elder' (zS HO_9) (Kd.R_base ho44) hb)
                    have n1_ := Aside0.mk (Kd.R_below (zR HO_18) hb)
                    have n2_ := Aside0.mk (Kd.R_elder' (zR HO_32) (Kd.R_base ho44) hb)
                    have n3_ := Aside0.mk (Kd.R_lower (Kd.R_new' ho44 (Kd.R_lt (zR HO_32))) (below_size (zB HB)))
                    have n4_ := kB BK370 hb
                    have n5_ := kB BK371 hb
                    have n6_ := bS HB hb
                    clear HO_9
                    clear HO_18
                    clear HO_32
                    clear BK370
                    clear BK371
                    clear HB
                    have HO_9 := n0_
                    have HO_18 := n1_
                    have HO_32 := n2_
                    have HO392 := n3_
                    have BK370 := n4_
                    have BK371 := n5_
                    have HB := n6_
                    clear n0_ n1_ n2_ n3_ n4_ n5_ n6_
                    clear hb ho44
                    obtain ⟨Ao46, co46, eo46⟩ := Kd.R_slice HO392.out
                    (first | subst eo46 | (injection eo46 with f1_ f2_ f3_; have f4_ := f1_.symm; have f5_ := f3_.symm; clear f1_ f2_ f3_; subst f4_; subst f5_))
                    refine hK.out _ _ ⟨bc0 BK370, bc1 BK370, bc2 BK370, bc0 BK371, bc1 BK371, bc2 BK371, ((HB.out.cell (World.block_lt_of_cell? w _ hw388_0)).trans hw388_0), ((HB.out.cell (World.block_lt_of_cell? w _ hw388_1)).trans hw388_1), ((HB.out.cell (World.block_lt_of_cell? w _ hw388_2)).trans hw388_2), ((HB.out.cell (World.block_lt_of_cell? w _ hw388_3)).trans hw388_3), ((HB.out.cell (World.block_lt_of_cell? w _ hw389_0)).trans hw389_0), ((HB.out.cell (World.block_lt_of_cell? w _ hw389_1)).trans hw389_1), ((HB.out.cell (World.block_lt_of_cell? w _ hw389_2)).trans hw389_2), ((HB.out.cell (World.block_lt_of_cell? w _ hw389_3)).trans hw389_3)⟩ (fun hHeld => ?_)
                    clear hK K
                    refine norm_ (a' := ?_) ?_ ?_
                    rotate_left
                    ·show Act.put _ (some 67) _ = _
                     simp only [Act.put, List.setIfInBounds_toArray, List.set_cons_zero, List.set_cons_succ, i64_w, i32_w]
                     rfl
                    refine one_ (i := 14) (N := some 68) (bm 17 32767) rfl rfl (one_of HT_.out (by kernel_rfl)) (by decide) (fun K hK => ?_)
                    refine value_ (w1 := ?_) (v := ?_) (by rfl) rfl ?_ ?_
                    rotate_left 2
                    ·go_simp
                     constructor
                     ·rfl
                     ·rfl
                    refine hK.out _ _ ⟨(blk_cell (blk_alloc BK370.out _) 0).trans rfl, (blk_cell (blk_alloc BK370.out _) 1).trans rfl, (blk_cell (blk_alloc BK370.out _) 2).trans rfl, (blk_cell (blk_alloc BK371.out _) 0).trans rfl, (blk_cell (blk_alloc BK371.out _) 1).trans rfl, (blk_cell (blk_alloc BK371.out _) 2).trans rfl, (World.cell?_alloc_lt _ _ _ (World.block_lt_of_cell? _ _ (((HB.out.cell (World.block_lt_of_cell? w _ hw388_0)).trans hw388_0)))).trans (((HB.out.cell (World.block_lt_of_cell? w _ hw388_0)).trans hw388_0)), (World.cell?_alloc_lt _ _ _ (World.block_lt_of_cell? _ _ (((HB.out.cell (World.block_lt_of_cell? w _ hw388_1)).trans hw388_1)))).trans (((HB.out.cell (World.block_lt_of_cell? w _ hw388_1)).trans hw388_1)), (World.cell?_alloc_lt _ _ _ (World.block_lt_of_cell? _ _ (((HB.out.cell (World.block_lt_of_cell? w _ hw388_2)).trans hw388_2)))).trans (((HB.out.cell (World.block_lt_of_cell? w _ hw388_2)).trans hw388_2)), (World.cell?_alloc_lt _ _ _ (World.block_lt_of_cell? _ _ (((HB.out.cell (World.block_lt_of_cell? w _ hw388_3)).trans hw388_3)))).trans (((HB.out.cell (World.block_lt_of_cell? w _ hw388_3)).trans hw388_3)), (World.cell?_alloc_lt _ _ _ (World.block_lt_of_cell? _ _ (((HB.out.cell (World.block_lt_of_cell? w _ hw389_0)).trans hw389_0)))).trans (((HB.out.cell (World.block_lt_of_cell? w _ hw389_0)).trans hw389_0)), (World.cell?_alloc_lt _ _ _ (World.block_lt_of_cell? _ _ (((HB.out.cell (World.block_lt_of_cell? w _ hw389_1)).trans hw389_1)))).trans (((HB.out.cell (World.block_lt_of_cell? w _ hw389_1)).trans hw389_1)), (World.cell?_alloc_lt _ _ _ (World.block_lt_of_cell? _ _ (((HB.out.cell (World.block_lt_of_cell? w _ hw389_2)).trans hw389_2)))).trans (((HB.out.cell (World.block_lt_of_cell? w _ hw389_2)).trans hw389_2)), (World.cell?_alloc_lt _ _ _ (World.block_lt_of_cell? _ _ (((HB.out.cell (World.block_lt_of_cell? w _ hw389_3)).trans hw389_3)))).trans (((HB.out.cell (World.block_lt_of_cell? w _ hw389_3)).trans hw389_3))⟩ (fun hHeld => ?_)
                    clear hK K
                    refine norm_ (a' := ?_) ?_ ?_
                    rotate_left
                    ·show Act.put _ (some 68) _ = _
                     simp only [Act.put, List.setIfInBounds_toArray, List.set_cons_zero, List.set_cons_succ, i64_w, i32_w]
                     rfl
                    refine one_ (i := 15) (N := some 69) (bm 17 65535) rfl rfl (one_of HT_.out (by kernel_rfl)) (by decide) (fun K hK => ?_)
                    refine Kd.S_append_step (Kd.slice 3 (Kd.int .i64)) (w0 := w) w.heap.size (by rfl) (.tmp 54) (.tmp 68) 27 38 (.slice none 0 0) 24 rfl Try.underlying27 info38 rfl (by decide) (by omega) u9 x9_3 y390 [.slice Ao46 y390.length co46] (fun k_ => some k_ ≠ (.slice (some ad385) x12_15.length co26 : Value).ownBlock) (fun k_ => some k_ = (.slice Ao46 y390.length co46 : Value).ownBlock) rfl rfl ?aP (fun k_ hk_ => ((Kd.R_mono (ok' := fun k_ => ((fun k_ => some k_ ≠ (.slice (some ad385) x12_15.length co26 : Value).ownBlock)) k_ ∧ some k_ ≠ (u9 : Value).ownBlock) (Kd.R_apart' (HO392.out) (Kd.S_typed HO_9.out) (by decide)) (fun k_ hk => ⟨hk.1.2, hk.2⟩))).1 k_ hk_.symm) ?aF ?aO ?aB ?aS ?aL ?_
                    (case aP => exact Kd.M_row (Kd.R_mono (Kd.R_tight rfl (Kd.R_mono (ok' := fun k_ => ((fun k_ => some k_ ≠ (.slice (some ad385) x12_15.length co26 : Value).ownBlock)) k_ ∧ some k_ ≠ (u9 : Value).ownBlock) (Kd.R_apart' (HO392.out) (Kd.S_typed HO_9.out) (by decide)) (fun k_ hk => ⟨hk.1.2, hk.2⟩))) (fun _ h_ => h_)))
                    (case aB => exact (zB HB))
                    (case aF => exact (fun k_ hk => Kd.fresh' (Kd.R_lt (zR HO_32)) k_ hk))
                    (case aO => exact (by (with_reducible repeat (first | apply Kd.S_alloc | apply Kd.S_drewN | apply Kd.S_drew)); exact Kd.S_mono HO_9.out (fun k_ hk => ⟨hk.1, fun e_ => hk.2 e_⟩)))
                    (case aS => exact (below_size (zB HB)))
                    (case aL => have := LMc38.out; omega)
                    intro v394 w45 ho hb hg hat
                    rw [← Ny393.out] at ho
                    have n0_ := Aside0.mk (Kd.R_over' (zR HO_18) (Kd.S_typed (zS HO_9)) (by decide) hg)
                    have n1_ := Aside0.mk (Kd.R_over' (zR HO_32) (Kd.S_typed (zS HO_9)) (by decide) hg)
                    have n2_ := Aside0.mk (blk_grown (g := gb370) (o := .cells #[.int .i64 a0_0, .slice A0_1 l0_1.length c0_1, .slice (some ad388) l0_2.length c0_2] 31 (0, 0)) (zK BK370) hg (Kd.S_ne HO_9.out BK370.out (by decide)))
                    have n3_ := Aside0.mk (blk_grown (g := gb371) (o := .cells #[.int .i64 a1_0, .slice A1_1 l1_1.length c1_1, .slice (some ad389) l1_2.length c1_2] 31 (0, 0)) (zK BK371) hg (Kd.S_ne HO_9.out BK371.out (by decide)))
                    have n4_ := Aside0.mk (hb)
                    have n5_ := Aside0.mk (ho)
                    clear HO_18
                    clear HO_32
                    clear BK370
                    clear BK371
                    clear HB
                    clear HO_9
                    clear HO392
                    have HO_18 := n0_
                    have HO_32 := n1_
                    have BK370 := n2_
                    have BK371 := n3_
                    have HB := n4_
                    have HO395 := n5_
                    clear n0_ n1_ n2_ n3_ n4_ n5_
                    clear ho hb hg hat
                    refine hK.out _ _ ⟨bc0 BK370, bc1 BK370, bc2 BK370, bc0 BK371, bc1 BK371, bc2 BK371, ((HB.out.cell (World.block_lt_of_cell? w _ hw388_0)).trans hw388_0), ((HB.out.cell (World.block_lt_of_cell? w _ hw388_1)).trans hw388_1), ((HB.out.cell (World.block_lt_of_cell? w _ hw388_2)).trans hw388_2), ((HB.out.cell (World.block_lt_of_cell? w _ hw388_3)).trans hw388_3), ((HB.out.cell (World.block_lt_of_cell? w _ hw389_0)).trans hw389_0), ((HB.out.cell (World.block_lt_of_cell? w _ hw389_1)).trans hw389_1), ((HB.out.cell (World.block_lt_of_cell? w _ hw389_2)).trans hw389_2), ((HB.out.cell (World.block_lt_of_cell? w _ hw389_3)).trans hw389_3)⟩ (fun hHeld => ?_)
                    clear hK K
                    refine norm_ (a' := ?_) ?_ ?_
                    rotate_left
                    ·show Act.put _ (some 69) _ = _
                     simp only [Act.put, List.setIfInBounds_toArray, List.set_cons_zero, List.set_cons_succ, i64_w, i32_w]
                     rfl
                    refine pure_ (i := 16) (N := some 9) (v := ?_) (a' := ?_) (bm 17 131071) rfl rfl (any_of HT_.out (by kernel_rfl)) (fun _ _ _ h => h) (Or.inl ⟨by rfl, ?_⟩) ?_ ?_
                    rotate_left
                    ·intro w'
                     go_simp
                     with_reducible rfl
                    rotate_left
                    ·simp only [Act.put, List.setIfInBounds_toArray, List.set_cons_zero, List.set_cons_succ, i64_w, i32_w]
                     rfl
                    refine done_ (done_of HT_.out (by kernel_rfl)) ?_
                    try clear hHeld
                    try go_wp2
                    go_roundg k3
                    case measure => have := HK1.out; have := HJ15.out; have := HK3.out; omega
                    case rel => exact ⟨(y393), (wrap64 (x34_3 + 1)), zF, H', ⟨by have := HK1.out; have := HJ15.out; have := HK3.out; omega⟩, ⟨zS HO395⟩, ⟨zR HO_18⟩, ⟨by (with_reducible repeat (first | apply Kd.R_alloc | apply Kd.R_drewN | apply Kd.R_drew)); exact Kd.R_mono HO_32.out (fun _ hk => trivial)⟩, ⟨zK BK370⟩, ⟨zK BK371⟩, ⟨zB HB⟩⟩
                   ·rw [if_neg c38] at H
                    exact absurd H (by simp)
                  ·rw [if_neg c37] at H
                   exact absurd H (by simp)
                 ·rw [if_neg c36] at H
                  exact absurd H (by simp)
                ·rw [if_neg c35] at H
                 exact absurd H (by simp)
               ·rw [if_neg c34] at H
                exact absurd H (by simp)
              ·rw [if_neg c33] at H
               have c33b0 : decide (0 ≤ t387) = false := decide_eq_false c33
               clear c33
               have H' := Aside0.mk H
               clear H
               have p385 : 0 ≤ (x34_3 : Int) := of_decide_eq_true (by first | (with_reducible assumption) | assumption)
               have q385 : x34_3 < (x12_15.length : Int) := of_decide_eq_true (by first | (with_reducible assumption) | assumption)
               obtain ⟨ad385, e385, hx385_0⟩ := Kd.at_int (Kd.R_reads' HO_32.out).2.2 x34_3 p385 q385
               cases e385
               replace p385 := eq_true p385
               replace q385 := eq_true q385
               try go_wp2
               have n0_ := Aside0.mk (Kd.S_drew HO_9.out)
               have n1_ := Aside0.mk (Kd.R_drew HO_18.out)
               have n2_ := Aside0.mk (Kd.R_drew HO_32.out)
               have n3_ := Aside0.mk (blk_drew BK370.out)
               have n4_ := Aside0.mk (blk_drew BK371.out)
               have n5_ := Aside0.mk (below_drew1 HB.out)
               clear HO_9
               clear HO_18
               clear HO_32
               clear BK370
               clear BK371
               clear HB
               have HO_9 := n0_
               have HO_18 := n1_
               have HO_32 := n2_
               have BK370 := n3_
               have BK371 := n4_
               have HB := n5_
               clear n0_ n1_ n2_ n3_ n4_ n5_
               refine start_ (n := 12) (S := fun w' => w'.cell? ⟨gb370, 0, none⟩ = some (.int .i64 a0_0) ∧ w'.cell? ⟨gb370, 1, none⟩ = some (.slice A0_1 l0_1.length c0_1) ∧ w'.cell? ⟨gb370, 2, none⟩ = some (.slice A0_2 l0_2.length c0_2) ∧ w'.cell? ⟨gb371, 0, none⟩ = some (.int .i64 a1_0) ∧ w'.cell? ⟨gb371, 1, none⟩ = some (.slice A1_1 l1_1.length c1_1) ∧ w'.cell? ⟨gb371, 2, none⟩ = some (.slice A1_2 l1_2.length c1_2)) (ds := []) (bm 12 0) (by kernel_rfl) rfl (bm0 _) ⟨bc0 BK370, bc1 BK370, bc2 BK370, bc0 BK371, bc1 BK371, bc2 BK371⟩ (fun hHeld => ?_); refine with_tabW impl_nextFollowed.tab11 impl_nextFollowed.bits11 (fun HT_ HW_ => ?_)
               generalize wr.drew = w47 at HO_9 HO_18 HO_32 BK370 BK371 HB hHeld ⊢
               refine pure_ (i := 1) (N := some 39) (v := ?_) (a' := ?_) (bm 12 2) rfl rfl (any_of HT_.out (by kernel_rfl)) (fun _ _ _ h => h) (Or.inl ⟨by rfl, ?_⟩) ?_ ?_
               rotate_left
               ·intro w'
                go_simp
                with_reducible rfl
               rotate_left
               ·simp only [Act.put, List.setIfInBounds_toArray, List.set_cons_zero, List.set_cons_succ, i64_w, i32_w]
                rfl
               refine pure_ (i := 2) (N := some 40) (v := ?_) (a' := ?_) (bm 12 6) rfl rfl (any_of HT_.out (by kernel_rfl)) (fun _ _ _ h => h) (Or.inl ⟨by rfl, ?_⟩) ?_ ?_
               rotate_left
               ·intro w'
                go_simp
                with_reducible rfl
               rotate_left
               ·simp only [Act.put, List.setIfInBounds_toArray, List.set_cons_zero, List.set_cons_succ, i64_w, i32_w]
                rfl
               refine pure_ (i := 3) (N := some 41) (v := ?_) (a' := ?_) (bm 12 14) rfl rfl (any_of HT_.out (by kernel_rfl)) (fun _ _ _ h => h) (Or.inl ⟨by rfl, ?_⟩) ?_ ?_
               rotate_left
               ·intro w'
                go_simp
                with_reducible rfl
               rotate_left
               ·simp only [Act.put, List.setIfInBounds_toArray, List.set_cons_zero, List.set_cons_succ, i64_w, i32_w]
                rfl
               refine pure_ (i := 6) (N := some 44) (v := ?_) (a' := ?_) (bm 12 78) rfl rfl (any_of HT_.out (by kernel_rfl)) (fun _ _ _ h => h) (Or.inl ⟨by rfl, ?_⟩) ?_ ?_
               rotate_left
               ·intro w'
                go_simp
                with_reducible rfl
               rotate_left
               ·simp only [Act.put, List.setIfInBounds_toArray, List.set_cons_zero, List.set_cons_succ, i64_w, i32_w]
                rfl
               refine pure_ (i := 7) (N := some 45) (v := ?_) (a' := ?_) (bm 12 206) rfl rfl (any_of HT_.out (by kernel_rfl)) (fun _ _ _ h => h) (Or.inl ⟨by rfl, ?_⟩) ?_ ?_
               rotate_left
               ·intro w'
                go_simp
                with_reducible rfl
               rotate_left
               ·simp only [Act.put, List.setIfInBounds_toArray, List.set_cons_zero, List.set_cons_succ, i64_w, i32_w]
                rfl
               refine pure_ (i := 8) (N := some 46) (v := ?_) (a' := ?_) (bm 12 462) rfl rfl (any_of HT_.out (by kernel_rfl)) (fun _ _ _ h => h) (Or.inl ⟨by rfl, ?_⟩) ?_ ?_
               rotate_left
               ·intro w'
                go_simp
                with_reducible rfl
               rotate_left
               ·simp only [Act.put, List.setIfInBounds_toArray, List.set_cons_zero, List.set_cons_succ, i64_w, i32_w]
                rfl
               refine take_ (i := 0) (N := some 38) (v := ?_) (a' := ?_) (bm 12 463) rfl rfl (take_ofW HT_.out HW_.out (by kernel_rfl)) (fun _ _ _ h => h) (Or.inl ⟨by rfl, ?_⟩) hHeld ?_ ?_
               rotate_left
               ·rintro w' ⟨s0, s1, s2, s3, s4, s5⟩
                go_simp
                with_reducible rfl
               rotate_left
               ·simp only [Act.put, List.setIfInBounds_toArray, List.set_cons_zero, List.set_cons_succ, i64_w, i32_w]
                rfl
               refine take_ (i := 5) (N := some 43) (v := ?_) (a' := ?_) (bm 12 495) rfl rfl (take_ofW HT_.out HW_.out (by kernel_rfl)) (fun _ _ _ h => h) (Or.inl ⟨by rfl, ?_⟩) hHeld ?_ ?_
               rotate_left
               ·rintro w' ⟨s0, s1, s2, s3, s4, s5⟩
                go_simp
                with_reducible rfl
               rotate_left
               ·simp only [Act.put, List.setIfInBounds_toArray, List.set_cons_zero, List.set_cons_succ, i64_w, i32_w]
                rfl
               refine one_ (i := 4) (N := some 42) (bm 12 511) rfl rfl (one_of HT_.out (by kernel_rfl)) (by decide) (fun K hK => ?_)
               refine goes_ Try.func65 (by kernel_rfl) rfl #[.agg #[.int .i64 a0_0, .slice A0_1 l0_1.length c0_1, .slice A0_2 l0_2.length c0_2], .int .i64 a2, .bool (rdOf false y375 x20_1), .int .i64 (rd x12_15 x34_3)] (by rfl) rfl rfl zG ?_
               with_reducible refine (impl_MoveOf.calls a0_0 _ _ l0_1 _ _ l0_2 a2 (rdOf false y375 x20_1) (rd x12_15 x34_3) t386 _ ?side1 ?side2 ?side3 ?side4 A30.out).mono ?_
               (case side1 => exact cS HR0_1 HB)
               (case side2 => exact HC0_1.out)
               (case side3 => exact cS HR0_2 HB)
               (case side4 => exact HC0_2.out)
               rintro e w48 ⟨rfl, hb⟩
               refine ⟨_, rfl, ?_⟩
               have n0_ := Aside0.mk (Kd.S_below (zS HO_9) hb)
               have n1_ := Aside0.mk (Kd.R_below (zR HO_18) hb)
               have n2_ := Aside0.mk (Kd.R_below (zR HO_32) hb)
               have n3_ := kB BK370 hb
               have n4_ := kB BK371 hb
               have n5_ := bS HB hb
               clear HO_9
               clear HO_18
               clear HO_32
               clear BK370
               clear BK371
               clear HB
               have HO_9 := n0_
               have HO_18 := n1_
               have HO_32 := n2_
               have BK370 := n3_
               have BK371 := n4_
               have HB := n5_
               clear n0_ n1_ n2_ n3_ n4_ n5_
               (try clear hb)
               (try clear hb2)
               (try clear hk)
               (try clear hi)
               refine hK.out _ _ ⟨bc0 BK370, bc1 BK370, bc2 BK370, bc0 BK371, bc1 BK371, bc2 BK371⟩ (fun hHeld => ?_)
               clear hK K
               refine norm_ (a' := ?_) ?_ ?_
               rotate_left
               ·show Act.put _ (some 42) _ = _
                simp only [Act.put, List.setIfInBounds_toArray, List.set_cons_zero, List.set_cons_succ, i64_w, i32_w]
                rfl
               refine one_ (i := 9) (N := some 47) (bm 12 1023) rfl rfl (one_of HT_.out (by kernel_rfl)) (by decide) (fun K hK => ?_)
               refine goes_ Try.func65 (by kernel_rfl) rfl #[.agg #[.int .i64 a1_0, .slice A1_1 l1_1.length c1_1, .slice A1_2 l1_2.length c1_2], .int .i64 a3, .bool (rdOf false y375 x20_1), .int .i64 (rd x12_15 x34_3)] (by rfl) rfl rfl zG ?_
               with_reducible refine (impl_MoveOf.calls a1_0 _ _ l1_1 _ _ l1_2 a3 (rdOf false y375 x20_1) (rd x12_15 x34_3) t387 _ ?side1 ?side2 ?side3 ?side4 A31.out).mono ?_
               (case side1 => exact cS HR1_1 HB)
               (case side2 => exact HC1_1.out)
               (case side3 => exact cS HR1_2 HB)
               (case side4 => exact HC1_2.out)
               rintro e w49 ⟨rfl, hb⟩
               refine ⟨_, rfl, ?_⟩
               have n0_ := Aside0.mk (Kd.S_below (zS HO_9) hb)
               have n1_ := Aside0.mk (Kd.R_below (zR HO_18) hb)
               have n2_ := Aside0.mk (Kd.R_below (zR HO_32) hb)
               have n3_ := kB BK370 hb
               have n4_ := kB BK371 hb
               have n5_ := bS HB hb
               clear HO_9
               clear HO_18
               clear HO_32
               clear BK370
               clear BK371
               clear HB
               have HO_9 := n0_
               have HO_18 := n1_
               have HO_32 := n2_
               have BK370 := n3_
               have BK371 := n4_
               have HB := n5_
               clear n0_ n1_ n2_ n3_ n4_ n5_
               (try clear hb)
               (try clear hb2)
               (try clear hk)
               (try clear hi)
               refine hK.out _ _ ⟨bc0 BK370, bc1 BK370, bc2 BK370, bc0 BK371, bc1 BK371, bc2 BK371⟩ (fun hHeld => ?_)
               clear hK K
               refine norm_ (a' := ?_) ?_ ?_
               rotate_left
               ·show Act.put _ (some 47) _ = _
                simp only [Act.put, List.setIfInBounds_toArray, List.set_cons_zero, List.set_cons_succ, i64_w, i32_w]
                rfl
               refine pure_ (i := 10) (N := some 15) (v := ?_) (a' := ?_) (bm 12 2047) rfl rfl (any_of HT_.out (by kernel_rfl)) (fun _ _ _ h => h) (Or.inl ⟨by rfl, ?_⟩) ?_ ?_
               rotate_left
               ·intro w'
                go_simp
                with_reducible rfl
               rotate_left
               ·simp only [Act.put, List.setIfInBounds_toArray, List.set_cons_zero, List.set_cons_succ, i64_w, i32_w]
                rfl
               refine pure_ (i := 11) (N := some 16) (v := ?_) (a' := ?_) (bm 12 4095) rfl rfl (any_of HT_.out (by kernel_rfl)) (fun _ _ _ h => h) (Or.inl ⟨by rfl, ?_⟩) ?_ ?_
               rotate_left
               ·intro w'
                go_simp
                with_reducible rfl
               rotate_left
               ·simp only [Act.put, List.setIfInBounds_toArray, List.set_cons_zero, List.set_cons_succ, i64_w, i32_w]
                rfl
               refine done_ (done_of HT_.out (by kernel_rfl)) ?_
               try clear hHeld
               try go_wp2
               go_roundg k3
               case measure => have := HK1.out; have := HJ15.out; have := HK3.out; omega
               case rel => exact ⟨(x9_3), (wrap64 (x34_3 + 1)), zF, H', ⟨by have := HK1.out; have := HJ15.out; have := HK3.out; omega⟩, ⟨zS HO_9⟩, ⟨zR HO_18⟩, ⟨zR HO_32⟩, ⟨zK BK370⟩, ⟨zK BK371⟩, ⟨zB HB⟩⟩
             ·rw [if_neg c32] at H
              have c32b0 : decide (0 ≤ t386) = false := decide_eq_false c32
              clear c32
              have H' := Aside0.mk H
              clear H
              have p385 : 0 ≤ (x34_3 : Int) := of_decide_eq_true (by first | (with_reducible assumption) | assumption)
              have q385 : x34_3 < (x12_15.length : Int) := of_decide_eq_true (by first | (with_reducible assumption) | assumption)
              obtain ⟨ad385, e385, hx385_0⟩ := Kd.at_int (Kd.R_reads' HO_32.out).2.2 x34_3 p385 q385
              cases e385
              replace p385 := eq_true p385
              replace q385 := eq_true q385
              try go_wp2
              have n0_ := Aside0.mk (Kd.S_drew HO_9.out)
              have n1_ := Aside0.mk (Kd.R_drew HO_18.out)
              have n2_ := Aside0.mk (Kd.R_drew HO_32.out)
              have n3_ := Aside0.mk (blk_drew BK370.out)
              have n4_ := Aside0.mk (blk_drew BK371.out)
              have n5_ := Aside0.mk (below_drew1 HB.out)
              clear HO_9
              clear HO_18
              clear HO_32
              clear BK370
              clear BK371
              clear HB
              have HO_9 := n0_
              have HO_18 := n1_
              have HO_32 := n2_
              have BK370 := n3_
              have BK371 := n4_
              have HB := n5_
              clear n0_ n1_ n2_ n3_ n4_ n5_
              refine start_ (n := 12) (S := fun w' => w'.cell? ⟨gb370, 0, none⟩ = some (.int .i64 a0_0) ∧ w'.cell? ⟨gb370, 1, none⟩ = some (.slice A0_1 l0_1.length c0_1) ∧ w'.cell? ⟨gb370, 2, none⟩ = some (.slice A0_2 l0_2.length c0_2) ∧ w'.cell? ⟨gb371, 0, none⟩ = some (.int .i64 a1_0) ∧ w'.cell? ⟨gb371, 1, none⟩ = some (.slice A1_1 l1_1.length c1_1) ∧ w'.cell? ⟨gb371, 2, none⟩ = some (.slice A1_2 l1_2.length c1_2)) (ds := []) (bm 12 0) (by kernel_rfl) rfl (bm0 _) ⟨bc0 BK370, bc1 BK370, bc2 BK370, bc0 BK371, bc1 BK371, bc2 BK371⟩ (fun hHeld => ?_); refine with_tabW impl_nextFollowed.tab11 impl_nextFollowed.bits11 (fun HT_ HW_ => ?_)
              generalize wr.drew = w50 at HO_9 HO_18 HO_32 BK370 BK371 HB hHeld ⊢
              refine pure_ (i := 1) (N := some 39) (v := ?_) (a' := ?_) (bm 12 2) rfl rfl (any_of HT_.out (by kernel_rfl)) (fun _ _ _ h => h) (Or.inl ⟨by rfl, ?_⟩) ?_ ?_
              rotate_left
              ·intro w'
               go_simp
               with_reducible rfl
              rotate_left
              ·simp only [Act.put, List.setIfInBounds_toArray, List.set_cons_zero, List.set_cons_succ, i64_w, i32_w]
               rfl
              refine pure_ (i := 2) (N := some 40) (v := ?_) (a' := ?_) (bm 12 6) rfl rfl (any_of HT_.out (by kernel_rfl)) (fun _ _ _ h => h) (Or.inl ⟨by rfl, ?_⟩) ?_ ?_
              rotate_left
              ·intro w'
               go_simp
               with_reducible rfl
              rotate_left
              ·simp only [Act.put, List.setIfInBounds_toArray, List.set_cons_zero, List.set_cons_succ, i64_w, i32_w]
               rfl
              refine pure_ (i := 3) (N := some 41) (v := ?_) (a' := ?_) (bm 12 14) rfl rfl (any_of HT_.out (by kernel_rfl)) (fun _ _ _ h => h) (Or.inl ⟨by rfl, ?_⟩) ?_ ?_
              rotate_left
              ·intro w'
               go_simp
               with_reducible rfl
              rotate_left
              ·simp only [Act.put, List.setIfInBounds_toArray, List.set_cons_zero, List.set_cons_succ, i64_w, i32_w]
               rfl
              refine pure_ (i := 6) (N := some 44) (v := ?_) (a' := ?_) (bm 12 78) rfl rfl (any_of HT_.out (by kernel_rfl)) (fun _ _ _ h => h) (Or.inl ⟨by rfl, ?_⟩) ?_ ?_
              rotate_left
              ·intro w'
               go_simp
               with_reducible rfl
              rotate_left
              ·simp only [Act.put, List.setIfInBounds_toArray, List.set_cons_zero, List.set_cons_succ, i64_w, i32_w]
               rfl
              refine pure_ (i := 7) (N := some 45) (v := ?_) (a' := ?_) (bm 12 206) rfl rfl (any_of HT_.out (by kernel_rfl)) (fun _ _ _ h => h) (Or.inl ⟨by rfl, ?_⟩) ?_ ?_
              rotate_left
              ·intro w'
               go_simp
               with_reducible rfl
              rotate_left
              ·simp only [Act.put, List.setIfInBounds_toArray, List.set_cons_zero, List.set_cons_succ, i64_w, i32_w]
               rfl
              refine pure_ (i := 8) (N := some 46) (v := ?_) (a' := ?_) (bm 12 462) rfl rfl (any_of HT_.out (by kernel_rfl)) (fun _ _ _ h => h) (Or.inl ⟨by rfl, ?_⟩) ?_ ?_
              rotate_left
              ·intro w'
               go_simp
               with_reducible rfl
              rotate_left
              ·simp only [Act.put, List.setIfInBounds_toArray, List.set_cons_zero, List.set_cons_succ, i64_w, i32_w]
               rfl
              refine take_ (i := 0) (N := some 38) (v := ?_) (a' := ?_) (bm 12 463) rfl rfl (take_ofW HT_.out HW_.out (by kernel_rfl)) (fun _ _ _ h => h) (Or.inl ⟨by rfl, ?_⟩) hHeld ?_ ?_
              rotate_left
              ·rintro w' ⟨s0, s1, s2, s3, s4, s5⟩
               go_simp
               with_reducible rfl
              rotate_left
              ·simp only [Act.put, List.setIfInBounds_toArray, List.set_cons_zero, List.set_cons_succ, i64_w, i32_w]
               rfl
              refine take_ (i := 5) (N := some 43) (v := ?_) (a' := ?_) (bm 12 495) rfl rfl (take_ofW HT_.out HW_.out (by kernel_rfl)) (fun _ _ _ h => h) (Or.inl ⟨by rfl, ?_⟩) hHeld ?_ ?_
              rotate_left
              ·rintro w' ⟨s0, s1, s2, s3, s4, s5⟩
               go_simp
               with_reducible rfl
              rotate_left
              ·simp only [Act.put, List.setIfInBounds_toArray, List.set_cons_zero, List.set_cons_succ, i64_w, i32_w]
               rfl
              refine one_ (i := 4) (N := some 42) (bm 12 511) rfl rfl (one_of HT_.out (by kernel_rfl)) (by decide) (fun K hK => ?_)
              refine goes_ Try.func65 (by kernel_rfl) rfl #[.agg #[.int .i64 a0_0, .slice A0_1 l0_1.length c0_1, .slice A0_2 l0_2.length c0_2], .int .i64 a2, .bool (rdOf false y375 x20_1), .int .i64 (rd x12_15 x34_3)] (by rfl) rfl rfl zG ?_
              with_reducible refine (impl_MoveOf.calls a0_0 _ _ l0_1 _ _ l0_2 a2 (rdOf false y375 x20_1) (rd x12_15 x34_3) t386 _ ?side1 ?side2 ?side3 ?side4 A30.out).mono ?_
              (case side1 => exact cS HR0_1 HB)
              (case side2 => exact HC0_1.out)
              (case side3 => exact cS HR0_2 HB)
              (case side4 => exact HC0_2.out)
              rintro e w51 ⟨rfl, hb⟩
              refine ⟨_, rfl, ?_⟩
              have n0_ := Aside0.mk (Kd.S_below (zS HO_9) hb)
              have n1_ := Aside0.mk (Kd.R_below (zR HO_18) hb)
              have n2_ := Aside0.mk (Kd.R_below (zR HO_32) hb)
              have n3_ := kB BK370 hb
              have n4_ := kB BK371 hb
              have n5_ := bS HB hb
              clear HO_9
              clear HO_18
              clear HO_32
              clear BK370
              clear BK371
              clear HB
              have HO_9 := n0_
              have HO_18 := n1_
              have HO_32 := n2_
              have BK370 := n3_
              have BK371 := n4_
              have HB := n5_
              clear n0_ n1_ n2_ n3_ n4_ n5_
              (try clear hb)
              (try clear hb2)
              (try clear hk)
              (try clear hi)
              refine hK.out _ _ ⟨bc0 BK370, bc1 BK370, bc2 BK370, bc0 BK371, bc1 BK371, bc2 BK371⟩ (fun hHeld => ?_)
              clear hK K
              refine norm_ (a' := ?_) ?_ ?_
              rotate_left
              ·show Act.put _ (some 42) _ = _
               simp only [Act.put, List.setIfInBounds_toArray, List.set_cons_zero, List.set_cons_succ, i64_w, i32_w]
               rfl
              refine one_ (i := 9) (N := some 47) (bm 12 1023) rfl rfl (one_of HT_.out (by kernel_rfl)) (by decide) (fun K hK => ?_)
              refine goes_ Try.func65 (by kernel_rfl) rfl #[.agg #[.int .i64 a1_0, .slice A1_1 l1_1.length c1_1, .slice A1_2 l1_2.length c1_2], .int .i64 a3, .bool (rdOf false y375 x20_1), .int .i64 (rd x12_15 x34_3)] (by rfl) rfl rfl zG ?_
              with_reducible refine (impl_MoveOf.calls a1_0 _ _ l1_1 _ _ l1_2 a3 (rdOf false y375 x20_1) (rd x12_15 x34_3) t387 _ ?side1 ?side2 ?side3 ?side4 A31.out).mono ?_
              (case side1 => exact cS HR1_1 HB)
              (case side2 => exact HC1_1.out)
              (case side3 => exact cS HR1_2 HB)
              (case side4 => exact HC1_2.out)
              rintro e w52 ⟨rfl, hb⟩
              refine ⟨_, rfl, ?_⟩
              have n0_ := Aside0.mk (Kd.S_below (zS HO_9) hb)
              have n1_ := Aside0.mk (Kd.R_below (zR HO_18) hb)
              have n2_ := Aside0.mk (Kd.R_below (zR HO_32) hb)
              have n3_ := kB BK370 hb
              have n4_ := kB BK371 hb
              have n5_ := bS HB hb
              clear HO_9
              clear HO_18
              clear HO_32
              clear BK370
              clear BK371
              clear HB
              have HO_9 := n0_
              have HO_18 := n1_
              have HO_32 := n2_
              have BK370 := n3_
              have BK371 := n4_
              have HB := n5_
              clear n0_ n1_ n2_ n3_ n4_ n5_
              (try clear hb)
              (try clear hb2)
              (try clear hk)
              (try clear hi)
              refine hK.out _ _ ⟨bc0 BK370, bc1 BK370, bc2 BK370, bc0 BK371, bc1 BK371, bc2 BK371⟩ (fun hHeld => ?_)
              clear hK K
              refine norm_ (a' := ?_) ?_ ?_
              rotate_left
              ·show Act.put _ (some 47) _ = _
               simp only [Act.put, List.setIfInBounds_toArray, List.set_cons_zero, List.set_cons_succ, i64_w, i32_w]
               rfl
              refine pure_ (i := 10) (N := some 15) (v := ?_) (a' := ?_) (bm 12 2047) rfl rfl (any_of HT_.out (by kernel_rfl)) (fun _ _ _ h => h) (Or.inl ⟨by rfl, ?_⟩) ?_ ?_
              rotate_left
              ·intro w'
               go_simp
               with_reducible rfl
              rotate_left
              ·simp only [Act.put, List.setIfInBounds_toArray, List.set_cons_zero, List.set_cons_succ, i64_w, i32_w]
               rfl
              refine pure_ (i := 11) (N := some 16) (v := ?_) (a' := ?_) (bm 12 4095) rfl rfl (any_of HT_.out (by kernel_rfl)) (fun _ _ _ h => h) (Or.inl ⟨by rfl, ?_⟩) ?_ ?_
              rotate_left
              ·intro w'
               go_simp
               with_reducible rfl
              rotate_left
              ·simp only [Act.put, List.setIfInBounds_toArray, List.set_cons_zero, List.set_cons_succ, i64_w, i32_w]
               rfl
              refine done_ (done_of HT_.out (by kernel_rfl)) ?_
              try clear hHeld
              try go_wp2
              go_roundg k3
              case measure => have := HK1.out; have := HJ15.out; have := HK3.out; omega
              case rel => exact ⟨(x9_3), (wrap64 (x34_3 + 1)), zF, H', ⟨by have := HK1.out; have := HJ15.out; have := HK3.out; omega⟩, ⟨zS HO_9⟩, ⟨zR HO_18⟩, ⟨zR HO_32⟩, ⟨zK BK370⟩, ⟨zK BK371⟩, ⟨zB HB⟩⟩
            ·rw [if_neg c29] at H
             exact absurd H (by simp)
           ·rw [if_neg c28] at H
            exact absurd H (by simp)
          ·rw [if_neg c27] at H
           have c27b0 : decide (x34_3 < (x12_15.length : Int)) = false := decide_eq_false c27
           clear c27
           have H' := Aside0.mk H
           clear H
           go_wp2
           go_roundg k3
           case measure => have := HK1.out; have := HJ15.out; have := HK3.out; omega
           case rel => exact ⟨(x9_3), (wrap64 (x20_1 + 1)), zF, H', ⟨by have := HK1.out; have := HJ15.out; have := HK3.out; omega⟩, ⟨by (with_reducible repeat (first | apply Kd.S_alloc | apply Kd.S_drewN | apply Kd.S_drew)); exact Kd.S_mono HO_9.out (fun _ hk => trivial)⟩, ⟨zR HO_18⟩, ⟨zK BK370⟩, ⟨zK BK371⟩, ⟨zB HB⟩⟩
     ·rw [if_neg c14] at H
      exact absurd H (by simp)
    ·rw [if_neg c13] at H
     exact absurd H (by simp)
   ·rw [if_neg c12] at H
    have c12b0 : decide (x20_1 < (y375.length : Int)) = false := decide_eq_false c12
    clear c12
    obtain rfl := Option.some.inj H
    go_wp2
    go_ret
    exact ⟨_, by first | rfl | (simp [errW_none, errW_some] <;> rfl) | (simp [*, errW_none, errW_some] <;> rfl), by (with_reducible repeat (first | apply Kd.S_alloc | apply Kd.S_drewN | apply Kd.S_drew)); exact HO_9.out, by repeat (first | (with_reducible first | exact HB.out | apply below_alloc | apply pw_below_drewN | apply below_drew1 | refine below_set ?_ GE370.out | refine below_set ?_ GE371.out) | exact HB.out)⟩

end Go.Proofs.Ytmenijbpglknbaa.PFnExactFollows
