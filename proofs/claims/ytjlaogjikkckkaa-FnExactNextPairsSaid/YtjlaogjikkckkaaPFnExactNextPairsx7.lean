-- WRITTEN by pp.py, this session's own wrapper around the print; not trusted: Lean checks it
import Derived.Test.YtjlaogjikkckkaaPFnExactNextPairsx0
import Derived.Test.YtjlaogjikkckkaaPFnExactNextPairsx6
namespace Go.Proofs.Ytjlaogjikkckkaa.PFnExactNextPairs
open Go.RowKit Go.Proofs.Ytjlaogjikkckkaa.Hw Go.Proofs.YtjlaogjikkckkaaW.PrintWords Go.Proofs.YtjlaogjikkckkaaW.PrintLast Go.Proofs.YtjlaogjikkckkaaW.PrintMore
attribute [local go_sem] max2_int min2_int max_two min_two max_three min_three max_four min_four   -- for this text's walks alone
set_option linter.unusedVariables false
set_option linter.unusedSimpArgs false
set_option linter.unusedSectionVars false

/-! ### impl_NextPairs: function 22 -/
mutual
def impl_NextPairs.l0 : Nat → Int → Int → List (List Int) → List Bool → Int → Int → Int → List Bool → List (S54) → Int → List Bool → List (S54) → Option ((List (List Int)))
 | 0, _, _, _, _, _, _, _, _, _, _, _, _ => none
 | k + 1, x2, x3, x9, x18, x19, x20, x260000, x260001, x260002, x261000, x261001, x261002 => if x20 < x19 then (if 0 ≤ x20 then (if x20 < (x18.length : Int) then ((impl_MovesFrom.f k x260000 x260001 x260002 x2 true).bind fun t268 => (if rdOf false x18 x20 = true then (impl_NextPairs.j1 k x2 x3 x9 (rdOf false x18 x20) t268 x18 x19 x20 x260000 x260001 x260002 x261000 x261001 x261002) else ((impl_MovesFrom.f k x261000 x261001 x261002 x3 true).bind fun t271 => (impl_NextPairs.j1 k x2 x3 x9 (rdOf false x18 x20) t271 x18 x19 x20 x260000 x260001 x260002 x261000 x261001 x261002)))) else (none)) else (none)) else (some x9)
def impl_NextPairs.j1 : Nat → Int → Int → List (List Int) → Bool → List Int → List Bool → Int → Int → Int → List Bool → List (S54) → Int → List Bool → List (S54) → Option ((List (List Int)))
 | 0, _, _, _, _, _, _, _, _, _, _, _, _, _, _ => none
 | k + 1, x2, x3, x9, x11, x12, x18, x19, x20, x260000, x260001, x260002, x261000, x261001, x261002 => impl_NextPairs.l1 k x2 x3 x9 x11 x18 x19 x20 x12 (x12.length : Int) 0 x260000 x260001 x260002 x261000 x261001 x261002
def impl_NextPairs.l1 : Nat → Int → Int → List (List Int) → Bool → List Bool → Int → Int → List Int → Int → Int → Int → List Bool → List (S54) → Int → List Bool → List (S54) → Option ((List (List Int)))
 | 0, _, _, _, _, _, _, _, _, _, _, _, _, _, _, _, _ => none
 | k + 1, x2, x3, x9, x11, x18, x19, x20, x32, x33, x34, x260000, x260001, x260002, x261000, x261001, x261002 => if x34 < x33 then (if 0 ≤ x34 then (if x34 < (x32.length : Int) then ((impl_MoveOf.f x260000 x260001 x260002 x2 x11 (rd x32 x34)).bind fun t275 => ((impl_MoveOf.f x261000 x261001 x261002 x3 (!x11) (rd x32 x34)).bind fun t276 => (if t275 ≥ 0 then (if t276 ≥ 0 then (if 0 ≤ t275 then (if t275 < (x260002.length : Int) then (if 0 ≤ t276 then (if t276 < (x261002.length : Int) then (if x9.length < 5864062014805 then (impl_NextPairs.l1 k x2 x3 (x9 ++ [(([(rd_T54 x260002 t275).f3, (rd_T54 x261002 t276).f3] : List Int))]) x11 x18 x19 x20 x32 x33 (wrap64 (x34 + 1)) x260000 x260001 x260002 x261000 x261001 x261002) else (none)) else (none)) else (none)) else (none)) else (none)) else (impl_NextPairs.l1 k x2 x3 x9 x11 x18 x19 x20 x32 x33 (wrap64 (x34 + 1)) x260000 x260001 x260002 x261000 x261001 x261002)) else (impl_NextPairs.l1 k x2 x3 x9 x11 x18 x19 x20 x32 x33 (wrap64 (x34 + 1)) x260000 x260001 x260002 x261000 x261001 x261002)))) else (none)) else (none)) else (impl_NextPairs.l0 k x2 x3 x9 x18 x19 (wrap64 (x20 + 1)) x260000 x260001 x260002 x261000 x261001 x261002)
end
def impl_NextPairs.f (k : Nat) (a0_0 : Int) (l0_1 : List Bool) (l0_2 : List (S54)) (a1_0 : Int) (l1_1 : List Bool) (l1_2 : List (S54)) (a2 : Int) (a3 : Int) : Option ((List (List Int))) := (some (([true, false] : List Bool) : List Bool)).bind fun y264 => (impl_NextPairs.l0 k a2 a3 (([] : List (List Int))) y264 (y264.length : Int) 0 a0_0 l0_1 l0_2 a1_0 l1_1 l1_2)
theorem impl_NextPairs.mono_l : ∀ k, (∀ y0 y1 y2 y3 y4 y5 y6 y7 y8 y9 y10 y11, LeO (impl_NextPairs.l0 k y0 y1 y2 y3 y4 y5 y6 y7 y8 y9 y10 y11) (impl_NextPairs.l0 (k + 1) y0 y1 y2 y3 y4 y5 y6 y7 y8 y9 y10 y11)) ∧ (∀ y0 y1 y2 y3 y4 y5 y6 y7 y8 y9 y10 y11 y12 y13, LeO (impl_NextPairs.j1 k y0 y1 y2 y3 y4 y5 y6 y7 y8 y9 y10 y11 y12 y13) (impl_NextPairs.j1 (k + 1) y0 y1 y2 y3 y4 y5 y6 y7 y8 y9 y10 y11 y12 y13)) ∧ (∀ y0 y1 y2 y3 y4 y5 y6 y7 y8 y9 y10 y11 y12 y13 y14 y15, LeO (impl_NextPairs.l1 k y0 y1 y2 y3 y4 y5 y6 y7 y8 y9 y10 y11 y12 y13 y14 y15) (impl_NextPairs.l1 (k + 1) y0 y1 y2 y3 y4 y5 y6 y7 y8 y9 y10 y11 y12 y13 y14 y15))
 | 0 => ⟨fun _ _ _ _ _ _ _ _ _ _ _ _ r h => by simp [impl_NextPairs.l0] at h, fun _ _ _ _ _ _ _ _ _ _ _ _ _ _ r h => by simp [impl_NextPairs.j1] at h, fun _ _ _ _ _ _ _ _ _ _ _ _ _ _ _ _ r h => by simp [impl_NextPairs.l1] at h⟩
 | k + 1 => by
  obtain ⟨ih0, ih1, ih2⟩ := impl_NextPairs.mono_l k
  refine ⟨?_, ?_, ?_⟩
  ·intro y0 y1 y2 y3 y4 y5 y6 y7 y8 y9 y10 y11
   unfold impl_NextPairs.l0
   repeat' first
   | (with_reducible exact ih0 _ _ _ _ _ _ _ _ _ _ _ _)
   | (with_reducible exact ih1 _ _ _ _ _ _ _ _ _ _ _ _ _ _)
   | (with_reducible exact ih2 _ _ _ _ _ _ _ _ _ _ _ _ _ _ _ _)
   | (with_reducible exact impl_MovesFrom.mono _ _ _ _ _ _)
   | (with_reducible exact LeO.refl _)
   | (with_reducible exact LeO.none _)
   | (with_reducible refine LeO.ite ?_ ?_)
   | (with_reducible refine LeO.bind ?_ (fun _ => ?_))
   | exact ih0 _ _ _ _ _ _ _ _ _ _ _ _
   | exact ih1 _ _ _ _ _ _ _ _ _ _ _ _ _ _
   | exact ih2 _ _ _ _ _ _ _ _ _ _ _ _ _ _ _ _
   | exact impl_MovesFrom.mono _ _ _ _ _ _
   | exact LeO.none _
   | refine LeO.ite ?_ ?_
   | refine LeO.bind ?_ (fun _ => ?_)
  ·intro y0 y1 y2 y3 y4 y5 y6 y7 y8 y9 y10 y11 y12 y13
   unfold impl_NextPairs.j1
   repeat' first
   | (with_reducible exact ih0 _ _ _ _ _ _ _ _ _ _ _ _)
   | (with_reducible exact ih1 _ _ _ _ _ _ _ _ _ _ _ _ _ _)
   | (with_reducible exact ih2 _ _ _ _ _ _ _ _ _ _ _ _ _ _ _ _)
   | (with_reducible exact impl_MovesFrom.mono _ _ _ _ _ _)
   | (with_reducible exact LeO.refl _)
   | (with_reducible exact LeO.none _)
   | (with_reducible refine LeO.ite ?_ ?_)
   | (with_reducible refine LeO.bind ?_ (fun _ => ?_))
   | exact ih0 _ _ _ _ _ _ _ _ _ _ _ _
   | exact ih1 _ _ _ _ _ _ _ _ _ _ _ _ _ _
   | exact ih2 _ _ _ _ _ _ _ _ _ _ _ _ _ _ _ _
   | exact impl_MovesFrom.mono _ _ _ _ _ _
   | exact LeO.none _
   | refine LeO.ite ?_ ?_
   | refine LeO.bind ?_ (fun _ => ?_)
  ·intro y0 y1 y2 y3 y4 y5 y6 y7 y8 y9 y10 y11 y12 y13 y14 y15
   unfold impl_NextPairs.l1
   repeat' first
   | (with_reducible exact ih0 _ _ _ _ _ _ _ _ _ _ _ _)
   | (with_reducible exact ih1 _ _ _ _ _ _ _ _ _ _ _ _ _ _)
   | (with_reducible exact ih2 _ _ _ _ _ _ _ _ _ _ _ _ _ _ _ _)
   | (with_reducible exact impl_MovesFrom.mono _ _ _ _ _ _)
   | (with_reducible exact LeO.refl _)
   | (with_reducible exact LeO.none _)
   | (with_reducible refine LeO.ite ?_ ?_)
   | (with_reducible refine LeO.bind ?_ (fun _ => ?_))
   | exact ih0 _ _ _ _ _ _ _ _ _ _ _ _
   | exact ih1 _ _ _ _ _ _ _ _ _ _ _ _ _ _
   | exact ih2 _ _ _ _ _ _ _ _ _ _ _ _ _ _ _ _
   | exact impl_MovesFrom.mono _ _ _ _ _ _
   | exact LeO.none _
   | refine LeO.ite ?_ ?_
   | refine LeO.bind ?_ (fun _ => ?_)
theorem impl_NextPairs.mono : ∀ a0 a1 a2 a3 a4 a5 a6 a7 k, LeO (impl_NextPairs.f k a0 a1 a2 a3 a4 a5 a6 a7) (impl_NextPairs.f (k + 1) a0 a1 a2 a3 a4 a5 a6 a7) := by
 intro a0 a1 a2 a3 a4 a5 a6 a7 k
 obtain ⟨ih0, ih1, ih2⟩ := impl_NextPairs.mono_l k
 unfold impl_NextPairs.f
 repeat' first
   | (with_reducible exact ih0 _ _ _ _ _ _ _ _ _ _ _ _)
   | (with_reducible exact ih1 _ _ _ _ _ _ _ _ _ _ _ _ _ _)
   | (with_reducible exact ih2 _ _ _ _ _ _ _ _ _ _ _ _ _ _ _ _)
   | (with_reducible exact impl_MovesFrom.mono _ _ _ _ _ _)
   | (with_reducible exact LeO.refl _)
   | (with_reducible exact LeO.none _)
   | (with_reducible refine LeO.ite ?_ ?_)
   | (with_reducible refine LeO.bind ?_ (fun _ => ?_))
   | exact ih0 _ _ _ _ _ _ _ _ _ _ _ _
   | exact ih1 _ _ _ _ _ _ _ _ _ _ _ _ _ _
   | exact ih2 _ _ _ _ _ _ _ _ _ _ _ _ _ _ _ _
   | exact impl_MovesFrom.mono _ _ _ _ _ _
   | exact LeO.none _
   | refine LeO.ite ?_ ?_
   | refine LeO.bind ?_ (fun _ => ?_)
def impl_NextPairs.T11 : Bool × List (List Nat × List Nat) := (true, [([], []), ([], []), ([], []), ([], []), ([0, 1, 2, 3], [0, 1, 2, 3]), ([], []), ([], []), ([], []), ([7], [7]), ([], []), ([5, 6, 8, 9, 4], [5, 6, 8, 9]), ([4, 10, 0, 1, 2, 3, 4], [4]), ([10, 11, 0, 1, 2, 3, 4, 5, 6, 7, 8, 9, 10, 11], [10])])
def impl_NextPairs.B11 : List Nat := [0, 0, 0, 0, 15, 0, 0, 0, 128, 0, 1023, 2047, 4095]
theorem impl_NextPairs.tab11 : rtab .any (opsOf Try.f22 11) = impl_NextPairs.T11 := by kernel_rfl
theorem impl_NextPairs.bits11 : waitsOk impl_NextPairs.T11.2 impl_NextPairs.B11 = true := by kernel_rfl
def impl_NextPairs.T13 : Bool × List (List Nat × List Nat) := (true, [([], []), ([], []), ([1], [1]), ([], []), ([2, 3], [2, 3]), ([4], [4]), ([5], [5]), ([], []), ([7], [7]), ([], []), ([8, 9], [8, 9]), ([10], [10]), ([11], [11]), ([6, 12], [6, 12]), ([13], [13]), ([0, 14], [0, 14]), ([15, 15, 0, 1, 2, 3, 4, 5, 6, 7, 8, 9, 10, 11, 12, 13, 14, 15], [0, 15])])
def impl_NextPairs.B13 : List Nat := [0, 0, 2, 0, 14, 30, 62, 0, 128, 0, 896, 1920, 3968, 8190, 16382, 32767, 65535]
theorem impl_NextPairs.tab13 : rtab .any (opsOf Try.f22 13) = impl_NextPairs.T13 := by kernel_rfl
theorem impl_NextPairs.bits13 : waitsOk impl_NextPairs.T13.2 impl_NextPairs.B13 = true := by kernel_rfl
set_option maxHeartbeats 8000000 in
set_option maxRecDepth 100000 in
theorem impl_NextPairs.calls (k : Nat) (a0_0 : Int) (A0_1 : Option Addr) (c0_1 : Nat) (l0_1 : List Bool) (A0_2 : Option Addr) (c0_2 : Nat) (l0_2 : List (S54)) (a1_0 : Int) (A1_1 : Option Addr) (c1_1 : Nat) (l1_1 : List Bool) (A1_2 : Option Addr) (c1_2 : Nat) (l1_2 : List (S54)) (a2 : Int) (a3 : Int) (r : List (List Int)) (w : World) (hr0_1 : Kd.C Kd.bool w A0_1 l0_1.length l0_1) (hc0_1 : l0_1.length ≤ c0_1) (hr0_2 : Kd.C k54 w A0_2 l0_2.length l0_2) (hc0_2 : l0_2.length ≤ c0_2) (hr1_1 : Kd.C Kd.bool w A1_1 l1_1.length l1_1) (hc1_1 : l1_1.length ≤ c1_1) (hr1_2 : Kd.C k54 w A1_2 l1_2.length l1_2) (hc1_2 : l1_2.length ≤ c1_2) (h : impl_NextPairs.f k a0_0 l0_1 l0_2 a1_0 l1_1 l1_2 a2 a3 = some r) :
  Calls Try.prog 22 #[.agg #[.int .i64 a0_0, .slice A0_1 l0_1.length c0_1, .slice A0_2 l0_2.length c0_2], .agg #[.int .i64 a1_0, .slice A1_1 l1_1.length c1_1, .slice A1_2 l1_2.length c1_2], .int .i64 a2, .int .i64 a3] w fun e w' => ∃ v0_ : Value, e = .returned (v0_) ∧ Kd.S (Kd.slice 3 (Kd.int .i64)) 37 w' w.heap.size (fun _ => True) v0_ r ∧ Below w.heap.size w w' := by
 have hu29 := Try.underlying29
 have HR0_1 := Aside0.mk hr0_1
 have HC0_1 := Aside0.mk hc0_1
 clear hr0_1 hc0_1
 have HR0_2 := Aside0.mk hr0_2
 have HC0_2 := Aside0.mk hc0_2
 clear hr0_2 hc0_2
 have HR1_1 := Aside0.mk hr1_1
 have HC1_1 := Aside0.mk hc1_1
 clear hr1_1 hc1_1
 have HR1_2 := Aside0.mk hr1_2
 have HC1_2 := Aside0.mk hc1_2
 clear hr1_2 hc1_2
 have HB := Aside0.mk (Below.refl w.heap.size w)
 have H : ((some (([true, false] : List Bool) : List Bool)).bind fun y264 => (impl_NextPairs.l0 k a2 a3 (([] : List (List Int))) y264 (y264.length : Int) 0 a0_0 l0_1 l0_2 a1_0 l1_1 l1_2)) = some r := h
 clear h
 obtain ⟨y261, hy261⟩ : ∃ y_ : List (List Int), y_ = (([] : List (List Int))) := ⟨_, rfl⟩
 replace H : ((some (([true, false] : List Bool) : List Bool)).bind fun y264 => (impl_NextPairs.l0 k a2 a3 y261 y264 (y264.length : Int) 0 a0_0 l0_1 l0_2 a1_0 l1_1 l1_2)) = some r := by first | (rw [hy261]; with_reducible exact H) | (have H2_ := (Option.bind_some _ _).symm.trans H; rw [hy261]; with_reducible exact H2_) | (have H2_ := (Option.bind_some _ _).symm.trans H; with_reducible exact H2_) | with_reducible exact H | (rw [hy261]; exact H) | exact H
 have Ny261 := Aside0.mk hy261
 clear hy261
 obtain ⟨y264, hy264⟩ : ∃ y_ : List Bool, y_ = (([true, false] : List Bool)) := ⟨_, rfl⟩
 replace H : (impl_NextPairs.l0 k a2 a3 y261 y264 (y264.length : Int) 0 a0_0 l0_1 l0_2 a1_0 l1_1 l1_2) = some r := by first | (rw [hy264]; with_reducible exact H) | (have H2_ := (Option.bind_some _ _).symm.trans H; rw [hy264]; with_reducible exact H2_) | (have H2_ := (Option.bind_some _ _).symm.trans H; with_reducible exact H2_) | with_reducible exact H | (rw [hy264]; exact H) | exact H
 have Ny264 := Aside0.mk hy264
 clear hy264
 have H' := Aside0.mk H
 clear H
 go_enter Try.func22, Try.ntmps22
 go_wp2_with (first | ((with_reducible refine gate_dst (N := 4) rfl ?_); refine box_event ?hg (N := 4) ?hd (cs := #[.int .i64 a0_0, .slice A0_1 l0_1.length c0_1, .slice A0_2 l0_2.length c0_2]) (t := 29) ?hr ?_; (case hd => rfl); (case hg => rfl); (case hr => first | (go_simp; done) | (go_simp; rfl)); intro gb259 hg w5 hbox hb; have BK259 := Aside0.mk (hbox); have GW259 := gS HB hg; have GE259 := gS HB hg; replace HB := bS HB hb; clear hb hbox hg) | ((with_reducible refine gate_dst (N := 5) rfl ?_); refine box_event ?hg (N := 5) ?hd (cs := #[.int .i64 a1_0, .slice A1_1 l1_1.length c1_1, .slice A1_2 l1_2.length c1_2]) (t := 29) ?hr ?_; (case hd => rfl); (case hg => rfl); (case hr => first | (go_simp; done) | (go_simp; rfl)); intro gb260 hg w6 hbox hb; have BK260 := Aside0.mk (hbox); have GW260 := gS HB hg; have GE260 := gS HB hg; replace HB := bS HB hb; have NB259_260 := nL BK259 hg; have NB260_259 := nR BK259 hg; replace BK259 := kB BK259 hb; clear hb hbox hg) | ((with_reducible refine gate_dst (N := 17) rfl ?_); refine Kd.S_lit (Kd.slice 3 (Kd.int .i64)) _ 37 ?hg (N := 17) ?hd (xs := ([] : List (List Int))) (inner := []) (ok := fun _ => True) (okp := fun _ => True) ?hr ?hp (fun _ hk => hk) trivial (Below.refl _ _) (Nat.le_refl _) (by simp) ?_; (case hd => rfl); (case hg => rfl); (case hr => first | (go_simp; done) | (go_simp; rfl)); (case hp => exact (Reps.none _ _)); intro v262 w7 ho8 hb hg_ hnew_; clear hg_ hnew_; (first | rw [← Ny261.out] at ho8 | (simp only [Int.reduceToNat] at ho8; rw [← Ny261.out] at ho8)); have HO263 := Aside0.mk (Kd.S_lower ho8 (below_size (zB HB))); replace BK259 := kB BK259 hb; replace BK260 := kB BK260 hb; replace HB := bS HB hb; clear hb ho8) | ((with_reducible refine gate_dst (N := 18) rfl ?_); refine Kd.R_lit Kd.bool _ 4 ?hg (N := 18) ?hd (xs := ([true, false] : List Bool)) (inner := [.bool true, .bool false]) (ok := fun _ => True) (okp := fun _ => True) ?hr ?hp (fun _ hk => hk) trivial (Below.refl _ _) (Nat.le_refl _) (by simp) ?_; (case hd => rfl); (case hg => rfl); (case hr => first | (go_simp; done) | (go_simp; rfl)); (case hp => exact (Reps.one (show Kd.M Kd.bool _ _ _ true [.bool true] from rfl) (Reps.one (show Kd.M Kd.bool _ _ _ false [.bool false] from rfl) (Reps.none _ _)))); intro v265 w9 ho10 hb hg_ hnew_; clear hg_ hnew_; (first | rw [← Ny264.out] at ho10 | (simp only [Int.reduceToNat] at ho10; rw [← Ny264.out] at ho10)); replace HO263 := Aside0.mk (Kd.S_below (zS HO263) hb); have HO266 := Aside0.mk (Kd.R_lower ho10 (below_size (zB HB))); replace BK259 := kB BK259 hb; replace BK260 := kB BK260 hb; replace HB := bS HB hb; clear hb ho10; obtain ⟨Ao11, co11, eo11⟩ := Kd.R_slice HO266.out; subst eo11))
 go_loopg [9, 20] k (fun kq v9 v20 w' => ∃ (x9_1 : List (List Int)) (x20_1 : Int), v20 = .int .i64 x20_1 ∧ Aside0 (impl_NextPairs.l0 kq a2 a3 x9_1 y264 (y264.length : Int) x20_1 a0_0 l0_1 l0_2 a1_0 l1_1 l1_2 = some r) ∧ Aside0 (kq ≤ k) ∧ Aside0 (Kd.S (Kd.slice 3 (Kd.int .i64)) 37 w' w.heap.size (fun _ => True) v9 x9_1) ∧ Aside0 (Kd.R Kd.bool 4 w' w.heap.size (fun _ => True) (.slice Ao11 y264.length co11) y264) ∧ Aside0 (w'.heap[gb259]? = some (.cells #[.int .i64 a0_0, (.slice A0_1 l0_1.length c0_1), (.slice A0_2 l0_2.length c0_2)] 29 (0, 0))) ∧ Aside0 (w'.heap[gb260]? = some (.cells #[.int .i64 a1_0, (.slice A1_1 l1_1.length c1_1), (.slice A1_2 l1_2.length c1_2)] 29 (0, 0))) ∧ Aside0 (Below w.heap.size w w'))
 case atStart => exact ⟨(y261), (0), zF, H', ⟨Nat.le_refl _⟩, ⟨zS HO263⟩, ⟨zR HO266⟩, ⟨zK BK259⟩, ⟨zK BK260⟩, ⟨zB HB⟩⟩
 case round =>
  clear H'
  try clear c1
  try clear c2
  try clear p2
  obtain ⟨x9_1, x20_1, rfl, HA, HK1, HO_9, HO_18, BK259, BK260, HB⟩ := hrel
  cases gk with
  | zero => exact absurd HA.out (by simp [impl_NextPairs.l0])
  | succ k1 =>
   have H := HA.out
   clear HA
   simp only [impl_NextPairs.l0] at H
   by_cases c12 : x20_1 < (y264.length : Int)
   ·rw [if_pos c12] at H
    have c12b0 : decide (x20_1 < (y264.length : Int)) = true := decide_eq_true c12
    clear c12
    obtain ⟨c13, H⟩ := ifS H
    have c13b0 : decide (0 ≤ x20_1) = true := decide_eq_true c13
    clear c13
    obtain ⟨c14, H⟩ := ifS H
    have c14b0 : decide (x20_1 < (y264.length : Int)) = true := decide_eq_true c14
    clear c14
    obtain ⟨t268, A15, H⟩ := bindS H
    have HC16 := Aside0.mk H
    clear H
    have p267 : 0 ≤ (x20_1 : Int) := zD
    have q267 : x20_1 < (y264.length : Int) := zD
    obtain ⟨ad267, e267, hx267_0⟩ := Kd.at_bool (Kd.R_reads' HO_18.out).2.2 x20_1 p267 q267
    cases e267
    replace p267 := eq_true p267
    replace q267 := eq_true q267
    have hnb17 := NB259_260.out
    have hnc17 := NB260_259.out
    have hcz18_0 := bc0 BK259
    have hcz18_1 := bc1 BK259
    have hcz18_2 := bc2 BK259
    have hfz18_0 := bf BK259 0
    have hfz18_1 := bf BK259 1
    have hfz18_2 := bf BK259 2
    go_upto_if 28 with (first | ((with_reducible refine gate_callee (f := 19) rfl ?_); refine goesL_ (some 26) rfl rfl Try.func19 (by kernel_rfl) rfl #[.agg #[.int .i64 a0_0, .slice A0_1 l0_1.length c0_1, .slice A0_2 l0_2.length c0_2], .int .i64 a2, .bool true] rfl zG ?_; (with_reducible refine (impl_MovesFrom.calls k1 a0_0 _ _ l0_1 _ _ l0_2 a2 true t268 _ ?side1 ?side2 ?side3 ?side4 A15.out).mono ?_); (case side1 => exact cS HR0_1 HB); (case side2 => exact HC0_1.out); (case side3 => exact cS HR0_2 HB); (case side4 => exact HC0_2.out); rintro e w19 ⟨v269, rfl, ho0, hb⟩; refine ⟨_, rfl, ?_⟩; replace HO_9 := Aside0.mk (Kd.S_elder' (zS HO_9) (Kd.R_base ho0) hb); replace HO_18 := Aside0.mk (Kd.R_below (zR HO_18) hb); have HO270 := Aside0.mk (Kd.R_lower ho0 (below_size (zB HB))); replace BK259 := kB BK259 hb; replace BK260 := kB BK260 hb; replace HB := bS HB hb; (try clear hb); (try clear ho0)))
    (try simp only [Act.put, List.setIfInBounds_toArray, List.set_cons_zero, List.set_cons_succ])
    obtain ⟨bq20, hbq20⟩ : ∃ b_ : Bool, b_ = (rdOf false y264 x20_1) := ⟨_, rfl⟩
    (try rw [← hbq20])
    have Nbq20 := Aside0.mk hbq20
    clear hbq20
    go_cut [12] (fun v12 wc => ∃ (kq : Nat) (x12_15 : List Int), Aside0 (impl_NextPairs.j1 kq a2 a3 x9_1 bq20 x12_15 y264 (y264.length : Int) x20_1 a0_0 l0_1 l0_2 a1_0 l1_1 l1_2 = some r) ∧ Aside0 (kq ≤ k1) ∧ Aside0 (Kd.S (Kd.slice 3 (Kd.int .i64)) 37 wc w.heap.size (fun k_ => some k_ ≠ (v12 : Value).ownBlock) u9 x9_1) ∧ Aside0 (Kd.R (Kd.int .i64) 3 wc w.heap.size (fun _ => True) v12 x12_15) ∧ Aside0 (Kd.R Kd.bool 4 wc w.heap.size (fun _ => True) (.slice (some ad267) y264.length co11) y264) ∧ Aside0 (wc.heap[gb259]? = some (.cells #[.int .i64 a0_0, (.slice A0_1 l0_1.length c0_1), (.slice A0_2 l0_2.length c0_2)] 29 (0, 0))) ∧ Aside0 (wc.heap[gb260]? = some (.cells #[.int .i64 a1_0, (.slice A1_1 l1_1.length c1_1), (.slice A1_2 l1_2.length c1_2)] 29 (0, 0))) ∧ Aside0 (Below w.heap.size w wc))
    case first =>
     have H := HC16.out
     clear HC16
     replace H : (if bq20 = true then (impl_NextPairs.j1 k1 a2 a3 x9_1 bq20 t268 y264 (y264.length : Int) x20_1 a0_0 l0_1 l0_2 a1_0 l1_1 l1_2) else ((impl_MovesFrom.f k1 a1_0 l1_1 l1_2 a3 true).bind fun t271 => (impl_NextPairs.j1 k1 a2 a3 x9_1 bq20 t271 y264 (y264.length : Int) x20_1 a0_0 l0_1 l0_2 a1_0 l1_1 l1_2))) = some r := by rw [← Nbq20.out] at H; exact H
     by_cases c21 : bq20 = true
     ·subst c21
      rename_i hm1_ hm2_
      have hm3_ := hm1_
      clear hm1_
      have H1 : (impl_NextPairs.j1 k1 a2 a3 x9_1 true t268 y264 (y264.length : Int) x20_1 a0_0 l0_1 l0_2 a1_0 l1_1 l1_2) = some r := by rw [if_pos rfl] at H; exact H
      clear H
      have H := H1
      clear H1
      have H' := Aside0.mk H
      clear H
      go_wp2
      go_meet
      case rel => exact ⟨_, (t268), H', ⟨by have := HK1.out; first | omega | exact Nat.le_refl _⟩, ⟨by (with_reducible repeat (first | apply Kd.S_alloc | apply Kd.S_drewN | apply Kd.S_drew)); exact Kd.S_mono HO_9.out (fun _ hk => hk.2)⟩, ⟨zR HO270⟩, ⟨zR HO_18⟩, ⟨zK BK259⟩, ⟨zK BK260⟩, ⟨zB HB⟩⟩
     ·replace c21 := Bool.eq_false_iff.mpr c21
      subst c21
      rename_i hm1_ hm2_
      have hm3_ := hm1_
      clear hm1_
      have H1 : ((impl_MovesFrom.f k1 a1_0 l1_1 l1_2 a3 true).bind fun t271 => (impl_NextPairs.j1 k1 a2 a3 x9_1 false t271 y264 (y264.length : Int) x20_1 a0_0 l0_1 l0_2 a1_0 l1_1 l1_2)) = some r := by rw [if_neg (show ¬ (false = true) by decide)] at H; exact H
      clear H
      have H := H1
      clear H1
      obtain ⟨t271, A22, H⟩ := bindS H
      have H' := Aside0.mk H
      clear H
      have hnb23 := NB260_259.out
      have hnc23 := NB259_260.out
      have hcz24_0 := bc0 BK260
      have hcz24_1 := bc1 BK260
      have hcz24_2 := bc2 BK260
      have hfz24_0 := bf BK260 0
      have hfz24_1 := bf BK260 1
      have hfz24_2 := bf BK260 2
      go_wp2_with (first | ((with_reducible refine gate_callee (f := 19) rfl ?_); refine goesL_ (some 31) rfl rfl Try.func19 (by kernel_rfl) rfl #[.agg #[.int .i64 a1_0, .slice A1_1 l1_1.length c1_1, .slice A1_2 l1_2.length c1_2], .int .i64 a3, .bool true] rfl zG ?_; (with_reducible refine (impl_MovesFrom.calls k1 a1_0 _ _ l1_1 _ _ l1_2 a3 true t271 _ ?side1 ?side2 ?side3 ?side4 A22.out).mono ?_); (case side1 => exact cS HR1_1 HB); (case side2 => exact HC1_1.out); (case side3 => exact cS HR1_2 HB); (case side4 => exact HC1_2.out); rintro e w25 ⟨v272, rfl, ho0, hb⟩; refine ⟨_, rfl, ?_⟩; replace HO_9 := Aside0.mk (Kd.S_elder' (zS HO_9) (Kd.R_base ho0) hb); replace HO_18 := Aside0.mk (Kd.R_below (zR HO_18) hb); have HO273 := Aside0.mk (Kd.R_lower (Kd.R_new' ho0 (Kd.R_lt (zR HO270))) (below_size (zB HB))); replace HO270 := Aside0.mk (Kd.R_elder' (zR HO270) (Kd.R_base ho0) hb); replace BK259 := kB BK259 hb; replace BK260 := kB BK260 hb; replace HB := bS HB hb; (try clear hb); (try clear ho0)))
      go_meet
      case rel => exact ⟨_, (t271), H', ⟨by have := HK1.out; first | omega | exact Nat.le_refl _⟩, ⟨by (with_reducible repeat (first | apply Kd.S_alloc | apply Kd.S_drewN | apply Kd.S_drew)); exact Kd.S_mono HO_9.out (fun _ hk => hk.2)⟩, ⟨by (with_reducible repeat (first | apply Kd.R_alloc | apply Kd.R_drewN | apply Kd.R_drew)); exact Kd.R_mono HO273.out (fun _ hk => trivial)⟩, ⟨zR HO_18⟩, ⟨zK BK259⟩, ⟨zK BK260⟩, ⟨zB HB⟩⟩
    case rest =>
     have Nbq20_ := Nbq20.out
     clear Nbq20
     subst Nbq20_
     clear HC16
     try clear c1
     try clear c2
     try clear p2
     try clear q2
     try clear hx2
     try clear c12
     try clear c12b0
     try clear c13
     try clear c13b0
     try clear c14
     try clear c14b0
     try clear c17
     try clear c19
     try clear q20
     try clear c21
     try clear c22
     try clear c23
     try clear hcz18_0
     try clear hcz18_1
     try clear hcz18_2
     try clear hcz24_0
     try clear hcz24_1
     try clear hcz24_2
     try clear hfz18_0
     try clear hfz18_1
     try clear hfz18_2
     try clear hfz24_0
     try clear hfz24_1
     try clear hfz24_2
     try clear hx267_0
     try clear p2
     try clear p267
     try clear q267
     obtain ⟨kq, x12_15, HA, HJ15, HO_9, HO_12, HO_18, BK259, BK260, HB⟩ := hcut
     cases kq with
     | zero => exact absurd HA.out (by simp [impl_NextPairs.j1])
     | succ kj15 =>
      have H := HA.out
      clear HA
      simp only [impl_NextPairs.j1] at H
      have H' := Aside0.mk H
      clear H
      obtain ⟨Ao26, co26, eo26⟩ := Kd.R_slice HO_12.out
      subst eo26
      go_wp2
      go_loopg [9, 34] kj15 (fun kq v9 v34 w' => ∃ (x9_3 : List (List Int)) (x34_3 : Int), v34 = .int .i64 x34_3 ∧ Aside0 (impl_NextPairs.l1 kq a2 a3 x9_3 (rdOf false y264 x20_1) y264 (y264.length : Int) x20_1 x12_15 (x12_15.length : Int) x34_3 a0_0 l0_1 l0_2 a1_0 l1_1 l1_2 = some r) ∧ Aside0 (kq ≤ kj15) ∧ Aside0 (Kd.S (Kd.slice 3 (Kd.int .i64)) 37 w' w.heap.size (fun k_ => some k_ ≠ ((.slice Ao26 x12_15.length co26) : Value).ownBlock) v9 x9_3) ∧ Aside0 (Kd.R Kd.bool 4 w' w.heap.size (fun _ => True) (.slice (some ad267) y264.length co11) y264) ∧ Aside0 (Kd.R (Kd.int .i64) 3 w' w.heap.size (fun _ => True) (.slice Ao26 x12_15.length co26) x12_15) ∧ Aside0 (w'.heap[gb259]? = some (.cells #[.int .i64 a0_0, (.slice A0_1 l0_1.length c0_1), (.slice A0_2 l0_2.length c0_2)] 29 (0, 0))) ∧ Aside0 (w'.heap[gb260]? = some (.cells #[.int .i64 a1_0, (.slice A1_1 l1_1.length c1_1), (.slice A1_2 l1_2.length c1_2)] 29 (0, 0))) ∧ Aside0 (Below w.heap.size w w'))
      case atStart => exact ⟨(x9_1), (0), zF, H', ⟨Nat.le_refl _⟩, ⟨zS HO_9⟩, ⟨zR HO_18⟩, ⟨zR HO_12⟩, ⟨zK BK259⟩, ⟨zK BK260⟩, ⟨zB HB⟩⟩
      case round =>
       clear H'
       try clear c1
       try clear c2
       try clear p2
       try clear q2
       try clear hx2
       try clear c12
       try clear c12b0
       try clear c13
       try clear c13b0
       try clear c14
       try clear c14b0
       try clear c17
       try clear c19
       try clear q20
       try clear c21
       try clear c22
       try clear c23
       try clear p26
       try clear q26
       try clear hx26
       try clear hcz18_0
       try clear hcz18_1
       try clear hcz18_2
       try clear hcz24_0
       try clear hcz24_1
       try clear hcz24_2
       try clear hfz18_0
       try clear hfz18_1
       try clear hfz18_2
       try clear hfz24_0
       try clear hfz24_1
       try clear hfz24_2
       try clear hx267_0
       try clear p2
       try clear p267
       try clear q2
       try clear q20
       try clear q267
       obtain ⟨x9_3, x34_3, rfl, HA, HK3, HO_9, HO_18, HO_32, BK259, BK260, HB⟩ := hrel
       cases gk with
       | zero => exact absurd HA.out (by simp [impl_NextPairs.l1])
       | succ k3 =>
        have H := HA.out
        clear HA
        simp only [impl_NextPairs.l1] at H
        by_cases c27 : x34_3 < (x12_15.length : Int)
        ·rw [if_pos c27] at H
         have c27b0 : decide (x34_3 < (x12_15.length : Int)) = true := decide_eq_true c27
         clear c27
         obtain ⟨c28, H⟩ := ifS H
         have c28b0 : decide (0 ≤ x34_3) = true := decide_eq_true c28
         clear c28
         obtain ⟨c29, H⟩ := ifS H
         have c29b0 : decide (x34_3 < (x12_15.length : Int)) = true := decide_eq_true c29
         clear c29
         obtain ⟨t275, A30, H⟩ := bindS H
         obtain ⟨t276, A31, H⟩ := bindS H
         by_cases c32 : t275 ≥ 0
         ·rw [if_pos c32] at H
          have c32b0 : decide (0 ≤ t275) = true := decide_eq_true c32
          clear c32
          by_cases c33 : t276 ≥ 0
          ·rw [if_pos c33] at H
           have c33b0 : decide (0 ≤ t276) = true := decide_eq_true c33
           clear c33
           obtain ⟨c34, H⟩ := ifS H
           have c34b0 : decide (0 ≤ t275) = true := decide_eq_true c34
           clear c34
           obtain ⟨c35, H⟩ := ifS H
           have c35b0 : decide (t275 < (l0_2.length : Int)) = true := decide_eq_true c35
           clear c35
           obtain ⟨c36, H⟩ := ifS H
           have c36b0 : decide (0 ≤ t276) = true := decide_eq_true c36
           clear c36
           obtain ⟨c37, H⟩ := ifS H
           have c37b0 : decide (t276 < (l1_2.length : Int)) = true := decide_eq_true c37
           clear c37
           obtain ⟨y279, hy279⟩ : ∃ y_ : List Int, y_ = (([(rd_T54 l0_2 t275).f3, (rd_T54 l1_2 t276).f3] : List Int)) := ⟨_, rfl⟩
           replace H : (if x9_3.length < 5864062014805 then (impl_NextPairs.l1 k3 a2 a3 (x9_3 ++ [y279]) (rdOf false y264 x20_1) y264 (y264.length : Int) x20_1 x12_15 (x12_15.length : Int) (wrap64 (x34_3 + 1)) a0_0 l0_1 l0_2 a1_0 l1_1 l1_2) else (none)) = some r := by first | (rw [hy279]; with_reducible exact H) | (have H2_ := (Option.bind_some _ _).symm.trans H; rw [hy279]; with_reducible exact H2_) | (have H2_ := (Option.bind_some _ _).symm.trans H; with_reducible exact H2_) | with_reducible exact H | (rw [hy279]; exact H) | exact H
           have Ny279 := Aside0.mk hy279
           clear hy279
           obtain ⟨c38, H⟩ := ifS H
           have LMc38 := Aside0.mk c38
           clear c38
           obtain ⟨y282, hy282⟩ : ∃ y_ : List (List Int), y_ = (x9_3 ++ [y279]) := ⟨_, rfl⟩
           replace H : (impl_NextPairs.l1 k3 a2 a3 y282 (rdOf false y264 x20_1) y264 (y264.length : Int) x20_1 x12_15 (x12_15.length : Int) (wrap64 (x34_3 + 1)) a0_0 l0_1 l0_2 a1_0 l1_1 l1_2) = some r := by first | (rw [hy282]; with_reducible exact H) | (have H2_ := (Option.bind_some _ _).symm.trans H; rw [hy282]; with_reducible exact H2_) | (have H2_ := (Option.bind_some _ _).symm.trans H; with_reducible exact H2_) | with_reducible exact H | (rw [hy282]; exact H) | exact H
           have Ny282 := Aside0.mk hy282
           clear hy282
           have H' := Aside0.mk H
           clear H
           have p274 : 0 ≤ (x34_3 : Int) := zD
           have q274 : x34_3 < (x12_15.length : Int) := zD
           obtain ⟨ad274, e274, hx274_0⟩ := Kd.at_int (Kd.R_reads' HO_32.out).2.2 x34_3 p274 q274
           cases e274
           replace p274 := eq_true p274
           replace q274 := eq_true q274
           try go_wp2
           replace HO_9 := Aside0.mk (Kd.S_drew HO_9.out)
           replace HO_18 := Aside0.mk (Kd.R_drew HO_18.out)
           replace HO_32 := Aside0.mk (Kd.R_drew HO_32.out)
           replace BK259 := Aside0.mk (blk_drew BK259.out)
           replace BK260 := Aside0.mk (blk_drew BK260.out)
           replace HB := Aside0.mk (below_drew1 HB.out)
           refine start_ (n := 13) (S := fun w' => w'.cell? ⟨gb259, 0, none⟩ = some (.int .i64 a0_0) ∧ w'.cell? ⟨gb259, 1, none⟩ = some (.slice A0_1 l0_1.length c0_1) ∧ w'.cell? ⟨gb259, 2, none⟩ = some (.slice A0_2 l0_2.length c0_2) ∧ w'.cell? ⟨gb260, 0, none⟩ = some (.int .i64 a1_0) ∧ w'.cell? ⟨gb260, 1, none⟩ = some (.slice A1_1 l1_1.length c1_1) ∧ w'.cell? ⟨gb260, 2, none⟩ = some (.slice A1_2 l1_2.length c1_2)) (ds := []) (bm 13 0) (by kernel_rfl) rfl (bm0 _) ⟨bc0 BK259, bc1 BK259, bc2 BK259, bc0 BK260, bc1 BK260, bc2 BK260⟩ (fun hHeld => ?_); refine with_tabW impl_NextPairs.tab11 impl_NextPairs.bits11 (fun HT_ HW_ => ?_)
           generalize wr.drew = w39 at HO_9 HO_18 HO_32 BK259 BK260 HB hHeld ⊢
           refine pU 1 (some 39) (bm 13 2) HT_ rfl rfl ?_
           refine pU 2 (some 40) (bm 13 6) HT_ rfl rfl ?_
           refine pU 3 (some 41) (bm 13 14) HT_ rfl rfl ?_
           refine pU 6 (some 44) (bm 13 78) HT_ rfl rfl ?_
           refine pU 7 (some 45) (bm 13 206) HT_ rfl rfl ?_
           refine pU 8 (some 46) (bm 13 462) HT_ rfl rfl ?_
           refine pU 9 (some 47) (bm 13 974) HT_ rfl rfl ?_
           refine tU 0 (some 38) (bm 13 975) HT_ HW_ rfl rfl hHeld ?_
           refine tU 5 (some 43) (bm 13 1007) HT_ HW_ rfl rfl hHeld ?_
           refine one_ (i := 4) (N := some 42) (bm 13 1023) rfl rfl (one_of HT_.out (by kernel_rfl)) (by decide) (fun K hK => ?_)
           refine goes_ Try.func20 (by kernel_rfl) rfl #[.agg #[.int .i64 a0_0, .slice A0_1 l0_1.length c0_1, .slice A0_2 l0_2.length c0_2], .int .i64 a2, .bool (rdOf false y264 x20_1), .int .i64 (rd x12_15 x34_3)] (by rfl) rfl rfl zG ?_
           with_reducible refine (impl_MoveOf.calls a0_0 _ _ l0_1 _ _ l0_2 a2 (rdOf false y264 x20_1) (rd x12_15 x34_3) t275 _ ?side1 ?side2 ?side3 ?side4 A30.out).mono ?_
           (case side1 => exact cS HR0_1 HB)
           (case side2 => exact HC0_1.out)
           (case side3 => exact cS HR0_2 HB)
           (case side4 => exact HC0_2.out)
           rintro e w40 ⟨rfl, hb⟩
           refine ⟨_, rfl, ?_⟩
           replace HO_9 := Aside0.mk (Kd.S_below (zS HO_9) hb)
           replace HO_18 := Aside0.mk (Kd.R_below (zR HO_18) hb)
           replace HO_32 := Aside0.mk (Kd.R_below (zR HO_32) hb)
           replace BK259 := kB BK259 hb
           replace BK260 := kB BK260 hb
           replace HB := bS HB hb
           (try clear hb)
           (try clear hb2)
           (try clear hk)
           (try clear hi)
           refine hK.out _ _ ⟨bc0 BK259, bc1 BK259, bc2 BK259, bc0 BK260, bc1 BK260, bc2 BK260⟩ (fun hHeld => ?_)
           clear hK K
           refine norm_ (a' := ?_) ?_ ?_
           rotate_left
           ·show Act.put _ (some 42) _ = _
            simp only [Act.put, List.setIfInBounds_toArray, List.set_cons_zero, List.set_cons_succ, i64_w, i32_w]
            rfl
           refine one_ (i := 10) (N := some 48) (bm 13 2047) rfl rfl (one_of HT_.out (by kernel_rfl)) (by decide) (fun K hK => ?_)
           refine goes_ Try.func20 (by kernel_rfl) rfl #[.agg #[.int .i64 a1_0, .slice A1_1 l1_1.length c1_1, .slice A1_2 l1_2.length c1_2], .int .i64 a3, .bool (!(rdOf false y264 x20_1)), .int .i64 (rd x12_15 x34_3)] (by rfl) rfl rfl zG ?_
           with_reducible refine (impl_MoveOf.calls a1_0 _ _ l1_1 _ _ l1_2 a3 (!(rdOf false y264 x20_1)) (rd x12_15 x34_3) t276 _ ?side1 ?side2 ?side3 ?side4 A31.out).mono ?_
           (case side1 => exact cS HR1_1 HB)
           (case side2 => exact HC1_1.out)
           (case side3 => exact cS HR1_2 HB)
           (case side4 => exact HC1_2.out)
           rintro e w41 ⟨rfl, hb⟩
           refine ⟨_, rfl, ?_⟩
           replace HO_9 := Aside0.mk (Kd.S_below (zS HO_9) hb)
           replace HO_18 := Aside0.mk (Kd.R_below (zR HO_18) hb)
           replace HO_32 := Aside0.mk (Kd.R_below (zR HO_32) hb)
           replace BK259 := kB BK259 hb
           replace BK260 := kB BK260 hb
           replace HB := bS HB hb
           (try clear hb)
           (try clear hb2)
           (try clear hk)
           (try clear hi)
           refine hK.out _ _ ⟨bc0 BK259, bc1 BK259, bc2 BK259, bc0 BK260, bc1 BK260, bc2 BK260⟩ (fun hHeld => ?_)
           clear hK K
           refine norm_ (a' := ?_) ?_ ?_
           rotate_left
           ·show Act.put _ (some 48) _ = _
            simp only [Act.put, List.setIfInBounds_toArray, List.set_cons_zero, List.set_cons_succ, i64_w, i32_w]
            rfl
           refine pU 11 (some 15) (bm 13 4095) HT_ rfl rfl ?_
           refine pU 12 (some 16) (bm 13 8191) HT_ rfl rfl ?_
           refine done_ (done_of HT_.out (by kernel_rfl)) ?_
           try clear hHeld
           try go_wp2
           replace HO_9 := Aside0.mk (Kd.S_drew HO_9.out)
           replace HO_18 := Aside0.mk (Kd.R_drew HO_18.out)
           replace HO_32 := Aside0.mk (Kd.R_drew HO_32.out)
           replace BK259 := Aside0.mk (blk_drew BK259.out)
           replace BK260 := Aside0.mk (blk_drew BK260.out)
           replace HB := Aside0.mk (below_drew1 HB.out)
           have p277 : 0 ≤ (t275 : Int) := zD
           have q277 : t275 < (l0_2.length : Int) := zD
           obtain ⟨ad277, e277, hx277_0, hx277_1, hx277_2, hx277_3⟩ := at_T54 HR0_2.out t275 p277 q277
           have hw277_3 := hx277_3
           have hw277_2 := hx277_2
           have hw277_1 := hx277_1
           have hw277_0 := hx277_0
           cases e277
           replace hx277_0 := hL HB hx277_0
           replace hx277_1 := hL HB hx277_1
           replace hx277_2 := hL HB hx277_2
           replace hx277_3 := hL HB hx277_3
           replace p277 := eq_true p277
           replace q277 := eq_true q277
           have p278 : 0 ≤ (t276 : Int) := zD
           have q278 : t276 < (l1_2.length : Int) := zD
           obtain ⟨ad278, e278, hx278_0, hx278_1, hx278_2, hx278_3⟩ := at_T54 HR1_2.out t276 p278 q278
           have hw278_3 := hx278_3
           have hw278_2 := hx278_2
           have hw278_1 := hx278_1
           have hw278_0 := hx278_0
           cases e278
           replace hx278_0 := hL HB hx278_0
           replace hx278_1 := hL HB hx278_1
           replace hx278_2 := hL HB hx278_2
           replace hx278_3 := hL HB hx278_3
           replace p278 := eq_true p278
           replace q278 := eq_true q278
           refine start_ (n := 17) (S := fun w' => w'.cell? ⟨gb259, 0, none⟩ = some (.int .i64 a0_0) ∧ w'.cell? ⟨gb259, 1, none⟩ = some (.slice A0_1 l0_1.length c0_1) ∧ w'.cell? ⟨gb259, 2, none⟩ = some (.slice (some ad277) l0_2.length c0_2) ∧ w'.cell? ⟨gb260, 0, none⟩ = some (.int .i64 a1_0) ∧ w'.cell? ⟨gb260, 1, none⟩ = some (.slice A1_1 l1_1.length c1_1) ∧ w'.cell? ⟨gb260, 2, none⟩ = some (.slice (some ad278) l1_2.length c1_2) ∧ w'.cell? (ad277.add ((t275).toNat * 4)) = some (.int .i64 ((rd_T54 l0_2 t275).f0)) ∧ w'.cell? ⟨(ad277.add ((t275).toNat * 4)).block, (ad277.add ((t275).toNat * 4)).off + 1, none⟩ = some (.bool ((rd_T54 l0_2 t275).f1)) ∧ w'.cell? ⟨(ad277.add ((t275).toNat * 4)).block, (ad277.add ((t275).toNat * 4)).off + 2, none⟩ = some (.int .i64 ((rd_T54 l0_2 t275).f2)) ∧ w'.cell? ⟨(ad277.add ((t275).toNat * 4)).block, (ad277.add ((t275).toNat * 4)).off + 3, none⟩ = some (.int .i64 ((rd_T54 l0_2 t275).f3)) ∧ w'.cell? (ad278.add ((t276).toNat * 4)) = some (.int .i64 ((rd_T54 l1_2 t276).f0)) ∧ w'.cell? ⟨(ad278.add ((t276).toNat * 4)).block, (ad278.add ((t276).toNat * 4)).off + 1, none⟩ = some (.bool ((rd_T54 l1_2 t276).f1)) ∧ w'.cell? ⟨(ad278.add ((t276).toNat * 4)).block, (ad278.add ((t276).toNat * 4)).off + 2, none⟩ = some (.int .i64 ((rd_T54 l1_2 t276).f2)) ∧ w'.cell? ⟨(ad278.add ((t276).toNat * 4)).block, (ad278.add ((t276).toNat * 4)).off + 3, none⟩ = some (.int .i64 ((rd_T54 l1_2 t276).f3))) (ds := []) (bm 17 0) (by kernel_rfl) rfl (bm0 _) ⟨bc0 BK259, bc1 BK259, bc2 BK259, bc0 BK260, bc1 BK260, bc2 BK260, (hL HB hw277_0), (hL HB hw277_1), (hL HB hw277_2), (hL HB hw277_3), (hL HB hw278_0), (hL HB hw278_1), (hL HB hw278_2), (hL HB hw278_3)⟩ (fun hHeld => ?_); refine with_tabW impl_NextPairs.tab13 impl_NextPairs.bits13 (fun HT_ HW_ => ?_)
           generalize w41.drew = w42 at HO_9 HO_18 HO_32 BK259 BK260 HB hx277_0 hx277_1 hx277_2 hx277_3 hx278_0 hx278_1 hx278_2 hx278_3 hHeld ⊢
           refine pU 0 (some 55) (bm 17 1) HT_ rfl rfl ?_
           refine pU 1 (some 56) (bm 17 3) HT_ rfl rfl ?_
           refine pU 3 (some 58) (bm 17 11) HT_ rfl rfl ?_
           refine pU 7 (some 62) (bm 17 139) HT_ rfl rfl ?_
           refine pU 9 (some 64) (bm 17 651) HT_ rfl rfl ?_
           refine tU 2 (some 57) (bm 17 655) HT_ HW_ rfl rfl hHeld ?_
           refine pU 4 (some 59) (bm 17 671) HT_ rfl rfl ?_
           refine pU 5 (some 60) (bm 17 703) HT_ rfl rfl ?_
           refine tU 6 (some 61) (bm 17 767) HT_ HW_ rfl rfl hHeld ?_
           refine tU 8 (some 63) (bm 17 1023) HT_ HW_ rfl rfl hHeld ?_
           refine pU 10 (some 65) (bm 17 2047) HT_ rfl rfl ?_
           refine pU 11 (some 66) (bm 17 4095) HT_ rfl rfl ?_
           refine tU 12 (some 67) (bm 17 8191) HT_ HW_ rfl rfl hHeld ?_
           refine one_ (i := 13) (N := some 68) (bm 17 16383) rfl rfl (one_of HT_.out (by kernel_rfl)) (by decide) (fun K hK => ?_)
           refine Kd.R_lit_step (Kd.int .i64) _ 3 ?hg (N := 68) ?hd (xs := ([(rd_T54 l0_2 t275).f3, (rd_T54 l1_2 t276).f3] : List Int)) (inner := [.int .i64 ((rd_T54 l0_2 t275).f3), .int .i64 ((rd_T54 l1_2 t276).f3)]) (ok := fun _ => True) (okp := fun _ => True) ?hr ?hp (fun _ hk => hk) trivial (Below.refl _ _) (Nat.le_refl _) (by simp) ?_; (case hd => rfl); (case hg => rfl); (case hr => first | (go_simp; done) | (go_simp; rfl)); (case hp => exact (Reps.one (show Kd.M (Kd.int .i64) _ _ _ ((rd_T54 l0_2 t275).f3) [.int .i64 ((rd_T54 l0_2 t275).f3)] from rfl) (Reps.one (show Kd.M (Kd.int .i64) _ _ _ ((rd_T54 l1_2 t276).f3) [.int .i64 ((rd_T54 l1_2 t276).f3)] from rfl) (Reps.none _ _))))
           intro v280 w43 ho44 hb hg_ hnew_
           clear hg_ hnew_
           (first | rw [← Ny279.out] at ho44 | (simp only [Int.reduceToNat] at ho44; rw [← Ny279.out] at ho44))
           replace HO_9 := Aside0.mk (Kd.S_elder' (zS HO_9) (Kd.R_base ho44) hb)
           replace HO_18 := Aside0.mk (Kd.R_below (zR HO_18) hb)
           have HO281 := Aside0.mk (Kd.R_lower (Kd.R_new' ho44 (Kd.R_lt (zR HO_32))) (below_size (zB HB)))
           replace HO_32 := Aside0.mk (Kd.R_elder' (zR HO_32) (Kd.R_base ho44) hb)
           replace BK259 := kB BK259 hb
           replace BK260 := kB BK260 hb
           replace HB := bS HB hb
           clear hb ho44
           obtain ⟨Ao46, co46, eo46⟩ := Kd.R_slice HO281.out
           (first | subst eo46 | (injection eo46 with f1_ f2_ f3_; have f4_ := f1_.symm; have f5_ := f3_.symm; clear f1_ f2_ f3_; subst f4_; subst f5_))
           refine hK.out _ _ ⟨bc0 BK259, bc1 BK259, bc2 BK259, bc0 BK260, bc1 BK260, bc2 BK260, (hL HB hw277_0), (hL HB hw277_1), (hL HB hw277_2), (hL HB hw277_3), (hL HB hw278_0), (hL HB hw278_1), (hL HB hw278_2), (hL HB hw278_3)⟩ (fun hHeld => ?_)
           clear hK K
           refine norm_ (a' := ?_) ?_ ?_
           rotate_left
           ·show Act.put _ (some 68) _ = _
            simp only [Act.put, List.setIfInBounds_toArray, List.set_cons_zero, List.set_cons_succ, i64_w, i32_w]
            rfl
           refine one_ (i := 14) (N := some 69) (bm 17 32767) rfl rfl (one_of HT_.out (by kernel_rfl)) (by decide) (fun K hK => ?_)
           refine value_ (w1 := ?_) (v := ?_) (by rfl) rfl ?_ ?_
           rotate_left 2
           ·go_simp
            constructor
            ·rfl
            ·rfl
           refine hK.out _ _ ⟨(blk_cell (blk_alloc BK259.out _) 0).trans rfl, (blk_cell (blk_alloc BK259.out _) 1).trans rfl, (blk_cell (blk_alloc BK259.out _) 2).trans rfl, (blk_cell (blk_alloc BK260.out _) 0).trans rfl, (blk_cell (blk_alloc BK260.out _) 1).trans rfl, (blk_cell (blk_alloc BK260.out _) 2).trans rfl, (World.cell?_alloc_lt _ _ _ (World.block_lt_of_cell? _ _ ((hL HB hw277_0)))).trans ((hL HB hw277_0)), (World.cell?_alloc_lt _ _ _ (World.block_lt_of_cell? _ _ ((hL HB hw277_1)))).trans ((hL HB hw277_1)), (World.cell?_alloc_lt _ _ _ (World.block_lt_of_cell? _ _ ((hL HB hw277_2)))).trans ((hL HB hw277_2)), (World.cell?_alloc_lt _ _ _ (World.block_lt_of_cell? _ _ ((hL HB hw277_3)))).trans ((hL HB hw277_3)), (World.cell?_alloc_lt _ _ _ (World.block_lt_of_cell? _ _ ((hL HB hw278_0)))).trans ((hL HB hw278_0)), (World.cell?_alloc_lt _ _ _ (World.block_lt_of_cell? _ _ ((hL HB hw278_1)))).trans ((hL HB hw278_1)), (World.cell?_alloc_lt _ _ _ (World.block_lt_of_cell? _ _ ((hL HB hw278_2)))).trans ((hL HB hw278_2)), (World.cell?_alloc_lt _ _ _ (World.block_lt_of_cell? _ _ ((hL HB hw278_3)))).trans ((hL HB hw278_3))⟩ (fun hHeld => ?_)
           clear hK K
           refine norm_ (a' := ?_) ?_ ?_
           rotate_left
           ·show Act.put _ (some 69) _ = _
            simp only [Act.put, List.setIfInBounds_toArray, List.set_cons_zero, List.set_cons_succ, i64_w, i32_w]
            rfl
           refine one_ (i := 15) (N := some 70) (bm 17 65535) rfl rfl (one_of HT_.out (by kernel_rfl)) (by decide) (fun K hK => ?_)
           refine Kd.S_append_step (Kd.slice 3 (Kd.int .i64)) (w0 := w) w.heap.size (by rfl) (.tmp 55) (.tmp 69) 46 37 (.slice none 0 0) 24 rfl Try.underlying46 info37 rfl (by decide) (by omega) u9 x9_3 y279 [.slice Ao46 y279.length co46] (fun k_ => some k_ ≠ (.slice (some ad274) x12_15.length co26 : Value).ownBlock) (fun k_ => some k_ = (.slice Ao46 y279.length co46 : Value).ownBlock) rfl rfl ?aP (fun k_ hk_ => ((Kd.R_mono (ok' := fun k_ => ((fun k_ => some k_ ≠ (.slice (some ad274) x12_15.length co26 : Value).ownBlock)) k_ ∧ some k_ ≠ (u9 : Value).ownBlock) (Kd.R_apart' (HO281.out) (Kd.S_typed HO_9.out) (by decide)) (fun k_ hk => ⟨hk.1.2, hk.2⟩))).1 k_ hk_.symm) ?aF ?aO ?aB ?aS ?aL ?_
           (case aP => exact Kd.M_row (Kd.R_mono (Kd.R_tight rfl (Kd.R_mono (ok' := fun k_ => ((fun k_ => some k_ ≠ (.slice (some ad274) x12_15.length co26 : Value).ownBlock)) k_ ∧ some k_ ≠ (u9 : Value).ownBlock) (Kd.R_apart' (HO281.out) (Kd.S_typed HO_9.out) (by decide)) (fun k_ hk => ⟨hk.1.2, hk.2⟩))) (fun _ h_ => h_)))
           (case aB => exact (zB HB))
           (case aF => exact (fun k_ hk => Kd.fresh' (Kd.R_lt (zR HO_32)) k_ hk))
           (case aO => exact (by (with_reducible repeat (first | apply Kd.S_alloc | apply Kd.S_drewN | apply Kd.S_drew)); exact Kd.S_mono HO_9.out (fun k_ hk => ⟨hk.1, fun e_ => hk.2 e_⟩)))
           (case aS => exact (below_size (zB HB)))
           (case aL => have := LMc38.out; omega)
           intro v283 w45 ho hb hg hat
           rw [← Ny282.out] at ho
           replace HO_18 := Aside0.mk (Kd.R_over' (zR HO_18) (Kd.S_typed (zS HO_9)) (by decide) hg)
           replace HO_32 := Aside0.mk (Kd.R_over' (zR HO_32) (Kd.S_typed (zS HO_9)) (by decide) hg)
           replace BK259 := Aside0.mk (blk_grown (g := gb259) (o := .cells #[.int .i64 a0_0, .slice A0_1 l0_1.length c0_1, .slice (some ad277) l0_2.length c0_2] 29 (0, 0)) (zK BK259) hg (Kd.S_ne HO_9.out BK259.out (by decide)))
           replace BK260 := Aside0.mk (blk_grown (g := gb260) (o := .cells #[.int .i64 a1_0, .slice A1_1 l1_1.length c1_1, .slice (some ad278) l1_2.length c1_2] 29 (0, 0)) (zK BK260) hg (Kd.S_ne HO_9.out BK260.out (by decide)))
           replace HB := Aside0.mk (hb)
           have HO284 := Aside0.mk (ho)
           clear HO_9 HO281
           clear ho hb hg hat
           refine hK.out _ _ ⟨bc0 BK259, bc1 BK259, bc2 BK259, bc0 BK260, bc1 BK260, bc2 BK260, (hL HB hw277_0), (hL HB hw277_1), (hL HB hw277_2), (hL HB hw277_3), (hL HB hw278_0), (hL HB hw278_1), (hL HB hw278_2), (hL HB hw278_3)⟩ (fun hHeld => ?_)
           clear hK K
           refine norm_ (a' := ?_) ?_ ?_
           rotate_left
           ·show Act.put _ (some 70) _ = _
            simp only [Act.put, List.setIfInBounds_toArray, List.set_cons_zero, List.set_cons_succ, i64_w, i32_w]
            rfl
           refine pU 16 (some 9) (bm 17 131071) HT_ rfl rfl ?_
           refine done_ (done_of HT_.out (by kernel_rfl)) ?_
           try clear hHeld
           try go_wp2
           go_roundg k3
           case measure => have := HK1.out; have := HJ15.out; have := HK3.out; omega
           case rel => exact ⟨(y282), (wrap64 (x34_3 + 1)), zF, H', ⟨by have := HK1.out; have := HJ15.out; have := HK3.out; omega⟩, ⟨zS HO284⟩, ⟨zR HO_18⟩, ⟨by (with_reducible repeat (first | apply Kd.R_alloc | apply Kd.R_drewN | apply Kd.R_drew)); exact Kd.R_mono HO_32.out (fun _ hk => trivial)⟩, ⟨zK BK259⟩, ⟨zK BK260⟩, ⟨zB HB⟩⟩
          ·rw [if_neg c33] at H
           have c33b0 : decide (0 ≤ t276) = false := decide_eq_false c33
           clear c33
           have H' := Aside0.mk H
           clear H
           have p274 : 0 ≤ (x34_3 : Int) := zD
           have q274 : x34_3 < (x12_15.length : Int) := zD
           obtain ⟨ad274, e274, hx274_0⟩ := Kd.at_int (Kd.R_reads' HO_32.out).2.2 x34_3 p274 q274
           cases e274
           replace p274 := eq_true p274
           replace q274 := eq_true q274
           try go_wp2
           replace HO_9 := Aside0.mk (Kd.S_drew HO_9.out)
           replace HO_18 := Aside0.mk (Kd.R_drew HO_18.out)
           replace HO_32 := Aside0.mk (Kd.R_drew HO_32.out)
           replace BK259 := Aside0.mk (blk_drew BK259.out)
           replace BK260 := Aside0.mk (blk_drew BK260.out)
           replace HB := Aside0.mk (below_drew1 HB.out)
           refine start_ (n := 13) (S := fun w' => w'.cell? ⟨gb259, 0, none⟩ = some (.int .i64 a0_0) ∧ w'.cell? ⟨gb259, 1, none⟩ = some (.slice A0_1 l0_1.length c0_1) ∧ w'.cell? ⟨gb259, 2, none⟩ = some (.slice A0_2 l0_2.length c0_2) ∧ w'.cell? ⟨gb260, 0, none⟩ = some (.int .i64 a1_0) ∧ w'.cell? ⟨gb260, 1, none⟩ = some (.slice A1_1 l1_1.length c1_1) ∧ w'.cell? ⟨gb260, 2, none⟩ = some (.slice A1_2 l1_2.length c1_2)) (ds := []) (bm 13 0) (by kernel_rfl) rfl (bm0 _) ⟨bc0 BK259, bc1 BK259, bc2 BK259, bc0 BK260, bc1 BK260, bc2 BK260⟩ (fun hHeld => ?_); refine with_tabW impl_NextPairs.tab11 impl_NextPairs.bits11 (fun HT_ HW_ => ?_)
           generalize wr.drew = w47 at HO_9 HO_18 HO_32 BK259 BK260 HB hHeld ⊢
           refine pU 1 (some 39) (bm 13 2) HT_ rfl rfl ?_
           refine pU 2 (some 40) (bm 13 6) HT_ rfl rfl ?_
           refine pU 3 (some 41) (bm 13 14) HT_ rfl rfl ?_
           refine pU 6 (some 44) (bm 13 78) HT_ rfl rfl ?_
           refine pU 7 (some 45) (bm 13 206) HT_ rfl rfl ?_
           refine pU 8 (some 46) (bm 13 462) HT_ rfl rfl ?_
           refine pU 9 (some 47) (bm 13 974) HT_ rfl rfl ?_
           refine tU 0 (some 38) (bm 13 975) HT_ HW_ rfl rfl hHeld ?_
           refine tU 5 (some 43) (bm 13 1007) HT_ HW_ rfl rfl hHeld ?_
           refine one_ (i := 4) (N := some 42) (bm 13 1023) rfl rfl (one_of HT_.out (by kernel_rfl)) (by decide) (fun K hK => ?_)
           refine goes_ Try.func20 (by kernel_rfl) rfl #[.agg #[.int .i64 a0_0, .slice A0_1 l0_1.length c0_1, .slice A0_2 l0_2.length c0_2], .int .i64 a2, .bool (rdOf false y264 x20_1), .int .i64 (rd x12_15 x34_3)] (by rfl) rfl rfl zG ?_
           with_reducible refine (impl_MoveOf.calls a0_0 _ _ l0_1 _ _ l0_2 a2 (rdOf false y264 x20_1) (rd x12_15 x34_3) t275 _ ?side1 ?side2 ?side3 ?side4 A30.out).mono ?_
           (case side1 => exact cS HR0_1 HB)
           (case side2 => exact HC0_1.out)
           (case side3 => exact cS HR0_2 HB)
           (case side4 => exact HC0_2.out)
           rintro e w48 ⟨rfl, hb⟩
           refine ⟨_, rfl, ?_⟩
           replace HO_9 := Aside0.mk (Kd.S_below (zS HO_9) hb)
           replace HO_18 := Aside0.mk (Kd.R_below (zR HO_18) hb)
           replace HO_32 := Aside0.mk (Kd.R_below (zR HO_32) hb)
           replace BK259 := kB BK259 hb
           replace BK260 := kB BK260 hb
           replace HB := bS HB hb
           (try clear hb)
           (try clear hb2)
           (try clear hk)
           (try clear hi)
           refine hK.out _ _ ⟨bc0 BK259, bc1 BK259, bc2 BK259, bc0 BK260, bc1 BK260, bc2 BK260⟩ (fun hHeld => ?_)
           clear hK K
           refine norm_ (a' := ?_) ?_ ?_
           rotate_left
           ·show Act.put _ (some 42) _ = _
            simp only [Act.put, List.setIfInBounds_toArray, List.set_cons_zero, List.set_cons_succ, i64_w, i32_w]
            rfl
           refine one_ (i := 10) (N := some 48) (bm 13 2047) rfl rfl (one_of HT_.out (by kernel_rfl)) (by decide) (fun K hK => ?_)
           refine goes_ Try.func20 (by kernel_rfl) rfl #[.agg #[.int .i64 a1_0, .slice A1_1 l1_1.length c1_1, .slice A1_2 l1_2.length c1_2], .int .i64 a3, .bool (!(rdOf false y264 x20_1)), .int .i64 (rd x12_15 x34_3)] (by rfl) rfl rfl zG ?_
           with_reducible refine (impl_MoveOf.calls a1_0 _ _ l1_1 _ _ l1_2 a3 (!(rdOf false y264 x20_1)) (rd x12_15 x34_3) t276 _ ?side1 ?side2 ?side3 ?side4 A31.out).mono ?_
           (case side1 => exact cS HR1_1 HB)
           (case side2 => exact HC1_1.out)
           (case side3 => exact cS HR1_2 HB)
           (case side4 => exact HC1_2.out)
           rintro e w49 ⟨rfl, hb⟩
           refine ⟨_, rfl, ?_⟩
           replace HO_9 := Aside0.mk (Kd.S_below (zS HO_9) hb)
           replace HO_18 := Aside0.mk (Kd.R_below (zR HO_18) hb)
           replace HO_32 := Aside0.mk (Kd.R_below (zR HO_32) hb)
           replace BK259 := kB BK259 hb
           replace BK260 := kB BK260 hb
           replace HB := bS HB hb
           (try clear hb)
           (try clear hb2)
           (try clear hk)
           (try clear hi)
           refine hK.out _ _ ⟨bc0 BK259, bc1 BK259, bc2 BK259, bc0 BK260, bc1 BK260, bc2 BK260⟩ (fun hHeld => ?_)
           clear hK K
           refine norm_ (a' := ?_) ?_ ?_
           rotate_left
           ·show Act.put _ (some 48) _ = _
            simp only [Act.put, List.setIfInBounds_toArray, List.set_cons_zero, List.set_cons_succ, i64_w, i32_w]
            rfl
           refine pU 11 (some 15) (bm 13 4095) HT_ rfl rfl ?_
           refine pU 12 (some 16) (bm 13 8191) HT_ rfl rfl ?_
           refine done_ (done_of HT_.out (by kernel_rfl)) ?_
           try clear hHeld
           try go_wp2
           go_roundg k3
           case measure => have := HK1.out; have := HJ15.out; have := HK3.out; omega
           case rel => exact ⟨(x9_3), (wrap64 (x34_3 + 1)), zF, H', ⟨by have := HK1.out; have := HJ15.out; have := HK3.out; omega⟩, ⟨zS HO_9⟩, ⟨zR HO_18⟩, ⟨zR HO_32⟩, ⟨zK BK259⟩, ⟨zK BK260⟩, ⟨zB HB⟩⟩
         ·rw [if_neg c32] at H
          have c32b0 : decide (0 ≤ t275) = false := decide_eq_false c32
          clear c32
          have H' := Aside0.mk H
          clear H
          have p274 : 0 ≤ (x34_3 : Int) := zD
          have q274 : x34_3 < (x12_15.length : Int) := zD
          obtain ⟨ad274, e274, hx274_0⟩ := Kd.at_int (Kd.R_reads' HO_32.out).2.2 x34_3 p274 q274
          cases e274
          replace p274 := eq_true p274
          replace q274 := eq_true q274
          try go_wp2
          replace HO_9 := Aside0.mk (Kd.S_drew HO_9.out)
          replace HO_18 := Aside0.mk (Kd.R_drew HO_18.out)
          replace HO_32 := Aside0.mk (Kd.R_drew HO_32.out)
          replace BK259 := Aside0.mk (blk_drew BK259.out)
          replace BK260 := Aside0.mk (blk_drew BK260.out)
          replace HB := Aside0.mk (below_drew1 HB.out)
          refine start_ (n := 13) (S := fun w' => w'.cell? ⟨gb259, 0, none⟩ = some (.int .i64 a0_0) ∧ w'.cell? ⟨gb259, 1, none⟩ = some (.slice A0_1 l0_1.length c0_1) ∧ w'.cell? ⟨gb259, 2, none⟩ = some (.slice A0_2 l0_2.length c0_2) ∧ w'.cell? ⟨gb260, 0, none⟩ = some (.int .i64 a1_0) ∧ w'.cell? ⟨gb260, 1, none⟩ = some (.slice A1_1 l1_1.length c1_1) ∧ w'.cell? ⟨gb260, 2, none⟩ = some (.slice A1_2 l1_2.length c1_2)) (ds := []) (bm 13 0) (by kernel_rfl) rfl (bm0 _) ⟨bc0 BK259, bc1 BK259, bc2 BK259, bc0 BK260, bc1 BK260, bc2 BK260⟩ (fun hHeld => ?_); refine with_tabW impl_NextPairs.tab11 impl_NextPairs.bits11 (fun HT_ HW_ => ?_)
          generalize wr.drew = w50 at HO_9 HO_18 HO_32 BK259 BK260 HB hHeld ⊢
          refine pU 1 (some 39) (bm 13 2) HT_ rfl rfl ?_
          refine pU 2 (some 40) (bm 13 6) HT_ rfl rfl ?_
          refine pU 3 (some 41) (bm 13 14) HT_ rfl rfl ?_
          refine pU 6 (some 44) (bm 13 78) HT_ rfl rfl ?_
          refine pU 7 (some 45) (bm 13 206) HT_ rfl rfl ?_
          refine pU 8 (some 46) (bm 13 462) HT_ rfl rfl ?_
          refine pU 9 (some 47) (bm 13 974) HT_ rfl rfl ?_
          refine tU 0 (some 38) (bm 13 975) HT_ HW_ rfl rfl hHeld ?_
          refine tU 5 (some 43) (bm 13 1007) HT_ HW_ rfl rfl hHeld ?_
          refine one_ (i := 4) (N := some 42) (bm 13 1023) rfl rfl (one_of HT_.out (by kernel_rfl)) (by decide) (fun K hK => ?_)
          refine goes_ Try.func20 (by kernel_rfl) rfl #[.agg #[.int .i64 a0_0, .slice A0_1 l0_1.length c0_1, .slice A0_2 l0_2.length c0_2], .int .i64 a2, .bool (rdOf false y264 x20_1), .int .i64 (rd x12_15 x34_3)] (by rfl) rfl rfl zG ?_
          with_reducible refine (impl_MoveOf.calls a0_0 _ _ l0_1 _ _ l0_2 a2 (rdOf false y264 x20_1) (rd x12_15 x34_3) t275 _ ?side1 ?side2 ?side3 ?side4 A30.out).mono ?_
          (case side1 => exact cS HR0_1 HB)
          (case side2 => exact HC0_1.out)
          (case side3 => exact cS HR0_2 HB)
          (case side4 => exact HC0_2.out)
          rintro e w51 ⟨rfl, hb⟩
          refine ⟨_, rfl, ?_⟩
          replace HO_9 := Aside0.mk (Kd.S_below (zS HO_9) hb)
          replace HO_18 := Aside0.mk (Kd.R_below (zR HO_18) hb)
          replace HO_32 := Aside0.mk (Kd.R_below (zR HO_32) hb)
          replace BK259 := kB BK259 hb
          replace BK260 := kB BK260 hb
          replace HB := bS HB hb
          (try clear hb)
          (try clear hb2)
          (try clear hk)
          (try clear hi)
          refine hK.out _ _ ⟨bc0 BK259, bc1 BK259, bc2 BK259, bc0 BK260, bc1 BK260, bc2 BK260⟩ (fun hHeld => ?_)
          clear hK K
          refine norm_ (a' := ?_) ?_ ?_
          rotate_left
          ·show Act.put _ (some 42) _ = _
           simp only [Act.put, List.setIfInBounds_toArray, List.set_cons_zero, List.set_cons_succ, i64_w, i32_w]
           rfl
          refine one_ (i := 10) (N := some 48) (bm 13 2047) rfl rfl (one_of HT_.out (by kernel_rfl)) (by decide) (fun K hK => ?_)
          refine goes_ Try.func20 (by kernel_rfl) rfl #[.agg #[.int .i64 a1_0, .slice A1_1 l1_1.length c1_1, .slice A1_2 l1_2.length c1_2], .int .i64 a3, .bool (!(rdOf false y264 x20_1)), .int .i64 (rd x12_15 x34_3)] (by rfl) rfl rfl zG ?_
          with_reducible refine (impl_MoveOf.calls a1_0 _ _ l1_1 _ _ l1_2 a3 (!(rdOf false y264 x20_1)) (rd x12_15 x34_3) t276 _ ?side1 ?side2 ?side3 ?side4 A31.out).mono ?_
          (case side1 => exact cS HR1_1 HB)
          (case side2 => exact HC1_1.out)
          (case side3 => exact cS HR1_2 HB)
          (case side4 => exact HC1_2.out)
          rintro e w52 ⟨rfl, hb⟩
          refine ⟨_, rfl, ?_⟩
          replace HO_9 := Aside0.mk (Kd.S_below (zS HO_9) hb)
          replace HO_18 := Aside0.mk (Kd.R_below (zR HO_18) hb)
          replace HO_32 := Aside0.mk (Kd.R_below (zR HO_32) hb)
          replace BK259 := kB BK259 hb
          replace BK260 := kB BK260 hb
          replace HB := bS HB hb
          (try clear hb)
          (try clear hb2)
          (try clear hk)
          (try clear hi)
          refine hK.out _ _ ⟨bc0 BK259, bc1 BK259, bc2 BK259, bc0 BK260, bc1 BK260, bc2 BK260⟩ (fun hHeld => ?_)
          clear hK K
          refine norm_ (a' := ?_) ?_ ?_
          rotate_left
          ·show Act.put _ (some 48) _ = _
           simp only [Act.put, List.setIfInBounds_toArray, List.set_cons_zero, List.set_cons_succ, i64_w, i32_w]
           rfl
          refine pU 11 (some 15) (bm 13 4095) HT_ rfl rfl ?_
          refine pU 12 (some 16) (bm 13 8191) HT_ rfl rfl ?_
          refine done_ (done_of HT_.out (by kernel_rfl)) ?_
          try clear hHeld
          try go_wp2
          go_roundg k3
          case measure => have := HK1.out; have := HJ15.out; have := HK3.out; omega
          case rel => exact ⟨(x9_3), (wrap64 (x34_3 + 1)), zF, H', ⟨by have := HK1.out; have := HJ15.out; have := HK3.out; omega⟩, ⟨zS HO_9⟩, ⟨zR HO_18⟩, ⟨zR HO_32⟩, ⟨zK BK259⟩, ⟨zK BK260⟩, ⟨zB HB⟩⟩
        ·rw [if_neg c27] at H
         have c27b0 : decide (x34_3 < (x12_15.length : Int)) = false := decide_eq_false c27
         clear c27
         have H' := Aside0.mk H
         clear H
         go_wp2
         go_roundg k3
         case measure => have := HK1.out; have := HJ15.out; have := HK3.out; omega
         case rel => exact ⟨(x9_3), (wrap64 (x20_1 + 1)), zF, H', ⟨by have := HK1.out; have := HJ15.out; have := HK3.out; omega⟩, ⟨by (with_reducible repeat (first | apply Kd.S_alloc | apply Kd.S_drewN | apply Kd.S_drew)); exact Kd.S_mono HO_9.out (fun _ hk => trivial)⟩, ⟨zR HO_18⟩, ⟨zK BK259⟩, ⟨zK BK260⟩, ⟨zB HB⟩⟩
   ·rw [if_neg c12] at H
    have c12b0 : decide (x20_1 < (y264.length : Int)) = false := decide_eq_false c12
    clear c12
    obtain rfl := Option.some.inj H
    go_wp2
    go_ret
    exact ⟨_, zE, by (with_reducible repeat (first | apply Kd.S_alloc | apply Kd.S_drewN | apply Kd.S_drew)); exact HO_9.out, zB HB⟩

end Go.Proofs.Ytjlaogjikkckkaa.PFnExactNextPairs
