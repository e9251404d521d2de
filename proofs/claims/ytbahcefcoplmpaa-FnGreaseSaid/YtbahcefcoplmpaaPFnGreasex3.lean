-- WRITTEN by pp.py, this session's own wrapper around the print; not trusted: Lean checks it
import Derived.Test.YtbahcefcoplmpaaPFnGreasex0
import Derived.Test.YtbahcefcoplmpaaPFnGreasex1
import Derived.Test.YtbahcefcoplmpaaPFnGreasex2
namespace Go.Proofs.Ytbahcefcoplmpaa.PFnGrease
open Go.RowKit Go.Proofs.Ytbahcefcoplmpaa.Hw Go.Proofs.YtbahcefcoplmpaaW.PrintWords Go.Proofs.YtbahcefcoplmpaaW.PrintLast Go.Proofs.YtbahcefcoplmpaaW.PrintMore
attribute [local go_sem] max2_int min2_int max_two min_two max_three min_three max_four min_four   -- for this text's walks alone
set_option linter.unusedVariables false
set_option linter.unusedSimpArgs false
set_option linter.unusedSectionVars false

/-- What impl_keptExts is handed. -/
class KEEP_impl_keptExts where
 f : Int → Option (Bool)
section
variable [inst_ : KEEP_impl_keptExts]
/-! ### impl_keptExts: function 47 -/
def impl_keptExts.l0 : Nat → List (S46) → List (S46) → Int → Int → Option ((List (S46)))
 | 0, _, _, _, _ => none
 | k + 1, x5, x9, x10, x11 => if x11 < x10 then (if 0 ≤ x11 then (if x11 < (x9.length : Int) then ((KEEP_impl_keptExts.f ((rd_T46 x9 x11).f0)).bind fun t127 => (if t127 = true then ((some (([] : List Int) : List Int)).bind fun y128 => (if y128.length + ((rd_T46 x9 x11).f1).length < 17592186044416 then (if x5.length < 4398046511104 then (impl_keptExts.l0 k (x5 ++ [(⟨(rd_T46 x9 x11).f0, (y128 ++ ((rd_T46 x9 x11).f1))⟩ : S46)]) x9 x10 (wrap64 (x11 + 1))) else (none)) else (none))) else (impl_keptExts.l0 k x5 x9 x10 (wrap64 (x11 + 1))))) else (none)) else (none)) else (some x5)
def impl_keptExts.f (k : Nat) (l0 : List (S46)) : Option ((List (S46))) := impl_keptExts.l0 k (([] : List (S46))) l0 (l0.length : Int) 0
theorem impl_keptExts.mono_l : ∀ k, (∀ y0 y1 y2 y3, LeO (impl_keptExts.l0 k y0 y1 y2 y3) (impl_keptExts.l0 (k + 1) y0 y1 y2 y3))
 | 0 => fun _ _ _ _ r h => by simp [impl_keptExts.l0] at h
 | k + 1 => by
  have ih0 := impl_keptExts.mono_l k
  ·intro y0 y1 y2 y3
   unfold impl_keptExts.l0
   repeat' first
   | (with_reducible exact ih0 _ _ _ _)
   | (with_reducible exact LeO.refl _)
   | (with_reducible exact LeO.none _)
   | (with_reducible refine LeO.ite ?_ ?_)
   | (with_reducible refine LeO.bind ?_ (fun _ => ?_))
   | exact ih0 _ _ _ _
   | exact LeO.none _
   | refine LeO.ite ?_ ?_
   | refine LeO.bind ?_ (fun _ => ?_)
theorem impl_keptExts.mono : ∀ a0 k, LeO (impl_keptExts.f k a0) (impl_keptExts.f (k + 1) a0) := by
 intro a0 k
 have ih0 := impl_keptExts.mono_l k
 unfold impl_keptExts.f
 repeat' first
   | (with_reducible exact ih0 _ _ _ _)
   | (with_reducible exact LeO.refl _)
   | (with_reducible exact LeO.none _)
   | (with_reducible refine LeO.ite ?_ ?_)
   | (with_reducible refine LeO.bind ?_ (fun _ => ?_))
   | exact ih0 _ _ _ _
   | exact LeO.none _
   | refine LeO.ite ?_ ?_
   | refine LeO.bind ?_ (fun _ => ?_)
def impl_keptExts.T6 : Bool × List (List Nat × List Nat) := (true, [([], []), ([], []), ([1], [1]), ([], []), ([], []), ([4], [4]), ([3, 5], [3, 5]), ([2, 6], [2, 6]), ([7], [7]), ([0, 8, 6], [0, 8]), ([9, 9, 0, 1, 2, 3, 4, 5, 6, 7, 8, 9], [0, 9])])
def impl_keptExts.B6 : List Nat := [0, 0, 2, 0, 0, 16, 56, 126, 254, 511, 1023]
theorem impl_keptExts.tab6 : rtab .any (opsOf Try.f47 6) = impl_keptExts.T6 := by kernel_rfl
theorem impl_keptExts.bits6 : waitsOk impl_keptExts.T6.2 impl_keptExts.B6 = true := by kernel_rfl
set_option maxHeartbeats 8000000 in
set_option maxRecDepth 100000 in
theorem impl_keptExts.calls (k : Nat) (A0 : Option Addr) (c0 : Nat) (l0 : List (S46)) (r : List (S46)) (w : World) (hr0 : Kd.C k46 w A0 l0.length l0) (hc0 : l0.length ≤ c0) {g_ : Nat} {fn_ : Func} {lb_ : Array Value} (hf_ : Try.prog.funcs[g_]? = some fn_) (hn_ : (fn_.name == "runtime.NumGoroutine") = false) (hbo_ : fn_.body.isSome = true) (hK_ : ∀ (a0 : Int) (r : Bool) (W : World), Below w.heap.size w W → KEEP_impl_keptExts.f a0 = some r → Calls Try.prog g_ (#[.int .i64 a0] ++ lb_) W fun e w' => e = .returned (.bool r) ∧ Drawn0 W w') (h : impl_keptExts.f k l0 = some r) :
  Calls Try.prog 47 #[.slice A0 l0.length c0, .func (.func g_) #[] lb_] w fun e w' => ∃ v0_ : Value, e = .returned (v0_) ∧ Kd.S k46 46 w' w.heap.size (fun _ => True) v0_ r ∧ Below w.heap.size w w' := by
 have HF_ := Aside0.mk hf_
 have HN_ := Aside0.mk hn_
 have HBO_ := Aside0.mk hbo_
 have HKEEP_ := Aside0.mk hK_
 clear hf_ hn_ hbo_ hK_
 have hu46 := Try.underlying46
 have HR0 := Aside0.mk hr0
 have HC0 := Aside0.mk hc0
 clear hr0 hc0
 have HB := Aside0.mk (Below.refl w.heap.size w)
 have H : (impl_keptExts.l0 k (([] : List (S46))) l0 (l0.length : Int) 0) = some r := h
 clear h
 obtain ⟨y122, hy122⟩ : ∃ y_ : List (S46), y_ = (([] : List (S46))) := ⟨_, rfl⟩
 replace H : (impl_keptExts.l0 k y122 l0 (l0.length : Int) 0) = some r := by first | (rw [hy122]; with_reducible exact H) | (have H2_ := (Option.bind_some _ _).symm.trans H; rw [hy122]; with_reducible exact H2_) | (have H2_ := (Option.bind_some _ _).symm.trans H; with_reducible exact H2_) | with_reducible exact H | (rw [hy122]; exact H) | exact H
 have Ny122 := Aside0.mk hy122
 clear hy122
 have H' := Aside0.mk H
 clear H
 go_enter Try.func47, Try.ntmps47
 go_wp2_with (first | ((with_reducible refine gate_dst (N := 8) rfl ?_); refine Kd.S_lit k46 _ 46 ?hg (N := 8) ?hd (xs := ([] : List (S46))) (inner := []) (ok := fun _ => True) (okp := fun _ => True) ?hr ?hp (fun _ hk => hk) trivial (Below.refl _ _) (Nat.le_refl _) (by simp) ?_; (case hd => rfl); (case hg => rfl); (case hr => first | (go_simp; done) | (go_simp; rfl)); (case hp => exact (Reps.none _ _)); intro v123 w2 ho3 hb hg_ hnew_; clear hg_ hnew_; (first | rw [← Ny122.out] at ho3 | (simp only [Int.reduceToNat] at ho3; rw [← Ny122.out] at ho3)); have HO124 := Aside0.mk (Kd.S_lower ho3 (below_size (zB HB))); replace HB := bS HB hb; clear hb ho3))
 go_loopg [5, 11] k (fun kq v5 v11 w' => ∃ (x5_1 : List (S46)) (x11_1 : Int), v11 = .int .i64 x11_1 ∧ Aside0 (impl_keptExts.l0 kq x5_1 l0 (l0.length : Int) x11_1 = some r) ∧ Aside0 (kq ≤ k) ∧ Aside0 (Kd.S k46 46 w' w.heap.size (fun _ => True) v5 x5_1) ∧ Aside0 (Below w.heap.size w w'))
 case atStart => exact ⟨(y122), (0), zF, H', ⟨Nat.le_refl _⟩, ⟨zS HO124⟩, ⟨zB HB⟩⟩
 case round =>
  clear H'
  try clear p2
  obtain ⟨x5_1, x11_1, rfl, HA, HK1, HO_5, HB⟩ := hrel
  cases gk with
  | zero => exact absurd HA.out (by simp [impl_keptExts.l0])
  | succ k1 =>
   have H := HA.out
   clear HA
   simp only [impl_keptExts.l0] at H
   by_cases c4 : x11_1 < (l0.length : Int)
   ·rw [if_pos c4] at H
    have c4b0 : decide (x11_1 < (l0.length : Int)) = true := decide_eq_true c4
    clear c4
    obtain ⟨c5, H⟩ := ifS H
    have c5b0 : decide (0 ≤ x11_1) = true := decide_eq_true c5
    clear c5
    obtain ⟨c6, H⟩ := ifS H
    have c6b0 : decide (x11_1 < (l0.length : Int)) = true := decide_eq_true c6
    clear c6
    obtain ⟨t127, A7, H⟩ := bindS H
    by_cases c8 : t127 = true
    ·subst c8
     have H1 : ((some (([] : List Int) : List Int)).bind fun y128 => (if y128.length + ((rd_T46 l0 x11_1).f1).length < 17592186044416 then (if x5_1.length < 4398046511104 then (impl_keptExts.l0 k1 (x5_1 ++ [(⟨(rd_T46 l0 x11_1).f0, (y128 ++ ((rd_T46 l0 x11_1).f1))⟩ : S46)]) l0 (l0.length : Int) (wrap64 (x11_1 + 1))) else (none)) else (none))) = some r := by rw [if_pos rfl] at H; exact H
     clear H
     have H := H1
     clear H1
     obtain ⟨y128, hy128⟩ : ∃ y_ : List Int, y_ = (([] : List Int)) := ⟨_, rfl⟩
     replace H : (if y128.length + ((rd_T46 l0 x11_1).f1).length < 17592186044416 then (if x5_1.length < 4398046511104 then (impl_keptExts.l0 k1 (x5_1 ++ [(⟨(rd_T46 l0 x11_1).f0, (y128 ++ ((rd_T46 l0 x11_1).f1))⟩ : S46)]) l0 (l0.length : Int) (wrap64 (x11_1 + 1))) else (none)) else (none)) = some r := by first | (rw [hy128]; with_reducible exact H) | (have H2_ := (Option.bind_some _ _).symm.trans H; rw [hy128]; with_reducible exact H2_) | (have H2_ := (Option.bind_some _ _).symm.trans H; with_reducible exact H2_) | with_reducible exact H | (rw [hy128]; exact H) | exact H
     have Ny128 := Aside0.mk hy128
     clear hy128
     obtain ⟨c9, H⟩ := ifS H
     have LMc9 := Aside0.mk c9
     clear c9
     obtain ⟨y131, hy131⟩ : ∃ y_ : List Int, y_ = (y128 ++ ((rd_T46 l0 x11_1).f1)) := ⟨_, rfl⟩
     replace H : (if x5_1.length < 4398046511104 then (impl_keptExts.l0 k1 (x5_1 ++ [(⟨(rd_T46 l0 x11_1).f0, y131⟩ : S46)]) l0 (l0.length : Int) (wrap64 (x11_1 + 1))) else (none)) = some r := by first | (rw [hy131]; with_reducible exact H) | (have H2_ := (Option.bind_some _ _).symm.trans H; rw [hy131]; with_reducible exact H2_) | (have H2_ := (Option.bind_some _ _).symm.trans H; with_reducible exact H2_) | with_reducible exact H | (rw [hy131]; exact H) | exact H
     have Ny131 := Aside0.mk hy131
     clear hy131
     obtain ⟨c10, H⟩ := ifS H
     have LMc10 := Aside0.mk c10
     clear c10
     obtain ⟨y134, hy134⟩ : ∃ y_ : List (S46), y_ = (x5_1 ++ [(⟨(rd_T46 l0 x11_1).f0, y131⟩ : S46)]) := ⟨_, rfl⟩
     replace H : (impl_keptExts.l0 k1 y134 l0 (l0.length : Int) (wrap64 (x11_1 + 1))) = some r := by first | (rw [hy134]; with_reducible exact H) | (have H2_ := (Option.bind_some _ _).symm.trans H; rw [hy134]; with_reducible exact H2_) | (have H2_ := (Option.bind_some _ _).symm.trans H; with_reducible exact H2_) | with_reducible exact H | (rw [hy134]; exact H) | exact H
     have Ny134 := Aside0.mk hy134
     clear hy134
     have H' := Aside0.mk H
     clear H
     have p125 : 0 ≤ (x11_1 : Int) := zD
     have q125 : x11_1 < (l0.length : Int) := zD
     obtain ⟨ad125, A125_1, c125_1, e125, hx125_0, hx125_1, hl125_1, hi125_1⟩ := at_T46 HR0.out x11_1 p125 q125
     cases e125
     replace hx125_0 := hL HB hx125_0
     replace hx125_1 := hL HB hx125_1
     have HR125_1 := Aside0.mk hi125_1
     have HC125_1 := Aside0.mk hl125_1
     clear hi125_1 hl125_1
     replace p125 := eq_true p125
     replace q125 := eq_true q125
     try go_wp2_with (first | ((with_reducible refine gate_dst (N := 7) rfl ?_); refine box_event ?hg (N := 7) ?hd (cs := #[.int .i64 0, .slice none 0 0]) (t := 46) ?hr ?_; (case hd => rfl); (case hg => rfl); (case hr => first | (go_simp; done) | (go_simp; rfl)); intro gb126 hg w11 hbox hb; replace HO_5 := Aside0.mk (Kd.S_below (Kd.S_elderB (zS HO_5) gb126 (Nat.le_of_eq hg.symm)) hb); have BK126 := Aside0.mk (hbox); have GW126 := gS HB hg; have GE126 := gS HB hg; replace HB := bS HB hb; clear hb hbox hg; have hcz12_0 := bc0 BK126; have hcz12_1 := bc1 BK126; have hfz12_0 := bf BK126 0; have hfz12_1 := bf BK126 1) | ((with_reducible refine gate_dst (N := 18) rfl ?_); refine goesV_ (some 18) rfl rfl HF_.out HN_.out HBO_.out #[.int .i64 ((rd_T46 l0 x11_1).f0)] rfl rfl zG ?_; (with_reducible refine (HKEEP_.out ((rd_T46 l0 x11_1).f0) true _ ?sideK_ A7.out).mono ?_); (case sideK_ => repeat (first | (with_reducible first | exact HB.out | apply below_alloc | apply pw_below_drewN | apply below_drew1 | (refine below_set ?_ GE126.out)) | exact HB.out)); rintro e w' ⟨rfl, ⟨nd, rfl⟩⟩; refine ⟨_, rfl, ?_⟩))
     have n0_ : Aside0 (Kd.S k46 46 ((w11.setCell ⟨gb126, 0, none⟩ (.int .i64 ((rd_T46 l0 x11_1).f0))).setCell ⟨gb126, 1, none⟩ (.slice A125_1 ((rd_T46 l0 x11_1).f1).length c125_1)) w.heap.size (fun k_ => k_ ≠ gb126) u5 x5_1) := ⟨by (with_reducible repeat (first | apply Kd.S_alloc | apply Kd.S_drewN | apply Kd.S_drew)); exact Kd.S_mono (Kd.S_far (p := ⟨gb126, 1, none⟩) (Kd.S_far (p := ⟨gb126, 0, none⟩) (Kd.S_mono HO_5.out (fun k_ hk => (⟨hk, hk.2⟩ : _ ∧ k_ ≠ gb126))) (fun _ hk => hk.2) (.int .i64 ((rd_T46 l0 x11_1).f0))) (fun _ hk => hk.2) (.slice A125_1 ((rd_T46 l0 x11_1).f1).length c125_1)) (fun _ hk => hk.1.2)⟩
     have n1_ : Aside0 (((w11.setCell ⟨gb126, 0, none⟩ (.int .i64 ((rd_T46 l0 x11_1).f0))).setCell ⟨gb126, 1, none⟩ (.slice A125_1 ((rd_T46 l0 x11_1).f1).length c125_1)).heap[gb126]? = some (.cells #[.int .i64 ((rd_T46 l0 x11_1).f0), .slice A125_1 ((rd_T46 l0 x11_1).f1).length c125_1] 46 (0, 0))) := ⟨by (with_reducible repeat (first | refine blk_drewN ?_ _ | refine blk_drew ?_ | refine blk_alloc ?_ _)); refine blk_put (cs := #[.int .i64 ((rd_T46 l0 x11_1).f0), .slice none 0 0]) ?_ 1 _ rfl; (with_reducible repeat (first | refine blk_drewN ?_ _ | refine blk_drew ?_ | refine blk_alloc ?_ _)); refine blk_put (cs := #[.int .i64 0, .slice none 0 0]) ?_ 0 _ rfl; (with_reducible repeat (first | refine blk_drewN ?_ _ | refine blk_drew ?_ | refine blk_alloc ?_ _)); exact BK126.out⟩
     have n2_ : Aside0 (Below w.heap.size w ((w11.setCell ⟨gb126, 0, none⟩ (.int .i64 ((rd_T46 l0 x11_1).f0))).setCell ⟨gb126, 1, none⟩ (.slice A125_1 ((rd_T46 l0 x11_1).f1).length c125_1))) := ⟨zB HB⟩
     (try clear HO_5)
     (try clear BK126)
     (try clear HB)
     generalize ((w11.setCell ⟨gb126, 0, none⟩ (.int .i64 ((rd_T46 l0 x11_1).f0))).setCell ⟨gb126, 1, none⟩ (.slice A125_1 ((rd_T46 l0 x11_1).f1).length c125_1)) = w13 at n0_ n1_ n2_ ⊢
     have HO_5 := n0_
     have BK126 := n1_
     have HB := n2_
     clear n0_ n1_ n2_
     (try (rw [drewN_self w13]; generalize hq_ : World.drewN w13 _ = w13; have n0_ : Aside0 (Kd.S k46 46 w13 w.heap.size (fun k_ => k_ ≠ gb126) u5 x5_1) := ⟨by rw [← hq_]; exact (zS HO_5)⟩; have n1_ : Aside0 (w13.heap[gb126]? = some (.cells #[.int .i64 ((rd_T46 l0 x11_1).f0), .slice A125_1 ((rd_T46 l0 x11_1).f1).length c125_1] 46 (0, 0))) := ⟨by rw [← hq_]; exact (zK BK126)⟩; have n2_ : Aside0 (Below w.heap.size w w13) := ⟨by rw [← hq_]; exact (zB HB)⟩; clear HO_5 BK126 HB hq_; have HO_5 := n0_; have BK126 := n1_; have HB := n2_; clear n0_ n1_ n2_; have hcw126_0 : w13.cell? ⟨gb126, 0, none⟩ = some (.int .i64 ((rd_T46 l0 x11_1).f0)) := bc0 BK126; have hfw126_0 := bf BK126 0; have hcw126_1 : w13.cell? ⟨gb126, 1, none⟩ = some (.slice A125_1 ((rd_T46 l0 x11_1).f1).length c125_1) := bc1 BK126; have hfw126_1 := bf BK126 1))
     replace HO_5 := Aside0.mk (Kd.S_drew HO_5.out)
     replace BK126 := Aside0.mk (blk_drew BK126.out)
     replace HB := Aside0.mk (below_drew1 HB.out)
     refine start_ (n := 11) (S := fun w' => w'.cell? ⟨gb126, 0, none⟩ = some (.int .i64 ((rd_T46 l0 x11_1).f0)) ∧ w'.cell? ⟨gb126, 1, none⟩ = some (.slice A125_1 ((rd_T46 l0 x11_1).f1).length c125_1)) (ds := []) (bm 11 0) (by kernel_rfl) rfl (bm0 _) ⟨bc0 BK126, bc1 BK126⟩ (fun hHeld => ?_); refine with_tabW impl_keptExts.tab6 impl_keptExts.bits6 (fun HT_ HW_ => ?_)
     generalize w13.drew = w14 at HO_5 BK126 HB hHeld ⊢
     refine pU 0 (some 19) (bm 11 1) HT_ rfl rfl ?_
     refine pU 1 (some 20) (bm 11 3) HT_ rfl rfl ?_
     refine pU 4 (some 23) (bm 11 19) HT_ rfl rfl ?_
     refine tU 2 (some 21) (bm 11 23) HT_ HW_ rfl rfl hHeld ?_
     refine tU 5 (some 24) (bm 11 55) HT_ HW_ rfl rfl hHeld ?_
     refine one_ (i := 3) (N := some 22) (bm 11 63) rfl rfl (one_of HT_.out (by kernel_rfl)) (by decide) (fun K hK => ?_)
     refine Kd.R_lit_step (Kd.int .i64) _ 3 ?hg (N := 22) ?hd (xs := ([] : List Int)) (inner := []) (ok := fun _ => True) (okp := fun _ => True) ?hr ?hp (fun _ hk => hk) trivial (Below.refl _ _) (Nat.le_refl _) (by simp) ?_; (case hd => rfl); (case hg => rfl); (case hr => first | (go_simp; done) | (go_simp; rfl)); (case hp => exact (Reps.none _ _))
     intro v129 w15 ho16 hb hg_ hnew_
     clear hg_ hnew_
     (first | rw [← Ny128.out] at ho16 | (simp only [Int.reduceToNat] at ho16; rw [← Ny128.out] at ho16))
     replace HO_5 := Aside0.mk (Kd.S_elder' (zS HO_5) (Kd.R_base ho16) hb)
     have HO130 := Aside0.mk (Kd.R_lower ho16 (below_size (zB HB)))
     replace BK126 := kB BK126 hb
     replace HB := bS HB hb
     clear hb ho16
     refine hK.out _ _ ⟨bc0 BK126, bc1 BK126⟩ (fun hHeld => ?_)
     clear hK K
     refine norm_ (a' := ?_) ?_ ?_
     rotate_left
     ·show Act.put _ (some 22) _ = _
      simp only [Act.put, List.setIfInBounds_toArray, List.set_cons_zero, List.set_cons_succ, i64_w, i32_w]
      rfl
     refine one_ (i := 6) (N := some 25) (bm 11 127) rfl rfl (one_of HT_.out (by kernel_rfl)) (by decide) (fun K hK => ?_)
     refine Kd.R_append_rows_step (Kd.int .i64) (w0 := w) w.heap.size (by rfl) (.tmp 22) (.tmp 24) 38 3 (.int .i64 0) 8 rfl Try.underlying38 info3 rfl (by decide) (by omega) v129 y128 ((rd_T46 l0 x11_1).f1) _ _ _ (fun _ => True) (fun _ => False) rfl rfl ?aO ?aR (fun _ _ h => h) (fun _ h => h.elim) ?aF ?aB ?aS ?aL ?_
     (case aR => repeat (first | exact (Kd.C_below HR125_1.out HB.out) | (with_reducible refine Kd.C_alloc ?_ _) | (with_reducible refine Kd.C_drewN ?_ _) | (with_reducible refine Kd.C_drew ?_)))
     (case aB => exact (zB HB))
     (case aF => exact (fun _ _ => trivial))
     (case aO => exact (zR HO130))
     (case aS => exact (below_size (zB HB)))
     (case aL => have := LMc9.out; omega)
     intro v132 w17 ho hb hg hat
     rw [← Ny131.out] at ho
     replace HO_5 := Aside0.mk (Kd.S_after (ok := (fun k_ => k_ ≠ gb126)) (zS HO_5) hg hat)
     replace BK126 := Aside0.mk (blk_grown (g := gb126) (o := .cells #[.int .i64 ((rd_T46 l0 x11_1).f0), .slice A125_1 ((rd_T46 l0 x11_1).f1).length c125_1] 46 (0, 0)) (zK BK126) hg (Kd.R_ne HO130.out BK126.out (by decide)))
     replace HB := Aside0.mk (hb)
     have HO133 := Aside0.mk (ho)
     clear HO130
     clear ho hb hg hat
     obtain ⟨Ao18, co18, eo18⟩ := Kd.R_slice HO133.out
     (first | subst eo18 | (injection eo18 with f1_ f2_ f3_; have f4_ := f1_.symm; have f5_ := f3_.symm; clear f1_ f2_ f3_; subst f4_; subst f5_))
     refine hK.out _ _ ⟨bc0 BK126, bc1 BK126⟩ (fun hHeld => ?_)
     clear hK K
     refine norm_ (a' := ?_) ?_ ?_
     rotate_left
     ·show Act.put _ (some 25) _ = _
      simp only [Act.put, List.setIfInBounds_toArray, List.set_cons_zero, List.set_cons_succ, i64_w, i32_w]
      rfl
     refine pU 7 (some 26) (bm 11 255) HT_ rfl rfl ?_
     refine one_ (i := 8) (N := some 27) (bm 11 511) rfl rfl (one_of HT_.out (by kernel_rfl)) (by decide) (fun K hK => ?_)
     refine value_ (w1 := ?_) (v := ?_) (by rfl) rfl ?_ ?_
     rotate_left 2
     ·go_simp
      constructor
      ·rfl
      ·rfl
     refine hK.out _ _ ⟨(blk_cell (blk_alloc BK126.out _) 0).trans rfl, (blk_cell (blk_alloc BK126.out _) 1).trans rfl⟩ (fun hHeld => ?_)
     clear hK K
     refine norm_ (a' := ?_) ?_ ?_
     rotate_left
     ·show Act.put _ (some 27) _ = _
      simp only [Act.put, List.setIfInBounds_toArray, List.set_cons_zero, List.set_cons_succ, i64_w, i32_w]
      rfl
     refine one_ (i := 9) (N := some 28) (bm 11 1023) rfl rfl (one_of HT_.out (by kernel_rfl)) (by decide) (fun K hK => ?_)
     refine Kd.S_append_step k46 (w0 := w) w.heap.size (by rfl) (.tmp 19) (.tmp 27) 24 46 (.agg #[(.int .i64 0), (.slice none 0 0)]) 32 rfl Try.underlying24 info46 rfl (by decide) (by omega) u5 x5_1 (⟨(rd_T46 l0 x11_1).f0, y131⟩ : S46) [.int .i64 ((rd_T46 l0 x11_1).f0), .slice Ao18 y131.length co18] (fun k_ => k_ ≠ gb126) (fun k_ => some k_ = (.slice Ao18 y131.length co18 : Value).ownBlock) rfl rfl ?aP (fun k_ hk_ => ((Kd.R_mono (ok' := fun k_ => ((fun k_ => k_ ≠ gb126)) k_ ∧ some k_ ≠ (u5 : Value).ownBlock) (Kd.R_types (Kd.R_apart' (HO133.out) (Kd.S_typed HO_5.out) (by decide)) BK126.out (by decide)) (fun k_ hk => ⟨hk.2, hk.1.2⟩))).1 k_ hk_.symm) ?aF ?aO ?aB ?aS ?aL ?_
     (case aP => exact k46_mkM _ _ _ (⟨(rd_T46 l0 x11_1).f0, y131⟩ : S46) (Kd.R_mono (Kd.R_tight rfl (Kd.R_mono (ok' := fun k_ => ((fun k_ => k_ ≠ gb126)) k_ ∧ some k_ ≠ (u5 : Value).ownBlock) (Kd.R_types (Kd.R_apart' (HO133.out) (Kd.S_typed HO_5.out) (by decide)) BK126.out (by decide)) (fun k_ hk => ⟨hk.2, hk.1.2⟩))) (fun _ h_ => h_)))
     (case aB => exact (zB HB))
     (case aF => exact (fun k_ hk => Kd.freshB (g := gb126) (o := .cells #[.int .i64 ((rd_T46 l0 x11_1).f0), .slice A125_1 ((rd_T46 l0 x11_1).f1).length c125_1] 46 (0, 0)) (zK BK126) k_ hk))
     (case aO => exact (by (with_reducible repeat (first | apply Kd.S_alloc | apply Kd.S_drewN | apply Kd.S_drew)); exact Kd.S_mono HO_5.out (fun k_ hk => ⟨hk.1, fun e_ => hk.2 e_⟩)))
     (case aS => exact (below_size (zB HB)))
     (case aL => have := LMc10.out; omega)
     intro v135 w19 ho hb hg hat
     rw [← Ny134.out] at ho
     replace BK126 := Aside0.mk (blk_grown (g := gb126) (o := .cells #[.int .i64 ((rd_T46 l0 x11_1).f0), .slice A125_1 ((rd_T46 l0 x11_1).f1).length c125_1] 46 (0, 0)) (zK BK126) hg (Kd.S_away HO_5.out (fun _ hk => hk.1)))
     replace HB := Aside0.mk (hb)
     have HO136 := Aside0.mk (ho)
     clear HO_5 HO133
     clear ho hb hg hat
     refine hK.out _ _ ⟨bc0 BK126, bc1 BK126⟩ (fun hHeld => ?_)
     clear hK K
     refine norm_ (a' := ?_) ?_ ?_
     rotate_left
     ·show Act.put _ (some 28) _ = _
      simp only [Act.put, List.setIfInBounds_toArray, List.set_cons_zero, List.set_cons_succ, i64_w, i32_w]
      rfl
     refine pU 10 (some 5) (bm 11 2047) HT_ rfl rfl ?_
     refine done_ (done_of HT_.out (by kernel_rfl)) ?_
     try clear hHeld
     try go_wp2
     go_roundg k1
     case measure => have := HK1.out; omega
     case rel => exact ⟨(y134), (wrap64 (x11_1 + 1)), zF, H', ⟨by have := HK1.out; omega⟩, ⟨by (with_reducible repeat (first | apply Kd.S_alloc | apply Kd.S_drewN | apply Kd.S_drew)); exact Kd.S_mono HO136.out (fun _ hk => trivial)⟩, ⟨zB HB⟩⟩
    ·replace c8 := Bool.eq_false_iff.mpr c8
     subst c8
     have H1 : (impl_keptExts.l0 k1 x5_1 l0 (l0.length : Int) (wrap64 (x11_1 + 1))) = some r := by rw [if_neg (show ¬ (false = true) by decide)] at H; exact H
     clear H
     have H := H1
     clear H1
     have H' := Aside0.mk H
     clear H
     have p125 : 0 ≤ (x11_1 : Int) := zD
     have q125 : x11_1 < (l0.length : Int) := zD
     obtain ⟨ad125, A125_1, c125_1, e125, hx125_0, hx125_1, hl125_1, hi125_1⟩ := at_T46 HR0.out x11_1 p125 q125
     cases e125
     replace hx125_0 := hL HB hx125_0
     replace hx125_1 := hL HB hx125_1
     have HR125_1 := Aside0.mk hi125_1
     have HC125_1 := Aside0.mk hl125_1
     clear hi125_1 hl125_1
     replace p125 := eq_true p125
     replace q125 := eq_true q125
     go_wp2_with (first | ((with_reducible refine gate_dst (N := 7) rfl ?_); refine box_event ?hg (N := 7) ?hd (cs := #[.int .i64 0, .slice none 0 0]) (t := 46) ?hr ?_; (case hd => rfl); (case hg => rfl); (case hr => first | (go_simp; done) | (go_simp; rfl)); intro gb126 hg w20 hbox hb; replace HO_5 := Aside0.mk (Kd.S_below (Kd.S_elderB (zS HO_5) gb126 (Nat.le_of_eq hg.symm)) hb); have BK126 := Aside0.mk (hbox); have GW126 := gS HB hg; have GE126 := gS HB hg; replace HB := bS HB hb; clear hb hbox hg; have hcz21_0 := bc0 BK126; have hcz21_1 := bc1 BK126; have hfz21_0 := bf BK126 0; have hfz21_1 := bf BK126 1) | ((with_reducible refine gate_dst (N := 18) rfl ?_); refine goesV_ (some 18) rfl rfl HF_.out HN_.out HBO_.out #[.int .i64 ((rd_T46 l0 x11_1).f0)] rfl rfl zG ?_; (with_reducible refine (HKEEP_.out ((rd_T46 l0 x11_1).f0) false _ ?sideK_ A7.out).mono ?_); (case sideK_ => repeat (first | (with_reducible first | exact HB.out | apply below_alloc | apply pw_below_drewN | apply below_drew1 | (refine below_set ?_ GE126.out)) | exact HB.out)); rintro e w' ⟨rfl, ⟨nd, rfl⟩⟩; refine ⟨_, rfl, ?_⟩))
     go_roundg k1
     case measure => have := HK1.out; omega
     case rel => exact ⟨(x5_1), (wrap64 (x11_1 + 1)), zF, H', ⟨by have := HK1.out; omega⟩, ⟨by (with_reducible repeat (first | apply Kd.S_alloc | apply Kd.S_drewN | apply Kd.S_drew)); exact Kd.S_mono (Kd.S_far (p := ⟨gb126, 1, none⟩) (Kd.S_far (p := ⟨gb126, 0, none⟩) (Kd.S_mono HO_5.out (fun k_ hk => (⟨hk, hk.2⟩ : _ ∧ k_ ≠ gb126))) (fun _ hk => hk.2) (.int .i64 ((rd_T46 l0 x11_1).f0))) (fun _ hk => hk.2) (.slice A125_1 ((rd_T46 l0 x11_1).f1).length c125_1)) (fun _ hk => trivial)⟩, ⟨zB HB⟩⟩
   ·rw [if_neg c4] at H
    have c4b0 : decide (x11_1 < (l0.length : Int)) = false := decide_eq_false c4
    clear c4
    obtain rfl := Option.some.inj H
    go_wp2
    go_ret
    exact ⟨_, zE, by (with_reducible repeat (first | apply Kd.S_alloc | apply Kd.S_drewN | apply Kd.S_drew)); exact HO_5.out, zB HB⟩

end

-- NOT PRINTED: function 63 (impl_copyExts_1)

/-! ### impl_copyExts_lit: function 63 -/
def impl_copyExts_lit.f (a0 : Int) : Option (Bool) := some true
set_option maxHeartbeats 8000000 in
set_option maxRecDepth 100000 in
theorem impl_copyExts_lit.calls (a0 : Int) (r : Bool) (w : World) (h : impl_copyExts_lit.f a0 = some r) :
  Calls Try.prog 63 #[.int .i64 a0] w fun e w' => e = .returned (.bool r) ∧ Drawn0 w w' := by
 have H : (some true) = some r := h
 clear h
 obtain rfl := Option.some.inj H
 go_enter Try.func63, Try.ntmps63
 go_wp2
 go_ret
 exact ⟨by first | rfl | (simp; done) | (simp [*]; done), by repeat (first | exact Drawn0.refl _ | apply Drawn0.step)⟩

/-! ### impl_copyExts: function 32 (by hand) -/
def impl_copyExts.f (k : Nat) (l0 : List (S46)) : Option (List (S46)) := impl_keptExts.f (inst_ := ⟨impl_copyExts_lit.f⟩) k l0
theorem impl_copyExts.mono : ∀ a0 k, LeO (impl_copyExts.f k a0) (impl_copyExts.f (k + 1) a0) := impl_keptExts.mono (inst_ := ⟨impl_copyExts_lit.f⟩)
theorem impl_copyExts.calls (k : Nat) (A0 : Option Addr) (c0 : Nat) (l0 : List (S46)) (r : List (S46)) (w : World) (hr0 : Kd.C k46 w A0 l0.length l0) (hc0 : l0.length ≤ c0) (h : impl_copyExts.f k l0 = some r) :
  Calls Try.prog 32 #[.slice A0 l0.length c0] w fun e w' => ∃ v0_ : Value, e = .returned (v0_) ∧ Kd.S k46 46 w' w.heap.size (fun _ => True) v0_ r ∧ Below w.heap.size w w' := by
 have HX := Aside0.mk (impl_keptExts.calls (inst_ := ⟨impl_copyExts_lit.f⟩) k A0 c0 l0 r w hr0 hc0 Try.func63 (by kernel_rfl) rfl (lb_ := #[]) (fun a0 r W _ hf => impl_copyExts_lit.calls a0 r W hf) h)
 clear hr0 hc0 h
 go_enter Try.func32, Try.ntmps32
 go_wp2_with (go_at_call 47; refine HX.out.mono ?_; rintro e w' ⟨v_, rfl, hs, hb⟩)
 go_ret
 exact ⟨v_, rfl, hs, hb⟩

/-! ### bits_Mul32: function 78 -/
def bits_Mul32.f (a0 : Int) (a1 : Int) : Option (Int × Int) := some (((IntKind.u64.wrap ((IntKind.u64.wrap (a0)) * (IntKind.u64.wrap (a1)))) / 4294967296) % 4294967296, (IntKind.u64.wrap ((IntKind.u64.wrap (a0)) * (IntKind.u64.wrap (a1)))) % 4294967296)
set_option maxHeartbeats 8000000 in
set_option maxRecDepth 100000 in
theorem bits_Mul32.calls (a0 : Int) (a1 : Int) (r1 : Int) (r2 : Int) (w : World) (h : bits_Mul32.f a0 a1 = some (r1, r2)) :
  Calls Try.prog 78 #[.int .u32 a0, .int .u32 a1] w fun e w' => e = .returned (.tuple #[.int .u32 r1, .int .u32 r2]) ∧ Drawn0 w w' := by
 have H : (some (((IntKind.u64.wrap ((IntKind.u64.wrap (a0)) * (IntKind.u64.wrap (a1)))) / 4294967296) % 4294967296, (IntKind.u64.wrap ((IntKind.u64.wrap (a0)) * (IntKind.u64.wrap (a1)))) % 4294967296)) = some (r1, r2) := h
 clear h
 simp only [Option.some.injEq, Prod.mk.injEq] at H
 obtain ⟨rfl, rfl⟩ := H
 go_enter Try.func78, Try.ntmps78
 go_wp2
 go_ret2
 exact ⟨by first | rfl | (simp; done) | (simp [*]; done), by repeat (first | exact Drawn0.refl _ | apply Drawn0.step)⟩

/-! ### bits_Mul64: function 79 -/
def bits_Mul64.f (a0 : Int) (a1 : Int) : Option (Int × Int) := some (IntKind.u64.wrap ((IntKind.u64.wrap ((IntKind.u64.wrap ((a0 / 4294967296) * (a1 / 4294967296))) + ((IntKind.u64.wrap ((IntKind.u64.wrap ((a0 / 4294967296) * (Go.bits .and .u64 a1 4294967295))) + ((IntKind.u64.wrap ((Go.bits .and .u64 a0 4294967295) * (Go.bits .and .u64 a1 4294967295))) / 4294967296))) / 4294967296))) + ((IntKind.u64.wrap ((Go.bits .and .u64 (IntKind.u64.wrap ((IntKind.u64.wrap ((a0 / 4294967296) * (Go.bits .and .u64 a1 4294967295))) + ((IntKind.u64.wrap ((Go.bits .and .u64 a0 4294967295) * (Go.bits .and .u64 a1 4294967295))) / 4294967296))) 4294967295) + (IntKind.u64.wrap ((Go.bits .and .u64 a0 4294967295) * (a1 / 4294967296))))) / 4294967296)), IntKind.u64.wrap (a0 * a1))
set_option maxHeartbeats 8000000 in
set_option maxRecDepth 100000 in
theorem bits_Mul64.calls (a0 : Int) (a1 : Int) (r1 : Int) (r2 : Int) (w : World) (h : bits_Mul64.f a0 a1 = some (r1, r2)) :
  Calls Try.prog 79 #[.int .u64 a0, .int .u64 a1] w fun e w' => e = .returned (.tuple #[.int .u64 r1, .int .u64 r2]) ∧ Drawn0 w w' := by
 have H : (some (IntKind.u64.wrap ((IntKind.u64.wrap ((IntKind.u64.wrap ((a0 / 4294967296) * (a1 / 4294967296))) + ((IntKind.u64.wrap ((IntKind.u64.wrap ((a0 / 4294967296) * (Go.bits .and .u64 a1 4294967295))) + ((IntKind.u64.wrap ((Go.bits .and .u64 a0 4294967295) * (Go.bits .and .u64 a1 4294967295))) / 4294967296))) / 4294967296))) + ((IntKind.u64.wrap ((Go.bits .and .u64 (IntKind.u64.wrap ((IntKind.u64.wrap ((a0 / 4294967296) * (Go.bits .and .u64 a1 4294967295))) + ((IntKind.u64.wrap ((Go.bits .and .u64 a0 4294967295) * (Go.bits .and .u64 a1 4294967295))) / 4294967296))) 4294967295) + (IntKind.u64.wrap ((Go.bits .and .u64 a0 4294967295) * (a1 / 4294967296))))) / 4294967296)), IntKind.u64.wrap (a0 * a1))) = some (r1, r2) := h
 clear h
 simp only [Option.some.injEq, Prod.mk.injEq] at H
 obtain ⟨rfl, rfl⟩ := H
 go_enter Try.func79, Try.ntmps79
 go_wp2
 go_ret2
 exact ⟨by first | rfl | (simp; done) | (simp [*]; done), by repeat (first | exact Drawn0.refl _ | apply Drawn0.step)⟩

/-! ### bits_Mul: function 64 -/
def bits_Mul.f (a0 : Int) (a1 : Int) : Option (Int × Int) := (bits_Mul64.f a0 a1).bind fun bt137 => (some (bt137.1, bt137.2))
set_option maxHeartbeats 8000000 in
set_option maxRecDepth 100000 in
theorem bits_Mul.calls (a0 : Int) (a1 : Int) (r1 : Int) (r2 : Int) (w : World) (h : bits_Mul.f a0 a1 = some (r1, r2)) :
  Calls Try.prog 64 #[.int .u64 a0, .int .u64 a1] w fun e w' => e = .returned (.tuple #[.int .u64 r1, .int .u64 r2]) ∧ Drawn0 w w' := by
 have H : ((bits_Mul64.f a0 a1).bind fun bt137 => (some (bt137.1, bt137.2))) = some (r1, r2) := h
 clear h
 replace H := Option.bind_eq_some_iff.mp H
 obtain ⟨⟨t137, t138⟩, A30, H⟩ := H
 replace H : (some (t137, t138)) = some (r1, r2) := H
 have A3 := Aside0.mk A30
 clear A30
 simp only [Option.some.injEq, Prod.mk.injEq] at H
 obtain ⟨rfl, rfl⟩ := H
 go_enter Try.func64, Try.ntmps64
 go_wp2_with (first | ((with_reducible refine gate_callee (f := 79) rfl ?_); refine goesL_ (some 25) rfl rfl Try.func79 (by kernel_rfl) rfl #[.int .u64 a0, .int .u64 a1] rfl zG ?_; (with_reducible refine (bits_Mul64.calls a0 a1 t137 t138 _ A3.out).mono ?_); rintro e w' ⟨rfl, ⟨nd, rfl⟩⟩; refine ⟨_, rfl, ?_⟩))
 go_ret2
 exact ⟨by first | rfl | (simp; done) | (simp [*]; done), by repeat (first | exact Drawn0.refl _ | apply Drawn0.step)⟩

-- NOT PRINTED: function 33 (slices_Repeat_int_int)

-- NOT PRINTED: function 67 (impl_Ext_67)

-- NOT PRINTED: function 81 (impl_Ext_81)

-- NOT PRINTED: function 80 (impl_Ext_80)

-- NOT PRINTED: function 68 (impl_Ext_68)

-- NOT PRINTED: function 35 (impl_Ext_35)

/-! ### impl_AddGrease: function 8 (by hand) -/
section
open Go.Lib
set_option linter.unnecessarySimpa false
theorem chunk_ins (inner xc : List Value) (i j n : Nat) (hl : inner.length = n * 2) (hx : xc.length = 2) (hi : i ≤ n) :
  ((inner.take (i * 2) ++ xc ++ inner.drop (i * 2)).drop (j * 2)).take 2 = if j < i then (inner.drop (j * 2)).take 2 else if j = i then xc else (inner.drop ((j - 1) * 2)).take 2 := by
 have hil : (inner.take (i * 2)).length = i * 2 := by rw [List.length_take]; omega
 split
 ·rw [List.append_assoc, List.drop_append_of_le_length (by omega), List.take_append_of_le_length (by rw [List.length_drop]; omega)]
  rw [List.drop_take, List.take_take, Nat.min_eq_left (by omega)]
 ·split
  ·rename_i h; subst h
   rw [List.append_assoc, List.drop_left' hil]
   exact List.take_left' hx
  ·rw [List.drop_append (l₁ := inner.take (i * 2) ++ xc), List.drop_of_length_le (by rw [List.length_append, hil, hx]; omega), List.nil_append, List.drop_drop, List.length_append, hil, hx]
   congr 2
   omega

theorem ins_calls {w1 W : World} {base : Nat} {v : Value} {xs : List S46} {x : S46} {xc : List Value} {i vb : Nat} (hS : Kd.S k46 46 w1 base (fun _ => True) v xs) (hB : Below w1.heap.size w1 W)
  (hM : k46.M W w1.heap.size (fun _ => True) x xc) (hvb : W.heap[vb]? = some (.cells xc.toArray 46 (0, 0))) (hvbn : w1.heap.size ≤ vb) (hbase : base ≤ w1.heap.size) (hi : i ≤ xs.length) (hn : xs.length < 4398046511103) :
  Calls Try.prog 35 #[v, .int .i64 i, .slice (some ⟨vb, 0, none⟩) 1 1] W fun e w' =>
   ∃ v', e = .returned v' ∧ Kd.S k46 46 w' base (fun _ => True) v' (xs.take i ++ [x] ++ xs.drop i) ∧ W.grownBy w' v.ownBlock := by
 obtain ⟨f, h0, inner, ho, hr⟩ := hS
 rw [List.length_zipIdx] at ho
 have hlen : inner.length = xs.length * 2 := ho.1
 have hsz : w1.heap.size ≤ W.heap.size := hB.size
 have hoW : W.ownsRow base 46 2 v xs.length inner := own_move ho (fun k hk => hB.block k (own_lt ho k hk))
 have h1c : ∀ u ∈ inner, u.oneCell' = true := Kd.reps_one hr (by show 0 < 2; omega) (fun p c hp => (Kd.tag f k46).K_one ((Kd.tag f k46).K_of_M hp))
 have hx : xc.length = 2 := k46.K_len (k46.K_of_M hM)
 have hvl : ∀ k, v.ownBlock = some k → k < w1.heap.size := fun k hk => own_lt ho k hk
 refine (Go.Proofs.Ytbahcefcoplmpaa.Hi.ins base xs.length i vb v inner xc W hoW (by omega) hvb hx (k46.K_one (k46.K_of_M hM)) h1c hn hi (fun h => by have := hvl vb h; omega)).mono ?_
 rintro e w' ⟨v', rfl, ho', hg, hat⟩
 refine ⟨v', rfl, ⟨fun k => if w1.heap.size ≤ k then i else if i ≤ f k then f k + 1 else f k, fun _ _ => trivial, inner.take (i * 2) ++ xc ++ inner.drop (i * 2), ?_, ?_, ?_⟩, hg⟩
 ·rw [List.length_zipIdx, show (xs.take i ++ [x] ++ xs.drop i).length = xs.length + 1 by simp only [List.length_append, List.length_take, List.length_drop, List.length_singleton]; omega]
  exact ho'
 ·simp only [List.length_zipIdx, List.length_append, List.length_take, List.length_drop, List.length_singleton, hx, hlen]
  show _ = _ * 2
  omega
 ·intro j q hq
  have hch := chunk_ins inner xc i j xs.length hlen hx hi
  show (Kd.tag _ k46).M w' base _ q (((inner.take (i * 2) ++ xc ++ inner.drop (i * 2)).drop (j * 2)).take 2)
  rw [hch]
  rw [List.getElem?_zipIdx, Nat.zero_add] at hq
  obtain ⟨y, hy, rfl⟩ := Option.map_eq_some_iff.1 hq
  have hold : ∀ j0, xs[j0]? = some y → (j0 < i ∧ j = j0 ∨ i ≤ j0 ∧ j = j0 + 1) → k46.M w' base (fun k => (True ∧ some k ≠ v'.ownBlock) ∧ (if w1.heap.size ≤ k then i else if i ≤ f k then f k + 1 else f k) = j) y ((inner.drop (j0 * 2)).take 2) := by
   intro j0 hj0 hcase
   have h1 := hr.2 j0 (y, j0) (Kd.zip_at hj0)
   have h2 := k46.M_bound h1
   refine k46.M_mono ?_ (k46.M_move (w1 := w') ?_ h2)
   ·rintro k ⟨⟨⟨_, hkv⟩, hkf⟩, hkb, hklt, _⟩
    refine ⟨⟨trivial, ?_⟩, ?_⟩
    ·rcases hat with h | h
     ·rw [h]; exact hkv
     ·rw [h]; intro he; injection he with he; omega
    ·rw [if_neg (by omega)]
     have hkf' : f k = j0 := hkf
     rw [hkf']
     rcases hcase with ⟨h3, rfl⟩ | ⟨h3, rfl⟩
     ·rw [if_neg (by omega)]
     ·rw [if_pos h3]
   ·rintro k ⟨⟨⟨_, hkv⟩, hkf⟩, hkb, hklt, _⟩
    exact (hg.block k (by omega) hkv).trans (hB.block k hklt)
  rcases Nat.lt_trichotomy j i with hlt | heq | hgt
  ·rw [if_pos hlt]
   refine hold j ?_ (.inl ⟨hlt, rfl⟩)
   rw [List.append_assoc, List.getElem?_append_left (by rw [List.length_take]; omega), List.getElem?_take, if_pos hlt] at hy
   exact hy
  ·subst heq
   rw [if_neg (by omega), if_pos rfl]
   rw [List.append_assoc, List.getElem?_append_right (by rw [List.length_take]; omega), List.length_take, Nat.min_eq_left hi, Nat.sub_self, List.singleton_append, List.getElem?_cons_zero] at hy
   injection hy with hy
   subst hy
   refine k46.M_mono ?_ (k46.M_lower hbase (k46.M_move (w1 := w') ?_ (k46.M_bound hM)))
   ·rintro k ⟨_, hkb, hklt, _⟩
    refine ⟨⟨trivial, ?_⟩, ?_⟩
    ·rcases hat with h | h
     ·rw [h]; intro he; have := hvl k he.symm; omega
     ·rw [h]; intro he; injection he with he; omega
    ·show (if w1.heap.size ≤ k then j else _) = j
     rw [if_pos hkb]
   ·rintro k ⟨_, hkb, hklt, _⟩
    exact hg.block k hklt (fun he => by have := hvl k he.symm; omega)
  ·rw [if_neg (by omega), if_neg (by omega)]
   refine hold (j - 1) ?_ (.inr ⟨by omega, by omega⟩)
   rw [List.getElem?_append_right (by simp only [List.length_append, List.length_take, List.length_singleton]; omega)] at hy
   simp only [List.length_append, List.length_take, List.length_singleton, Nat.min_eq_left hi, List.getElem?_drop] at hy
   rw [show i + (j - (i + 1)) = j - 1 by omega] at hy
   exact hy

theorem mul1 (c : Int) (h0 : 0 ≤ c) (h : c ≤ 2) : bits_Mul.f 1 c = some (0, c) := by
 rcases (by omega : c = 0 ∨ c = 1 ∨ c = 2) with rfl | rfl | rfl <;> kernel_rfl

theorem mkS (c : Nat) (hc : c ≤ 2) (W : World) : (Instr.makeSlice 38 (.int .i64 c) (.int .i64 c)).run Try.prog W = .ok (.slice (some ⟨W.heap.size, 0, none⟩) c c) (W.alloc (.cells (Array.replicate c (.int .i64 0)) 3)) := by
 have hu : Try.prog.underlying 38 = some (.slice 3) := by kernel_rfl
 have hinf : (Try.prog.info? 3).map (fun i => (i.zero, i.size, i.bytes)) = some (some (.int .i64 0), 1, 8) := by kernel_rfl
 obtain ⟨i0, hi0, hq⟩ := Option.map_eq_some_iff.1 hinf
 injection hq with hz hq
 injection hq with hsz hby
 have h := run_make (P := Try.prog) W 38 3 i0 _ hu hi0 hz .i64 .i64 (c : Int) (c : Int) (by omega) (by omega) (by rw [hby]; omega) (by omega)
 rw [h, hsz]
 have hm : madeCells (Value.int .i64 0).cells (c * 1) = Array.replicate c (.int .i64 0) := by
  rcases (by omega : c = 0 ∨ c = 1 ∨ c = 2) with rfl | rfl | rfl <;> kernel_rfl
 rw [Int.toNat_natCast, hm]

theorem row_done {w W : World} (xs : List Int) (cur : Array Value) (n : Nat) (hc : cur = (xs.map (Value.int .i64)).toArray) (hn : xs.length = n) (hl : n ≤ 2) (hh : W.heap[w.heap.size]? = some (.cells cur 3 (0, 0)))
  (hs : w.heap.size ≤ W.heap.size) (ho : W.os = w.os) (ht : W.tape = w.tape) (hu : W.output = w.output) (hk : ∀ k, k < w.heap.size → W.heap[k]? = w.heap[k]?) :
  ∃ v, Ending.returned (.slice (some ⟨w.heap.size, 0, none⟩) n n) = .returned v ∧ (Kd.int .i64).R 3 W w.heap.size (fun _ => True) v xs ∧ Below w.heap.size w W := by
 subst hc
 subst hn
 refine ⟨_, rfl, Kd.R_of_own ⟨by simp [encs], .inr ⟨w.heap.size, xs.length, _, rfl, Nat.le_refl _, hh, Nat.le_refl _, by unfold maxLen; omega, by simp, by rw [Nat.mul_one, List.take_of_length_le (by simp)]; rfl⟩⟩ (fun _ _ => trivial), ho, ht, hu, hs, hk⟩

set_option maxHeartbeats 4000000 in
set_option maxRecDepth 100000 in
theorem rep2 (a : Int) (xb : Nat) (w : World) (hxb : w.heap[xb]? = some (.cells #[.int .i64 a] 3 (0, 0))) :
  Calls Try.prog 33 #[.slice (some ⟨xb, 0, none⟩) 1 1, .int .i64 2] w fun e w' =>
   ∃ v, e = .returned v ∧ (Kd.int .i64).R 3 w' w.heap.size (fun _ => True) v [a, a] ∧ Below w.heap.size w w' := by
 have hM : ∀ W, _ := fun W => bits_Mul.calls 1 2 0 2 W (mul1 2 (by omega) (by omega))
 have hmk : ∀ W : World, (Instr.makeSlice 38 (.int .i64 2) (.int .i64 2)).run Try.prog W = .ok (.slice (some ⟨W.heap.size, 0, none⟩) 2 2) (W.alloc (.cells #[.int .i64 0, .int .i64 0] 3)) := mkS 2 (by omega)
 obtain ⟨N, hN⟩ : ∃ N, N = w.heap.size := ⟨_, rfl⟩
 have hsz : (Try.prog.info? 3).map (·.size) = some 1 := by kernel_rfl
 have hu : Try.prog.underlying 38 = some (.slice 3) := by kernel_rfl
 have hxl : xb < w.heap.size := (Array.getElem?_eq_some_iff.1 hxb).1
 have hcp : ∀ W : World, (∀ k : Nat, W.heap[k]? = (w.alloc (.cells #[.int .i64 0, .int .i64 0] 3)).heap[k]?) → ∀ ty dc, (Builtin.copy_ #[38, 38] ty #[.slice (some ⟨w.heap.size, 0, none⟩) 2 dc, .slice (some ⟨xb, 0, none⟩) 1 1]).run Try.prog W = .ok (goInt 1) (W.setRow w.heap.size #[.int .i64 a, .int .i64 0]) := fun W hW ty dc => by
  have h := Go.Proofs.Ytbahcefcoplmpaa.Hi.run_copy_rowN 1 W 38 38 ty 3 w.heap.size 0 2 dc ⟨xb, 0, none⟩ 1 1 #[.int .i64 0, .int .i64 0] 3 [.int .i64 a] hu hsz ((hW _).trans (heap_alloc_new w _)) 1 rfl rfl
   (fun j v hj => by
    rw [Go.Proofs.Ytbahcefcoplmpaa.Hi.cell_at ((hW xb).trans ((heap_alloc_old w _ hxl).trans hxb))]
    simpa using hj) (by simp) (by simp [Value.oneCell'])
  exact h
 have hcp2 : ∀ W : World, W.heap[w.heap.size]? = some (.cells #[.int .i64 a, .int .i64 0] 3 (0, 0)) → ∀ ty dc sc, (Builtin.copy_ #[38, 38] ty #[.slice (some ⟨w.heap.size, 1, none⟩) 1 dc, .slice (some ⟨w.heap.size, 0, none⟩) 1 sc]).run Try.prog W = .ok (goInt 1) (W.setRow w.heap.size #[.int .i64 a, .int .i64 a]) := fun W hW ty dc sc => by
  have h := Go.Proofs.Ytbahcefcoplmpaa.Hi.run_copy_rowN 1 W 38 38 ty 3 w.heap.size 1 1 dc ⟨w.heap.size, 0, none⟩ 1 sc #[.int .i64 a, .int .i64 0] 3 [.int .i64 a] hu hsz hW 1 rfl rfl
   (fun j v hj => by
    rw [Go.Proofs.Ytbahcefcoplmpaa.Hi.cell_at hW]
    cases j with
    | zero => simpa using hj
    | succ j => simp at hj) (by simp) (by simp [Value.oneCell'])
  exact h
 have hE : ∀ (m k : Nat), ((w.drewN m).alloc (.cells #[.int .i64 0, .int .i64 0] 3)).heap[k]? = (w.alloc (.cells #[.int .i64 0, .int .i64 0] 3)).heap[k]? := fun m k => rfl
 have mixed : Try.prog.follows .mixedOrders = true := by kernel_rfl
 have hE2 : ∀ m : Nat, (((w.drewN m).alloc (.cells #[.int .i64 0, .int .i64 0] 3)).setRow w.heap.size #[.int .i64 a, .int .i64 0]).drew.heap[w.heap.size]? = some (.cells #[.int .i64 a, .int .i64 0] 3 (0, 0)) := fun m => by
  show (((w.drewN m).alloc (.cells #[.int .i64 0, .int .i64 0] 3)).setRow w.heap.size #[.int .i64 a, .int .i64 0]).heap[w.heap.size]? = _
  exact setRow_heap _ _ _ _ 3 _ (heap_alloc_new (w.drewN m) _)
 clear hN
 go_enter Try.func33, Try.ntmps33
 go_wp2_with (first | (go_at_call 64; refine (hM _).mono ?_; rintro e w' ⟨rfl, ⟨m, rfl⟩⟩) | simp only [hmk] | (at_builtin; refine Go.Proofs.Ytbahcefcoplmpaa.Hi.wpList_copy_runI _ rfl _ _ 38 38 rfl _ _ rfl rfl (hcp _ (hE m) _ _) ?_))
 refine wp_loop_rounds 2 ?_
 rw [rounds_succ]
 go_wp2
 go_region_law_o (refine Go.Proofs.Ytbahcefcoplmpaa.Hi.step_copy_runI rfl _ _ 38 38 rfl (.slice (some ⟨w.heap.size, 1, none⟩) 1 1) (.slice (some ⟨w.heap.size, 0, none⟩) 1 2) (by simp [Act.eval, Act.put]) (by simp [Act.eval, Act.put]) (hcp2 _ (hE2 _) 3 1 2) ?_)
 go_wp2
 rw [rounds_succ]
 go_wp2
 go_ret
 refine row_done [a, a] #[.int .i64 a, .int .i64 a] 2 rfl rfl (by omega) (setRow_heap _ _ _ _ 3 _ (hE2 m)) ?_ rfl rfl rfl (fun k hk => ?_)
 ·rw [setRow_size]
  show w.heap.size ≤ (World.setRow _ _ _).heap.size
  rw [setRow_size]
  show w.heap.size ≤ (w.heap.push _).size
  simp
 ·rw [setRow_other _ _ k _ (by omega)]
  show (World.setRow _ _ _).heap[k]? = _
  rw [setRow_other _ _ k _ (by omega)]
  exact heap_alloc_old (w.drewN m) _ hk

set_option maxHeartbeats 4000000 in
set_option maxRecDepth 100000 in
theorem rep1 (a : Int) (xb : Nat) (w : World) (hxb : w.heap[xb]? = some (.cells #[.int .i64 a] 3 (0, 0))) :
  Calls Try.prog 33 #[.slice (some ⟨xb, 0, none⟩) 1 1, .int .i64 1] w fun e w' =>
   ∃ v, e = .returned v ∧ (Kd.int .i64).R 3 w' w.heap.size (fun _ => True) v [a] ∧ Below w.heap.size w w' := by
 have hM : ∀ W, _ := fun W => bits_Mul.calls 1 1 0 1 W (mul1 1 (by omega) (by omega))
 have hmk : ∀ W : World, (Instr.makeSlice 38 (.int .i64 1) (.int .i64 1)).run Try.prog W = .ok (.slice (some ⟨W.heap.size, 0, none⟩) 1 1) (W.alloc (.cells #[.int .i64 0] 3)) := mkS 1 (by omega)
 have hsz : (Try.prog.info? 3).map (·.size) = some 1 := by kernel_rfl
 have hu : Try.prog.underlying 38 = some (.slice 3) := by kernel_rfl
 have hxl : xb < w.heap.size := (Array.getElem?_eq_some_iff.1 hxb).1
 have hcp : ∀ W : World, (∀ k : Nat, W.heap[k]? = (w.alloc (.cells #[.int .i64 0] 3)).heap[k]?) → ∀ ty dc, (Builtin.copy_ #[38, 38] ty #[.slice (some ⟨w.heap.size, 0, none⟩) 1 dc, .slice (some ⟨xb, 0, none⟩) 1 1]).run Try.prog W = .ok (goInt 1) (W.setRow w.heap.size #[.int .i64 a]) := fun W hW ty dc => by
  have h := Go.Proofs.Ytbahcefcoplmpaa.Hi.run_copy_rowN 1 W 38 38 ty 3 w.heap.size 0 1 dc ⟨xb, 0, none⟩ 1 1 #[.int .i64 0] 3 [.int .i64 a] hu hsz ((hW _).trans (heap_alloc_new w _)) 1 rfl rfl
   (fun j v hj => by
    rw [Go.Proofs.Ytbahcefcoplmpaa.Hi.cell_at ((hW xb).trans ((heap_alloc_old w _ hxl).trans hxb))]
    simpa using hj) (by simp) (by simp [Value.oneCell'])
  exact h
 have hE : ∀ (m k : Nat), ((w.drewN m).alloc (.cells #[.int .i64 0] 3)).heap[k]? = (w.alloc (.cells #[.int .i64 0] 3)).heap[k]? := fun m k => rfl
 have mixed : Try.prog.follows .mixedOrders = true := by kernel_rfl
 go_enter Try.func33, Try.ntmps33
 go_wp2_with (first | (go_at_call 64; refine (hM _).mono ?_; rintro e w' ⟨rfl, ⟨m, rfl⟩⟩) | simp only [hmk] | (at_builtin; refine Go.Proofs.Ytbahcefcoplmpaa.Hi.wpList_copy_runI _ rfl _ _ 38 38 rfl _ _ rfl rfl (hcp _ (hE m) _ _) ?_))
 refine wp_loop_rounds 1 ?_
 rw [rounds_succ]
 go_wp2
 go_ret
 refine row_done [a] #[.int .i64 a] 1 rfl rfl (by omega) (setRow_heap _ _ _ _ 3 _ (heap_alloc_new (w.drewN m) _)) ?_ rfl rfl rfl (fun k hk => ?_)
 ·rw [setRow_size]
  show w.heap.size ≤ (w.heap.push _).size
  simp
 ·rw [setRow_other _ _ k _ (by omega)]
  exact heap_alloc_old (w.drewN m) _ hk

set_option maxHeartbeats 4000000 in
set_option maxRecDepth 100000 in
theorem rep0 (a : Int) (xb : Nat) (w : World) (hxb : w.heap[xb]? = some (.cells #[.int .i64 a] 3 (0, 0))) :
  Calls Try.prog 33 #[.slice (some ⟨xb, 0, none⟩) 1 1, .int .i64 0] w fun e w' =>
   ∃ v, e = .returned v ∧ (Kd.int .i64).R 3 w' w.heap.size (fun _ => True) v [] ∧ Below w.heap.size w w' := by
 have hM : ∀ W, _ := fun W => bits_Mul.calls 1 0 0 0 W (mul1 0 (by omega) (by omega))
 have hmk : ∀ W : World, (Instr.makeSlice 38 (.int .i64 0) (.int .i64 0)).run Try.prog W = .ok (.slice (some ⟨W.heap.size, 0, none⟩) 0 0) (W.alloc (.cells #[] 3)) := mkS 0 (by omega)
 have hsz : (Try.prog.info? 3).map (·.size) = some 1 := by kernel_rfl
 have hu : Try.prog.underlying 38 = some (.slice 3) := by kernel_rfl
 have hxl : xb < w.heap.size := (Array.getElem?_eq_some_iff.1 hxb).1
 have hcp : ∀ W : World, (∀ k : Nat, W.heap[k]? = (w.alloc (.cells #[] 3)).heap[k]?) → ∀ ty dc, (Builtin.copy_ #[38, 38] ty #[.slice (some ⟨w.heap.size, 0, none⟩) 0 dc, .slice (some ⟨xb, 0, none⟩) 1 1]).run Try.prog W = .ok (goInt 0) (W.setRow w.heap.size #[]) := fun W hW ty dc => by
  have h := Go.Proofs.Ytbahcefcoplmpaa.Hi.run_copy_rowN 1 W 38 38 ty 3 w.heap.size 0 0 dc ⟨xb, 0, none⟩ 1 1 #[] 3 [] hu hsz ((hW _).trans (heap_alloc_new w _)) 0 rfl rfl
   (fun j v hj => by
    rw [Go.Proofs.Ytbahcefcoplmpaa.Hi.cell_at ((hW xb).trans ((heap_alloc_old w _ hxl).trans hxb))]
    simpa using hj) (by simp) (by simp [Value.oneCell'])
  exact h
 have hE : ∀ (m k : Nat), ((w.drewN m).alloc (.cells #[] 3)).heap[k]? = (w.alloc (.cells #[] 3)).heap[k]? := fun m k => rfl
 have mixed : Try.prog.follows .mixedOrders = true := by kernel_rfl
 go_enter Try.func33, Try.ntmps33
 go_wp2_with (first | (go_at_call 64; refine (hM _).mono ?_; rintro e w' ⟨rfl, ⟨m, rfl⟩⟩) | simp only [hmk] | (at_builtin; refine Go.Proofs.Ytbahcefcoplmpaa.Hi.wpList_copy_runI _ rfl _ _ 38 38 rfl _ _ rfl rfl (hcp _ (hE m) _ _) ?_))
 refine wp_loop_rounds 1 ?_
 rw [rounds_succ]
 go_wp2
 go_ret
 refine row_done [] #[] 0 rfl rfl (by omega) (setRow_heap _ _ _ _ 3 _ (heap_alloc_new (w.drewN m) _)) ?_ rfl rfl rfl (fun k hk => ?_)
 ·rw [setRow_size]
  show w.heap.size ≤ (w.heap.push _).size
  simp
 ·rw [setRow_other _ _ k _ (by omega)]
  exact heap_alloc_old (w.drewN m) _ hk

theorem rep (c : Nat) (hc : c ≤ 2) (a : Int) (xb : Nat) (w : World) (hxb : w.heap[xb]? = some (.cells #[.int .i64 a] 3 (0, 0))) :
  Calls Try.prog 33 #[.slice (some ⟨xb, 0, none⟩) 1 1, .int .i64 c] w fun e w' =>
   ∃ v, e = .returned v ∧ (Kd.int .i64).R 3 w' w.heap.size (fun _ => True) v (List.replicate c a) ∧ Below w.heap.size w w' := by
 rcases (by omega : c = 0 ∨ c = 1 ∨ c = 2) with rfl | rfl | rfl
 ·exact rep0 a xb w hxb
 ·exact rep1 a xb w hxb
 ·exact rep2 a xb w hxb

set_option maxHeartbeats 4000000 in
set_option maxRecDepth 100000 in
theorem ag_no (k : Nat) (A0 : Option Addr) (c0 : Nat) (l0 : List S46) (a1 : Int) (t1 : List S46) (t2 : Int) (t3 : Bool) (w : World) (hr0 : Kd.C k46 w A0 l0.length l0) (hc0 : l0.length ≤ c0)
  (h1 : impl_copyExts.f k l0 = some t1) (h2 : impl_GreaseTag.f k a1 = some t2) (h3 : impl_AreExts.f k l0 = some t3) (j : Int) (h4 : impl_ExtOf.f l0 t2 = some j) (hq : t3 = false ∨ t3 = true ∧ (l0.length : Int) = 6 ∨ t3 = true ∧ ¬ (l0.length : Int) = 6 ∧ 0 ≤ j) :
  Calls Try.prog 8 #[.slice A0 l0.length c0, .int .i64 a1] w fun e w' => ∃ v0_ : Value, e = .returned v0_ ∧ Kd.S k46 46 w' w.heap.size (fun _ => True) v0_ t1 ∧ Below w.heap.size w w' := by
 rcases hq with rfl | ⟨rfl, hl⟩ | ⟨rfl, hl, hj⟩
 ·go_enter Try.func8, Try.ntmps8
  go_wp2_with (first
   | (go_at_call 32; refine (impl_copyExts.calls k A0 c0 l0 t1 _ hr0 hc0 h1).mono ?_; rintro e w1 ⟨v, rfl, hs, hb1⟩)
   | (go_at_call 14; refine (impl_GreaseTag.calls k a1 t2 _ h2).mono ?_; rintro e w2 ⟨rfl, hb2⟩)
   | (go_at_call 16; refine (impl_AreExts.calls k A0 c0 l0 _ _ (Kd.C_below (Kd.C_below hr0 hb1) hb2) hc0 h3).mono ?_; rintro e w3 ⟨rfl, hb3⟩))
  go_ret
  exact ⟨v, rfl, Kd.S_below (Kd.S_below hs hb2) hb3, below_step (below_step hb1 hb2) hb3⟩
 ·go_enter Try.func8, Try.ntmps8
  go_wp2_with (first
   | (go_at_call 32; refine (impl_copyExts.calls k A0 c0 l0 t1 _ hr0 hc0 h1).mono ?_; rintro e w1 ⟨v, rfl, hs, hb1⟩)
   | (go_at_call 14; refine (impl_GreaseTag.calls k a1 t2 _ h2).mono ?_; rintro e w2 ⟨rfl, hb2⟩)
   | (go_at_call 16; refine (impl_AreExts.calls k A0 c0 l0 _ _ (Kd.C_below (Kd.C_below hr0 hb1) hb2) hc0 h3).mono ?_; rintro e w3 ⟨rfl, hb3⟩))
  go_ret
  exact ⟨v, rfl, Kd.S_below (Kd.S_below hs hb2) hb3, below_step (below_step hb1 hb2) hb3⟩
 ·go_enter Try.func8, Try.ntmps8
  go_wp2_with (first
   | (go_at_call 32; refine (impl_copyExts.calls k A0 c0 l0 t1 _ hr0 hc0 h1).mono ?_; rintro e w1 ⟨v, rfl, hs, hb1⟩)
   | (go_at_call 14; refine (impl_GreaseTag.calls k a1 t2 _ h2).mono ?_; rintro e w2 ⟨rfl, hb2⟩)
   | (go_at_call 16; refine (impl_AreExts.calls k A0 c0 l0 _ _ (Kd.C_below (Kd.C_below hr0 hb1) hb2) hc0 h3).mono ?_; rintro e w3 ⟨rfl, hb3⟩)
   | (go_at_call 20; refine (impl_ExtOf.calls A0 c0 l0 t2 _ _ (Kd.C_below (Kd.C_below (Kd.C_below hr0 hb1) hb2) hb3) hc0 h4).mono ?_; rintro e w4 ⟨rfl, hb4⟩))
  go_ret
  exact ⟨v, rfl, Kd.S_below (Kd.S_below (Kd.S_below hs hb2) hb3) hb4, below_step (below_step (below_step hb1 hb2) hb3) hb4⟩

set_option maxHeartbeats 4000000 in
set_option maxRecDepth 100000 in
theorem ag_full (k : Nat) (A0 : Option Addr) (c0 : Nat) (l0 : List S46) (a1 : Int) (t1 : List S46) (t2 : Int) (w : World) (hr0 : Kd.C k46 w A0 l0.length l0) (hc0 : l0.length ≤ c0)
  (h1 : impl_copyExts.f k l0 = some t1) (h2 : impl_GreaseTag.f k a1 = some t2) (h3 : impl_AreExts.f k l0 = some true) (j : Int) (h4 : impl_ExtOf.f l0 t2 = some j) (hl : ¬ (l0.length : Int) = 6) (hj : j < 0)
  (p : Int) (c i : Nat) (h5 : impl_PickOf.f k a1 3 256 = some p) (h6 : impl_PickOf.f k a1 2 3 = some (c : Int)) (h7 : impl_PickOf.f k a1 1 (wrap64 ((l0.length : Int) + 1)) = some (i : Int)) (hc : c ≤ 2) (hi : i ≤ t1.length) (hn : t1.length < 4398046511103) :
  Calls Try.prog 8 #[.slice A0 l0.length c0, .int .i64 a1] w fun e w' => ∃ v0_ : Value, e = .returned v0_ ∧ Kd.S k46 46 w' w.heap.size (fun _ => True) v0_ (t1.take i ++ [⟨t2, List.replicate c p⟩] ++ t1.drop i) ∧ Below w.heap.size w w' := by
 have hj' : (0 ≤ j) = False := eq_false (by omega)
 go_enter Try.func8, Try.ntmps8
 go_wp2_with (first
  | (go_at_call 32; refine (impl_copyExts.calls k A0 c0 l0 t1 _ hr0 hc0 h1).mono ?_; rintro e w1 ⟨v, rfl, hs, hb1⟩)
  | (go_at_call 14; refine (impl_GreaseTag.calls k a1 t2 _ h2).mono ?_; rintro e w2 ⟨rfl, hb2⟩)
  | (go_at_call 16; refine (impl_AreExts.calls k A0 c0 l0 _ _ (Kd.C_below (Kd.C_below hr0 hb1) hb2) hc0 h3).mono ?_; rintro e w3 ⟨rfl, hb3⟩)
  | (go_at_call 20; refine (impl_ExtOf.calls A0 c0 l0 t2 _ _ (Kd.C_below (Kd.C_below (Kd.C_below hr0 hb1) hb2) hb3) hc0 h4).mono ?_; rintro e w4 ⟨rfl, hb4⟩)
  | (go_at_call 34; with_reducible refine (impl_PickOf.calls k a1 3 256 p _ h5).mono ?_; rintro e w5 ⟨rfl, hb5⟩)
  | (go_at_call 34; with_reducible refine (impl_PickOf.calls k a1 2 3 c _ h6).mono ?_; rintro e w6 ⟨rfl, hb6⟩; have hxb : w6.heap[w5.heap.size]? = some (.cells #[.int .i64 p] 3 (0, 0)) := (hb6.block w5.heap.size (by simp)).trans (heap_alloc_new w5 _))
  | (go_at_call 33; with_reducible refine (rep c hc p w5.heap.size w6 hxb).mono ?_; rintro e w7 ⟨vr, rfl, hR, hb7⟩; obtain ⟨A, cc, rfl⟩ := Kd.R_slice hR; rw [List.length_replicate] at hR)
  | (go_at_call 34; with_reducible refine (impl_PickOf.calls k a1 1 (wrap64 ((l0.length : Int) + 1)) i _ h7).mono ?_; rintro e w8 ⟨rfl, hb8⟩))
 have B15 : Below w1.heap.size w1 w5 := below_step (below_step (below_step hb2 hb3) hb4) hb5
 have B18 : Below w1.heap.size w1 w8 := below_step (below_step (below_step (below_alloc B15 _) hb6) hb7) hb8
 have B1W : Below w1.heap.size w1 (w8.alloc (.cells #[.int .i64 t2, .slice A c cc] 46)) := below_alloc B18 _
 have B16 : w1.heap.size ≤ w6.heap.size := below_size (below_step (below_alloc B15 _) hb6)
 have hM : k46.M (w8.alloc (.cells #[.int .i64 t2, .slice A c cc] 46)) w1.heap.size (fun _ => True) ⟨t2, List.replicate c p⟩ [.int .i64 t2, .slice A c cc] :=
  k46_mkM _ _ _ _ (Kd.R_lower (Kd.R_below (Kd.R_below hR hb8) (below_alloc (Below.refl _ _) _)) B16)
 have hbase : w.heap.size ≤ w1.heap.size := below_size hb1
 have hvo : ∀ k, v.ownBlock = some k → w.heap.size ≤ k := by
  obtain ⟨inner, ho⟩ := Kd.R_own (Kd.S_R hs)
  exact fun k hk => own_base ho k hk
 refine (ins_calls hs B1W hM (heap_alloc_new w8 _) (below_size B18) hbase hi hn).mono ?_
 rintro e w' ⟨v', rfl, hS', hg⟩
 have hB' : Below w.heap.size w w' := Below.grown (below_step hb1 B1W) hg (Nat.le_trans hbase (below_size B1W)) hvo
 go_wp2
 go_ret
 exact ⟨v', rfl, hS', hB'⟩

def impl_AddGrease.f (k : Nat) (l0 : List (S46)) (a1 : Int) : Option (List (S46)) := (impl_copyExts.f k l0).bind fun t1 => (impl_GreaseTag.f k a1).bind fun t2 => (impl_AreExts.f k l0).bind fun t3 => (impl_ExtOf.f l0 t2).bind fun j => if t3 = false ∨ (l0.length : Int) = 6 ∨ 0 ≤ j then some t1 else (impl_PickOf.f k a1 3 256).bind fun p => (impl_PickOf.f k a1 2 3).bind fun c => (impl_PickOf.f k a1 1 (wrap64 ((l0.length : Int) + 1))).bind fun i => if (0 ≤ c ∧ c ≤ 2) ∧ (0 ≤ i ∧ i ≤ (t1.length : Int)) ∧ t1.length < 4398046511103 then some (t1.take i.toNat ++ [(⟨t2, List.replicate c.toNat p⟩ : S46)] ++ t1.drop i.toNat) else none
theorem impl_AddGrease.mono : ∀ a0 a1 k, LeO (impl_AddGrease.f k a0 a1) (impl_AddGrease.f (k + 1) a0 a1) := by
 intro a0 a1 k
 unfold impl_AddGrease.f
 repeat' first
  | (with_reducible first | exact impl_copyExts.mono _ _ | exact impl_GreaseTag.mono _ _ | exact impl_AreExts.mono _ _ | exact impl_PickOf.mono _ _ _ _ | exact LeO.refl _ | exact LeO.none _ | refine LeO.ite ?_ ?_ | refine LeO.bind ?_ (fun _ => ?_))
theorem impl_AddGrease.calls (k : Nat) (A0 : Option Addr) (c0 : Nat) (l0 : List (S46)) (a1 : Int) (r : List (S46)) (w : World) (hr0 : Kd.C k46 w A0 l0.length l0) (hc0 : l0.length ≤ c0) (h : impl_AddGrease.f k l0 a1 = some r) :
 Calls Try.prog 8 #[.slice A0 l0.length c0, .int .i64 a1] w fun e w' => ∃ v0_ : Value, e = .returned (v0_) ∧ Kd.S k46 46 w' w.heap.size (fun _ => True) v0_ r ∧ Below w.heap.size w w' := by
 unfold impl_AddGrease.f at h
 obtain ⟨t1, h1, h⟩ := Option.bind_eq_some_iff.1 h
 obtain ⟨t2, h2, h⟩ := Option.bind_eq_some_iff.1 h
 obtain ⟨t3, h3, h⟩ := Option.bind_eq_some_iff.1 h
 obtain ⟨j, h4, h⟩ := Option.bind_eq_some_iff.1 h
 split at h
 ·rename_i hq
  injection h with h
  subst h
  refine ag_no k A0 c0 l0 a1 t1 t2 t3 w hr0 hc0 h1 h2 h3 j h4 ?_
  cases t3
  ·exact .inl rfl
  ·rcases hq with hq | hq | hq
   ·cases hq
   ·exact .inr (.inl ⟨rfl, hq⟩)
   ·by_cases hl : (l0.length : Int) = 6
    ·exact .inr (.inl ⟨rfl, hl⟩)
    ·exact .inr (.inr ⟨rfl, hl, hq⟩)
 ·rename_i hq
  obtain ⟨p, h5, h⟩ := Option.bind_eq_some_iff.1 h
  obtain ⟨c, h6, h⟩ := Option.bind_eq_some_iff.1 h
  obtain ⟨i, h7, h⟩ := Option.bind_eq_some_iff.1 h
  split at h
  ·rename_i hq2
   obtain ⟨⟨hc1, hc2⟩, ⟨hi1, hi2⟩, hn⟩ := hq2
   injection h with h
   subst h
   have ht3 : t3 = true := by
    cases t3
    ·exact absurd (.inl rfl) hq
    ·rfl
   subst ht3
   obtain ⟨c, rfl⟩ := Int.eq_ofNat_of_zero_le hc1
   obtain ⟨i, rfl⟩ := Int.eq_ofNat_of_zero_le hi1
   exact ag_full k A0 c0 l0 a1 t1 t2 w hr0 hc0 h1 h2 h3 j h4 (fun hl => hq (.inr (.inl hl))) (by have : ¬ 0 ≤ j := fun hj => hq (.inr (.inr hj)); omega) p c i h5 h6 h7 (by omega) (by omega) hn
  ·cases h
end

/-! ### laws_big: function 12 -/
def laws_big.f (l0 : List Int) : Option (Bool) := some (decide ((l0.length : Int) > 1048576))
set_option maxHeartbeats 8000000 in
set_option maxRecDepth 100000 in
theorem laws_big.calls (A0 : Option Addr) (c0 : Nat) (l0 : List Int) (r : Bool) (w : World) (hr0 : Kd.C (Kd.int .u8) w A0 l0.length l0) (hc0 : l0.length ≤ c0) (h : laws_big.f l0 = some r) :
  Calls Try.prog 12 #[.slice A0 l0.length c0] w fun e w' => e = .returned (.bool r) ∧ Drawn0 w w' := by
 have HR0 := Aside0.mk hr0
 have HC0 := Aside0.mk hc0
 clear hr0 hc0
 have H : (some (decide ((l0.length : Int) > 1048576))) = some r := h
 clear h
 obtain rfl := Option.some.inj H
 go_enter Try.func12, Try.ntmps12
 go_wp2
 go_ret
 exact ⟨by first | rfl | (simp; done) | (simp [*]; done), by repeat (first | exact Drawn0.refl _ | apply Drawn0.step)⟩

/-- A state of type 75 at block g of W; what its slices lead to came in by w0. -/
def IsS75 (w0 W : World) (g : Nat) (f0 : List Int) (f1 : Int) (f2 : Int) : Prop := ∃ A0 c0, W.heap[g]? = some (.cells #[.slice A0 f0.length c0, .int .i64 f1, .int .i64 f2] 75 (0, 0)) ∧ w0.heap.size ≤ g ∧ Kd.C (Kd.int .u8) w0 A0 f0.length f0
theorem IsS75.grown {w0 W : World} {g : Nat} {f0 : List Int} {f1 : Int} {f2 : Int} {W1 : World} {row : Option Nat} (h : IsS75 w0 W g f0 f1 f2) (hw : W.grownBy W1 row) (hne : some g ≠ row) : IsS75 w0 W1 g f0 f1 f2 := by
 obtain ⟨A0, c0, hb, hg, hr0⟩ := h
 exact ⟨A0, c0, blk_grown hb hw hne, hg, hr0⟩
theorem IsS75.own_neN {w0 W : World} {g : Nat} {f0 : List Int} {f1 : Int} {f2 : Int} {α : Type} {d : Kd α} {e : Nat} {base : Nat} {ok : Nat → Prop} {v : Value} {xs : List α} (h : IsS75 w0 W g f0 f1 f2) (ho : Kd.N d e W base ok v xs) (ht : e ≠ 75) : some g ≠ v.ownBlock := by
 obtain ⟨A0, c0, hb, hg, hr0⟩ := h
 exact Kd.N_ne ho hb ht
theorem IsS75.fresh {w0 W : World} {g : Nat} {f0 : List Int} {f1 : Int} {f2 : Int} (h : IsS75 w0 W g f0 f1 f2) : ∀ k, W.heap.size ≤ k → k ≠ g := by
 obtain ⟨A0, c0, hb, hg, hr0⟩ := h
 exact Kd.freshB hb
theorem IsS75.kept {w0 W : World} {g : Nat} {f0 : List Int} {f1 : Int} {f2 : Int} {W1 : World} {S : Nat → Prop} (h : IsS75 w0 W g f0 f1 f2) (hk : Kept W W1 S) (hne : ¬ S g) : IsS75 w0 W1 g f0 f1 f2 := by
 obtain ⟨A0, c0, hb, hg, hr0⟩ := h
 exact ⟨A0, c0, blk_kept hb hk hne, hg, hr0⟩
theorem IsS75.below {w0 W : World} {g : Nat} {f0 : List Int} {f1 : Int} {f2 : Int} {W1 : World} (h : IsS75 w0 W g f0 f1 f2) (hw : Below W.heap.size W W1) : IsS75 w0 W1 g f0 f1 f2 := h.grown (grown_of_below hw none) (by simp)
theorem IsS75.alloc {w0 W : World} {g : Nat} {f0 : List Int} {f1 : Int} {f2 : Int} (h : IsS75 w0 W g f0 f1 f2) (o : Obj) : IsS75 w0 (W.alloc o) g f0 f1 f2 := h.below (below_alloc (Below.refl _ _) o)
theorem IsS75.drewN {w0 W : World} {g : Nat} {f0 : List Int} {f1 : Int} {f2 : Int} (h : IsS75 w0 W g f0 f1 f2) (m : Nat) : IsS75 w0 (W.drewN m) g f0 f1 f2 := h
theorem IsS75.drew {w0 W : World} {g : Nat} {f0 : List Int} {f1 : Int} {f2 : Int} (h : IsS75 w0 W g f0 f1 f2) : IsS75 w0 W.drew g f0 f1 f2 := h
theorem IsS75.at_ {w0 W : World} {g : Nat} {f0 : List Int} {f1 : Int} {f2 : Int} {w' : World} {m : Nat} (hq : W.drewN m = w') (h : IsS75 w0 W g f0 f1 f2) : IsS75 w0 w' g f0 f1 f2 := by subst hq; exact IsS75.drewN h m
theorem IsS75.apart {w0 W : World} {g : Nat} {f0 : List Int} {f1 : Int} {f2 : Int} {α : Type} {d : Kd α} {e : Nat} {base : Nat} {ok : Nat → Prop} {v : Value} {xs : List α} (h : IsS75 w0 W g f0 f1 f2) (ho : d.R e W base ok v xs) (ht : ∀ q, q ∈ e :: d.E → q ≠ 75) : d.R e W base (fun k => ok k ∧ k ≠ g) v xs := by
 obtain ⟨A0, c0, hb, hg, hr0⟩ := h
 exact Kd.R_types ho hb ht
theorem IsS75.own_ne {w0 W : World} {g : Nat} {f0 : List Int} {f1 : Int} {f2 : Int} {α : Type} {d : Kd α} {e : Nat} {base : Nat} {ok : Nat → Prop} {v : Value} {xs : List α} (h : IsS75 w0 W g f0 f1 f2) (ho : d.R e W base ok v xs) (ht : e ≠ 75) : some g ≠ v.ownBlock := by
 obtain ⟨A0, c0, hb, hg, hr0⟩ := h
 exact Kd.R_ne ho hb ht
theorem IsS75.apartQ {w0 W : World} {g : Nat} {f0 : List Int} {f1 : Int} {f2 : Int} {α : Type} {d : Kd α} {e : Nat} {base : Nat} {ok : Nat → Prop} {v : Value} {xs : List α} (h : IsS75 w0 W g f0 f1 f2) (ho : d.Q e W base ok v xs) (ht : ∀ q, q ∈ e :: d.E → q ≠ 75) : d.Q e W base (fun k => ok k ∧ k ≠ g) v xs := by
 obtain ⟨A0, c0, hb, hg, hr0⟩ := h
 exact Kd.Q_types ho hb ht
theorem IsS75.own_neQ {w0 W : World} {g : Nat} {f0 : List Int} {f1 : Int} {f2 : Int} {α : Type} {d : Kd α} {e : Nat} {base : Nat} {ok : Nat → Prop} {v : Value} {xs : List α} (h : IsS75 w0 W g f0 f1 f2) (ho : d.Q e W base ok v xs) (ht : e ≠ 75) : some g ≠ v.ownBlock := by
 obtain ⟨A0, c0, hb, hg, hr0⟩ := h
 exact Kd.Q_ne ho hb ht
theorem IsS75.apartS {w0 W : World} {g : Nat} {f0 : List Int} {f1 : Int} {f2 : Int} {α : Type} {d : Kd α} {e : Nat} {base : Nat} {ok : Nat → Prop} {v : Value} {xs : List α} (h : IsS75 w0 W g f0 f1 f2) (ho : d.S e W base ok v xs) (ht : ∀ q, q ∈ e :: d.E → q ≠ 75) : d.S e W base (fun k => ok k ∧ k ≠ g) v xs := by
 obtain ⟨A0, c0, hb, hg, hr0⟩ := h
 exact Kd.S_types ho hb ht
theorem IsS75.own_neS {w0 W : World} {g : Nat} {f0 : List Int} {f1 : Int} {f2 : Int} {α : Type} {d : Kd α} {e : Nat} {base : Nat} {ok : Nat → Prop} {v : Value} {xs : List α} (h : IsS75 w0 W g f0 f1 f2) (ho : d.S e W base ok v xs) (ht : e ≠ 75) : some g ≠ v.ownBlock := by
 obtain ⟨A0, c0, hb, hg, hr0⟩ := h
 exact Kd.S_ne ho hb ht
theorem IsS75.lt {w0 W : World} {g : Nat} {f0 : List Int} {f1 : Int} {f2 : Int} (h : IsS75 w0 W g f0 f1 f2) : g < W.heap.size := by
 obtain ⟨A0, c0, hb, hg, hr0⟩ := h
 exact blk_lt hb
theorem IsS75.ge {w0 W : World} {g : Nat} {f0 : List Int} {f1 : Int} {f2 : Int} (h : IsS75 w0 W g f0 f1 f2) : w0.heap.size ≤ g := by
 obtain ⟨A0, c0, hb, hg, hr0⟩ := h
 exact hg
theorem IsS75.ne_blk {w0 W : World} {g : Nat} {f0 : List Int} {f1 : Int} {f2 : Int} {a : Nat} {cs : Array Value} {t : TypeId} {fr : Nat × Nat} (h : IsS75 w0 W g f0 f1 f2) (hb2 : W.heap[a]? = some (.cells cs t fr)) (ht : t ≠ 75) : g ≠ a := by
 obtain ⟨A0, c0, hb, hg, hr0⟩ := h
 rintro rfl
 rw [hb] at hb2
 injection hb2 with hb2
 injection hb2 with _ ht2
 exact ht ht2.symm
theorem IsS75.far {w0 W : World} {g : Nat} {f0 : List Int} {f1 : Int} {f2 : Int} {p : Addr} (h : IsS75 w0 W g f0 f1 f2) (hne : g ≠ p.block) (u : Value) : IsS75 w0 (W.setCell p u) g f0 f1 f2 := by
 obtain ⟨A0, c0, hb, hg, hr0⟩ := h
 exact ⟨A0, c0, blk_far hb hne u, hg, hr0⟩
theorem cellS75_0 {W : World} {g : Nat} {A0 : Option Addr} {c0 : Nat} {f0 : List Int} {f1 : Int} {f2 : Int} (h : W.heap[g]? = some (.cells #[.slice A0 f0.length c0, .int .i64 f1, .int .i64 f2] 75 (0, 0))) : W.cell? ⟨g, 0, none⟩ = some (.slice A0 f0.length c0) := (blk_cell h 0).trans rfl
theorem cellS75_1 {W : World} {g : Nat} {A0 : Option Addr} {c0 : Nat} {f0 : List Int} {f1 : Int} {f2 : Int} (h : W.heap[g]? = some (.cells #[.slice A0 f0.length c0, .int .i64 f1, .int .i64 f2] 75 (0, 0))) : W.cell? ⟨g, 1, none⟩ = some (.int .i64 f1) := (blk_cell h 1).trans rfl
theorem IsS75.set_1 {w0 W : World} {g : Nat} {f0 : List Int} {f1 : Int} {f2 : Int} (h : IsS75 w0 W g f0 f1 f2) (x : Int) : IsS75 w0 (W.setCell ⟨g, 1, none⟩ (.int .i64 x)) g f0 x f2 := by
 obtain ⟨A0, c0, hb, hg, hr0⟩ := h
 exact ⟨A0, c0, by simpa using blk_set hb 1 (.int .i64 x), hg, hr0⟩
theorem cellS75_2 {W : World} {g : Nat} {A0 : Option Addr} {c0 : Nat} {f0 : List Int} {f1 : Int} {f2 : Int} (h : W.heap[g]? = some (.cells #[.slice A0 f0.length c0, .int .i64 f1, .int .i64 f2] 75 (0, 0))) : W.cell? ⟨g, 2, none⟩ = some (.int .i64 f2) := (blk_cell h 2).trans rfl
theorem IsS75.set_2 {w0 W : World} {g : Nat} {f0 : List Int} {f1 : Int} {f2 : Int} (h : IsS75 w0 W g f0 f1 f2) (x : Int) : IsS75 w0 (W.setCell ⟨g, 2, none⟩ (.int .i64 x)) g f0 f1 x := by
 obtain ⟨A0, c0, hb, hg, hr0⟩ := h
 exact ⟨A0, c0, by simpa using blk_set hb 2 (.int .i64 x), hg, hr0⟩
theorem IsS75.new (w0 W : World) (A0 : Option Addr) (c0 : Nat) (f0 : List Int) (f1 : Int) (f2 : Int) (hB : Below w0.heap.size w0 W) (hr0 : Kd.C (Kd.int .u8) w0 A0 f0.length f0) : IsS75 w0 (W.alloc (.cells #[.slice A0 f0.length c0, .int .i64 f1, .int .i64 f2] 75)) W.heap.size f0 f1 f2 := ⟨A0, c0, by simpa using heap_alloc_new W _, hB.size, hr0⟩

/-! ### spec_l1New: function 39 -/
def spec_l1New.l0 : Nat → List Int → Int → Int → Option (List Int × Int × Int)
 | 0, _, _, _ => none
 | k + 1, x0, x3, x4 => if x4 < (x0.length : Int) then (if x4 < 4000 then (if 0 ≤ x4 then (spec_l1New.l0 k x0 (Go.bits .and .i64 (wrap64 ((wrap64 ((wrap64 (x3 * 137)) + (wrap64 (rd x0 x4)))) + 11)) 1073741823) (wrap64 (x4 + 1))) else (none)) else (some (x0, 0, x3))) else (some (x0, 0, x3))
def spec_l1New.f (k : Nat) (l0 : List Int) : Option (List Int × Int × Int) := spec_l1New.l0 k l0 (wrap64 (193017 + (l0.length : Int))) 0
theorem spec_l1New.mono_l : ∀ k, (∀ y0 y1 y2, LeO (spec_l1New.l0 k y0 y1 y2) (spec_l1New.l0 (k + 1) y0 y1 y2))
 | 0 => fun _ _ _ r h => by simp [spec_l1New.l0] at h
 | k + 1 => by
  have ih0 := spec_l1New.mono_l k
  ·intro y0 y1 y2
   unfold spec_l1New.l0
   repeat' first
   | (with_reducible exact ih0 _ _ _)
   | (with_reducible exact LeO.refl _)
   | (with_reducible exact LeO.none _)
   | (with_reducible refine LeO.ite ?_ ?_)
   | (with_reducible refine LeO.bind ?_ (fun _ => ?_))
   | exact ih0 _ _ _
   | exact LeO.none _
   | refine LeO.ite ?_ ?_
   | refine LeO.bind ?_ (fun _ => ?_)
theorem spec_l1New.mono : ∀ a0 k, LeO (spec_l1New.f k a0) (spec_l1New.f (k + 1) a0) := by
 intro a0 k
 have ih0 := spec_l1New.mono_l k
 unfold spec_l1New.f
 repeat' first
   | (with_reducible exact ih0 _ _ _)
   | (with_reducible exact LeO.refl _)
   | (with_reducible exact LeO.none _)
   | (with_reducible refine LeO.ite ?_ ?_)
   | (with_reducible refine LeO.bind ?_ (fun _ => ?_))
   | exact ih0 _ _ _
   | exact LeO.none _
   | refine LeO.ite ?_ ?_
   | refine LeO.bind ?_ (fun _ => ?_)
set_option maxHeartbeats 8000000 in
set_option maxRecDepth 100000 in
theorem spec_l1New.calls (k : Nat) (A0 : Option Addr) (c0 : Nat) (l0 : List Int) (r1 : List Int) (r2 : Int) (r3 : Int) (w0 w : World) (hB : Below w0.heap.size w0 w) (hr0 : Kd.C (Kd.int .u8) w0 A0 l0.length l0) (hc0 : l0.length ≤ c0) (h : spec_l1New.f k l0 = some (r1, r2, r3)) :
  Calls Try.prog 39 #[.slice A0 l0.length c0] w fun e w' => ∃ g_ : Nat, e = .returned (.pointer (some ⟨g_, 0, none⟩)) ∧ IsS75 w0 w' g_ r1 r2 r3 ∧ Below w0.heap.size w0 w' ∧ Below w.heap.size w w' := by
 have hu75 := Try.underlying75
 have HR0 := Aside0.mk hr0
 have HC0 := Aside0.mk hc0
 clear hr0 hc0
 have HBW := Aside0.mk (Below.refl w.heap.size w)
 have HW0 := Aside0.mk hB.size
 have HB := Aside0.mk hB
 clear hB
 have H : (spec_l1New.l0 k l0 (wrap64 (193017 + (l0.length : Int))) 0) = some (r1, r2, r3) := h
 clear h
 have H' := Aside0.mk H
 clear H
 go_enter Try.func39, Try.ntmps39
 go_wp2
 go_loopg [3, 4] k (fun kq v3 v4 w' => ∃ (x3_1 : Int) (x4_1 : Int), v3 = .int .i64 x3_1 ∧ v4 = .int .i64 x4_1 ∧ Aside0 (spec_l1New.l0 kq l0 x3_1 x4_1 = some (r1, r2, r3)) ∧ Aside0 (kq ≤ k) ∧ Aside0 (Below w0.heap.size w0 w') ∧ Aside0 (Below w.heap.size w w'))
 case atStart => exact ⟨(wrap64 (193017 + (l0.length : Int))), (0), zF, zF, H', ⟨Nat.le_refl _⟩, ⟨zB HB⟩, ⟨zB HBW⟩⟩
 case round =>
  clear H'
  obtain ⟨x3_1, x4_1, rfl, rfl, HA, HK1, HB, HBW⟩ := hrel
  cases gk with
  | zero => exact absurd HA.out (by simp [spec_l1New.l0])
  | succ k1 =>
   have H := HA.out
   clear HA
   simp only [spec_l1New.l0] at H
   by_cases c2 : x4_1 < (l0.length : Int)
   ·rw [if_pos c2] at H
    have c2b0 : decide (x4_1 < (l0.length : Int)) = true := decide_eq_true c2
    clear c2
    by_cases c3 : x4_1 < 4000
    ·rw [if_pos c3] at H
     have c3b0 : decide (x4_1 < 4000) = true := decide_eq_true c3
     clear c3
     obtain ⟨c4, H⟩ := ifS H
     have c4b0 : decide (0 ≤ x4_1) = true := decide_eq_true c4
     clear c4
     have H' := Aside0.mk H
     clear H
     have p149 : 0 ≤ (x4_1 : Int) := zD
     have q149 : x4_1 < (l0.length : Int) := zD
     obtain ⟨ad149, e149, hx149_0⟩ := Kd.at_int HR0.out x4_1 p149 q149
     cases e149
     replace hx149_0 := pw_cell_below HB.out hx149_0
     replace p149 := eq_true p149
     replace q149 := eq_true q149
     go_wp2
     go_roundg k1
     case measure => have := HK1.out; omega
     case rel => exact ⟨(Go.bits .and .i64 (wrap64 ((wrap64 ((wrap64 (x3_1 * 137)) + (wrap64 (rd l0 x4_1)))) + 11)) 1073741823), (wrap64 (x4_1 + 1)), zF, zF, H', ⟨by have := HK1.out; omega⟩, ⟨zB HB⟩, ⟨zB HBW⟩⟩
    ·rw [if_neg c3] at H
     have c3b0 : decide (x4_1 < 4000) = false := decide_eq_false c3
     clear c3
     simp only [Option.some.injEq, Prod.mk.injEq] at H
     obtain ⟨rfl, rfl, rfl⟩ := H
     go_wp2_with (first | ((with_reducible refine gate_dst (N := 31) rfl ?_); refine box_event ?hg (N := 31) ?hd (cs := #[.slice A0 l0.length c0, .int .i64 0, .int .i64 x3_1]) (t := 75) ?hr ?_; (case hd => rfl); (case hg => rfl); (case hr => first | (go_simp; done) | (go_simp; rfl)); intro gb150 hg w5 hbox hb; replace HB := bS HB hb; have BK150 := Aside0.mk (hbox); have GW150 := gS HBW hg; have GE150 := Aside0.mk ((Nat.le_trans HW0.out (by rw [hg]; exact (below_size (zB HBW)) : w.heap.size ≤ gb150) : w0.heap.size ≤ gb150)); replace HBW := Aside0.mk (below_step HBW.out hb); clear hb hbox hg))
     go_ret
     exact ⟨_, rfl, (show IsS75 w0 _ gb150 l0 0 x3_1 from ⟨_, _, by (with_reducible repeat (first | refine blk_drewN ?_ _ | refine blk_drew ?_ | refine blk_alloc ?_ _)); exact BK150.out, GE150.out, HR0.out⟩), zB HB, zB HBW⟩
   ·rw [if_neg c2] at H
    have c2b0 : decide (x4_1 < (l0.length : Int)) = false := decide_eq_false c2
    clear c2
    simp only [Option.some.injEq, Prod.mk.injEq] at H
    obtain ⟨rfl, rfl, rfl⟩ := H
    go_wp2_with (first | ((with_reducible refine gate_dst (N := 31) rfl ?_); refine box_event ?hg (N := 31) ?hd (cs := #[.slice A0 l0.length c0, .int .i64 0, .int .i64 x3_1]) (t := 75) ?hr ?_; (case hd => rfl); (case hg => rfl); (case hr => first | (go_simp; done) | (go_simp; rfl)); intro gb151 hg w6 hbox hb; replace HB := bS HB hb; have BK151 := Aside0.mk (hbox); have GW151 := gS HBW hg; have GE151 := Aside0.mk ((Nat.le_trans HW0.out (by rw [hg]; exact (below_size (zB HBW)) : w.heap.size ≤ gb151) : w0.heap.size ≤ gb151)); replace HBW := Aside0.mk (below_step HBW.out hb); clear hb hbox hg))
    go_ret
    exact ⟨_, rfl, (show IsS75 w0 _ gb151 l0 0 x3_1 from ⟨_, _, by (with_reducible repeat (first | refine blk_drewN ?_ _ | refine blk_drew ?_ | refine blk_alloc ?_ _)); exact BK151.out, GE151.out, HR0.out⟩), zB HB, zB HBW⟩

end Go.Proofs.Ytbahcefcoplmpaa.PFnGrease
