-- WRITTEN by pp.py, this session's own wrapper around the print; not trusted: Lean checks it
import Derived.Test.YtljoejddjendbaaPFnExtsx0
namespace Go.Proofs.Ytljoejddjendbaa.PFnExts
open Go.RowKit Go.Proofs.Ytljoejddjendbaa.Hw Go.Proofs.YtljoejddjendbaaW.PrintWords Go.Proofs.YtljoejddjendbaaW.PrintLast Go.Proofs.YtljoejddjendbaaW.PrintMore
attribute [local go_sem] max2_int min2_int max_two min_two max_three min_three max_four min_four   -- for this text's walks alone
set_option linter.unusedVariables false
set_option linter.unusedSimpArgs false
set_option linter.unusedSectionVars false

/-- What impl_keptExts is handed. -/
class KEEP_impl_keptExts where
 f : Int → Option (Bool)
section
variable [inst_ : KEEP_impl_keptExts]
/-! ### impl_keptExts: function 72 -/
def impl_keptExts.l0 : Nat → List (S61) → List (S61) → Int → Int → Option ((List (S61)))
 | 0, _, _, _, _ => none
 | k + 1, x5, x9, x10, x11 => if x11 < x10 then (if 0 ≤ x11 then (if x11 < (x9.length : Int) then ((KEEP_impl_keptExts.f ((rd_T61 x9 x11).f0)).bind fun t137 => (if t137 = true then ((some (([] : List Int) : List Int)).bind fun y138 => (if y138.length + ((rd_T61 x9 x11).f1).length < 17592186044416 then (if x5.length < 4398046511104 then (impl_keptExts.l0 k (x5 ++ [(⟨(rd_T61 x9 x11).f0, (y138 ++ ((rd_T61 x9 x11).f1))⟩ : S61)]) x9 x10 (wrap64 (x11 + 1))) else (none)) else (none))) else (impl_keptExts.l0 k x5 x9 x10 (wrap64 (x11 + 1))))) else (none)) else (none)) else (some x5)
def impl_keptExts.f (k : Nat) (l0 : List (S61)) : Option ((List (S61))) := impl_keptExts.l0 k (([] : List (S61))) l0 (l0.length : Int) 0
theorem impl_keptExts.mono_l : ∀ k, (∀ y0 y1 y2 y3, LeO (impl_keptExts.l0 k y0 y1 y2 y3) (impl_keptExts.l0 (k + 1) y0 y1 y2 y3))
 | 0 => fun _ _ _ _ r h => by simp [impl_keptExts.l0] at h
 | k + 1 => by
  have ih0 := impl_keptExts.mono_l k
  ·intro y0 y1 y2 y3
   unfold impl_keptExts.l0
   repeat' first
   | (with_reducible exact ih0 _ _ _ _)
   | (with_reducible exact LeO.refl _)
   | (with_reducible exact LeO.none _)
   | (with_reducible refine LeO.ite ?_ ?_)
   | (with_reducible refine LeO.bind ?_ (fun _ => ?_))
   | exact ih0 _ _ _ _
   | exact LeO.none _
   | refine LeO.ite ?_ ?_
   | refine LeO.bind ?_ (fun _ => ?_)
theorem impl_keptExts.mono : ∀ a0 k, LeO (impl_keptExts.f k a0) (impl_keptExts.f (k + 1) a0) := by
 intro a0 k
 have ih0 := impl_keptExts.mono_l k
 unfold impl_keptExts.f
 repeat' first
   | (with_reducible exact ih0 _ _ _ _)
   | (with_reducible exact LeO.refl _)
   | (with_reducible exact LeO.none _)
   | (with_reducible refine LeO.ite ?_ ?_)
   | (with_reducible refine LeO.bind ?_ (fun _ => ?_))
   | exact ih0 _ _ _ _
   | exact LeO.none _
   | refine LeO.ite ?_ ?_
   | refine LeO.bind ?_ (fun _ => ?_)
def impl_keptExts.T6 : Bool × List (List Nat × List Nat) := (true, [([], []), ([], []), ([1], [1]), ([], []), ([], []), ([4], [4]), ([3, 5], [3, 5]), ([2, 6], [2, 6]), ([7], [7]), ([0, 8, 6], [0, 8]), ([9, 9, 0, 1, 2, 3, 4, 5, 6, 7, 8, 9], [0, 9])])
def impl_keptExts.B6 : List Nat := [0, 0, 2, 0, 0, 16, 56, 126, 254, 511, 1023]
theorem impl_keptExts.tab6 : rtab .any (opsOf Try.f72 6) = impl_keptExts.T6 := by kernel_rfl
theorem impl_keptExts.bits6 : waitsOk impl_keptExts.T6.2 impl_keptExts.B6 = true := by kernel_rfl
set_option maxHeartbeats 8000000 in
set_option maxRecDepth 100000 in
theorem impl_keptExts.calls (k : Nat) (A0 : Option Addr) (c0 : Nat) (l0 : List (S61)) (r : List (S61)) (w : World) (hr0 : Kd.C k61 w A0 l0.length l0) (hc0 : l0.length ≤ c0) {g_ : Nat} {fn_ : Func} {lb_ : Array Value} (hf_ : Try.prog.funcs[g_]? = some fn_) (hn_ : (fn_.name == "runtime.NumGoroutine") = false) (hbo_ : fn_.body.isSome = true) (hK_ : ∀ (a0 : Int) (r : Bool) (W : World), Below w.heap.size w W → KEEP_impl_keptExts.f a0 = some r → Calls Try.prog g_ (#[.int .i64 a0] ++ lb_) W fun e w' => e = .returned (.bool r) ∧ Drawn0 W w') (h : impl_keptExts.f k l0 = some r) :
  Calls Try.prog 72 #[.slice A0 l0.length c0, .func (.func g_) #[] lb_] w fun e w' => ∃ v0_ : Value, e = .returned (v0_) ∧ Kd.S k61 61 w' w.heap.size (fun _ => True) v0_ r ∧ Below w.heap.size w w' := by
 have HF_ := Aside0.mk hf_
 have HN_ := Aside0.mk hn_
 have HBO_ := Aside0.mk hbo_
 have HKEEP_ := Aside0.mk hK_
 clear hf_ hn_ hbo_ hK_
 have hu61 := Try.underlying61
 have HR0 := Aside0.mk hr0
 have HC0 := Aside0.mk hc0
 clear hr0 hc0
 have HB := Aside0.mk (Below.refl w.heap.size w)
 have H : (impl_keptExts.l0 k (([] : List (S61))) l0 (l0.length : Int) 0) = some r := h
 clear h
 obtain ⟨y132, hy132⟩ : ∃ y_ : List (S61), y_ = (([] : List (S61))) := ⟨_, rfl⟩
 replace H : (impl_keptExts.l0 k y132 l0 (l0.length : Int) 0) = some r := by first | (rw [hy132]; with_reducible exact H) | (have H2_ := (Option.bind_some _ _).symm.trans H; rw [hy132]; with_reducible exact H2_) | (have H2_ := (Option.bind_some _ _).symm.trans H; with_reducible exact H2_) | with_reducible exact H | (rw [hy132]; exact H) | exact H
 have Ny132 := Aside0.mk hy132
 clear hy132
 have H' := Aside0.mk H
 clear H
 go_enter Try.func72, Try.ntmps72
 go_wp2_with (first | ((with_reducible refine gate_dst (N := 8) rfl ?_); refine Kd.S_lit k61 _ 61 ?hg (N := 8) ?hd (xs := ([] : List (S61))) (inner := []) (ok := fun _ => True) (okp := fun _ => True) ?hr ?hp (fun _ hk => hk) trivial (Below.refl _ _) (Nat.le_refl _) (by simp) ?_; (case hd => rfl); (case hg => rfl); (case hr => first | (go_simp; done) | (go_simp; rfl)); (case hp => exact (Reps.none _ _)); intro v133 w2 ho3 hb hg_ hnew_; clear hg_ hnew_; (first | rw [← Ny132.out] at ho3 | (simp only [Int.reduceToNat] at ho3; rw [← Ny132.out] at ho3)); have n0_ := Aside0.mk (Kd.S_lower ho3 (below_size (zB HB))); have n1_ := bS HB hb; clear HB; have HO134 := n0_; have HB := n1_; clear n0_ n1_; clear hb ho3))
 go_loopg [5, 11] k (fun kq v5 v11 w' => ∃ (x5_1 : List (S61)) (x11_1 : Int), v11 = .int .i64 x11_1 ∧ Aside0 (impl_keptExts.l0 kq x5_1 l0 (l0.length : Int) x11_1 = some r) ∧ Aside0 (kq ≤ k) ∧ Aside0 (Kd.S k61 61 w' w.heap.size (fun _ => True) v5 x5_1) ∧ Aside0 (Below w.heap.size w w'))
 case atStart => exact ⟨(y132), (0), zF, H', ⟨Nat.le_refl _⟩, ⟨zS HO134⟩, ⟨zB HB⟩⟩
 case round =>
  clear H'
  try clear p2
  obtain ⟨x5_1, x11_1, rfl, HA, HK1, HO_5, HB⟩ := hrel
  cases gk with
  | zero => exact absurd HA.out (by simp [impl_keptExts.l0])
  | succ k1 =>
   have H := HA.out
   clear HA
   simp only [impl_keptExts.l0] at H
   by_cases c4 : x11_1 < (l0.length : Int)
   ·rw [if_pos c4] at H
    have c4b0 : decide (x11_1 < (l0.length : Int)) = true := decide_eq_true c4
    clear c4
    by_cases c5 : 0 ≤ x11_1
    ·rw [if_pos c5] at H
     have c5b0 : decide (0 ≤ x11_1) = true := decide_eq_true c5
     clear c5
     by_cases c6 : x11_1 < (l0.length : Int)
     ·rw [if_pos c6] at H
      have c6b0 : decide (x11_1 < (l0.length : Int)) = true := decide_eq_true c6
      clear c6
      replace H := Option.bind_eq_some_iff.mp H
      obtain ⟨t137, A70, H⟩ := H
      replace H : (if t137 = true then ((some (([] : List Int) : List Int)).bind fun y138 => (if y138.length + ((rd_T61 l0 x11_1).f1).length < 17592186044416 then (if x5_1.length < 4398046511104 then (impl_keptExts.l0 k1 (x5_1 ++ [(⟨(rd_T61 l0 x11_1).f0, (y138 ++ ((rd_T61 l0 x11_1).f1))⟩ : S61)]) l0 (l0.length : Int) (wrap64 (x11_1 + 1))) else (none)) else (none))) else (impl_keptExts.l0 k1 x5_1 l0 (l0.length : Int) (wrap64 (x11_1 + 1)))) = some r := H
      have A7 := Aside0.mk A70
      clear A70
      by_cases c8 : t137 = true
      ·subst c8
       have H1 : ((some (([] : List Int) : List Int)).bind fun y138 => (if y138.length + ((rd_T61 l0 x11_1).f1).length < 17592186044416 then (if x5_1.length < 4398046511104 then (impl_keptExts.l0 k1 (x5_1 ++ [(⟨(rd_T61 l0 x11_1).f0, (y138 ++ ((rd_T61 l0 x11_1).f1))⟩ : S61)]) l0 (l0.length : Int) (wrap64 (x11_1 + 1))) else (none)) else (none))) = some r := by rw [if_pos rfl] at H; exact H
       clear H
       have H := H1
       clear H1
       obtain ⟨y138, hy138⟩ : ∃ y_ : List Int, y_ = (([] : List Int)) := ⟨_, rfl⟩
       replace H : (if y138.length + ((rd_T61 l0 x11_1).f1).length < 17592186044416 then (if x5_1.length < 4398046511104 then (impl_keptExts.l0 k1 (x5_1 ++ [(⟨(rd_T61 l0 x11_1).f0, (y138 ++ ((rd_T61 l0 x11_1).f1))⟩ : S61)]) l0 (l0.length : Int) (wrap64 (x11_1 + 1))) else (none)) else (none)) = some r := by first | (rw [hy138]; with_reducible exact H) | (have H2_ := (Option.bind_some _ _).symm.trans H; rw [hy138]; with_reducible exact H2_) | (have H2_ := (Option.bind_some _ _).symm.trans H; with_reducible exact H2_) | with_reducible exact H | (rw [hy138]; exact H) | exact H
       have Ny138 := Aside0.mk hy138
       clear hy138
       by_cases c9 : y138.length + ((rd_T61 l0 x11_1).f1).length < 17592186044416
       ·rw [if_pos c9] at H
        have LMc9 := Aside0.mk c9
        clear c9
        obtain ⟨y141, hy141⟩ : ∃ y_ : List Int, y_ = (y138 ++ ((rd_T61 l0 x11_1).f1)) := ⟨_, rfl⟩
        replace H : (if x5_1.length < 4398046511104 then (impl_keptExts.l0 k1 (x5_1 ++ [(⟨(rd_T61 l0 x11_1).f0, y141⟩ : S61)]) l0 (l0.length : Int) (wrap64 (x11_1 + 1))) else (none)) = some r := by first | (rw [hy141]; with_reducible exact H) | (have H2_ := (Option.bind_some _ _).symm.trans H; rw [hy141]; with_reducible exact H2_) | (have H2_ := (Option.bind_some _ _).symm.trans H; with_reducible exact H2_) | with_reducible exact H | (rw [hy141]; exact H) | exact H
        have Ny141 := Aside0.mk hy141
        clear hy141
        by_cases c10 : x5_1.length < 4398046511104
        ·rw [if_pos c10] at H
         have LMc10 := Aside0.mk c10
         clear c10
         obtain ⟨y144, hy144⟩ : ∃ y_ : List (S61), y_ = (x5_1 ++ [(⟨(rd_T61 l0 x11_1).f0, y141⟩ : S61)]) := ⟨_, rfl⟩
         replace H : (impl_keptExts.l0 k1 y144 l0 (l0.length : Int) (wrap64 (x11_1 + 1))) = some r := by first | (rw [hy144]; with_reducible exact H) | (have H2_ := (Option.bind_some _ _).symm.trans H; rw [hy144]; with_reducible exact H2_) | (have H2_ := (Option.bind_some _ _).symm.trans H; with_reducible exact H2_) | with_reducible exact H | (rw [hy144]; exact H) | exact H
         have Ny144 := Aside0.mk hy144
         clear hy144
         have H' := Aside0.mk H
         clear H
         have p135 : 0 ≤ (x11_1 : Int) := of_decide_eq_true (by first | (with_reducible assumption) | assumption)
         have q135 : x11_1 < (l0.length : Int) := of_decide_eq_true (by first | (with_reducible assumption) | assumption)
         obtain ⟨ad135, A135_1, c135_1, e135, hx135_0, hx135_1, hl135_1, hi135_1⟩ := at_T61 HR0.out x11_1 p135 q135
         cases e135
         replace hx135_0 := (HB.out.cell (World.block_lt_of_cell? w _ hx135_0)).trans hx135_0
         replace hx135_1 := (HB.out.cell (World.block_lt_of_cell? w _ hx135_1)).trans hx135_1
         have HR135_1 := Aside0.mk hi135_1
         have HC135_1 := Aside0.mk hl135_1
         clear hi135_1 hl135_1
         replace p135 := eq_true p135
         replace q135 := eq_true q135
         try go_wp2_with (first | ((with_reducible refine gate_dst (N := 7) rfl ?_); refine box_event ?hg (N := 7) ?hd (cs := #[.int .i64 0, .slice none 0 0]) (t := 61) ?hr ?_; (case hd => rfl); (case hg => rfl); (case hr => first | (go_simp; done) | (go_simp; rfl)); intro gb136 hg w11 hbox hb; have n0_ := Aside0.mk (Kd.S_below (Kd.S_elderB (zS HO_5) gb136 (Nat.le_of_eq hg.symm)) hb); have n1_ := bS HB hb; have n2_ := Aside0.mk (hbox); have n3_ := gS HB hg; have n4_ := gS HB hg; clear HO_5; clear HB; have HO_5 := n0_; have HB := n1_; have BK136 := n2_; have GW136 := n3_; have GE136 := n4_; clear n0_ n1_ n2_ n3_ n4_; clear hb hbox hg; have hcz12_0 := bc0 BK136; have hcz12_1 := bc1 BK136; have hfz12_0 := bf BK136 0; have hfz12_1 := bf BK136 1) | ((with_reducible refine gate_dst (N := 18) rfl ?_); refine goesV_ (some 18) rfl rfl HF_.out HN_.out HBO_.out #[.int .i64 ((rd_T61 l0 x11_1).f0)] rfl rfl zG ?_; (with_reducible refine (HKEEP_.out ((rd_T61 l0 x11_1).f0) true _ ?sideK_ A7.out).mono ?_); (case sideK_ => repeat (first | (with_reducible first | exact HB.out | apply below_alloc | apply pw_below_drewN | apply below_drew1 | (refine below_set ?_ GE136.out)) | exact HB.out)); rintro e w' ⟨rfl, ⟨nd, rfl⟩⟩; refine ⟨_, rfl, ?_⟩))
         have n0_ : Aside0 (Kd.S k61 61 ((w11.setCell ⟨gb136, 0, none⟩ (.int .i64 ((rd_T61 l0 x11_1).f0))).setCell ⟨gb136, 1, none⟩ (.slice A135_1 ((rd_T61 l0 x11_1).f1).length c135_1)) w.heap.size (fun k_ => k_ ≠ gb136) u5 x5_1) := ⟨by (with_reducible repeat (first | apply Kd.S_alloc | apply Kd.S_drewN | apply Kd.S_drew)); exact Kd.S_mono (Kd.S_far (p := ⟨gb136, 1, none⟩) (Kd.S_far (p := ⟨gb136, 0, none⟩) (Kd.S_mono HO_5.out (fun k_ hk => (⟨hk, hk.2⟩ : _ ∧ k_ ≠ gb136))) (fun _ hk => hk.2) (.int .i64 ((rd_T61 l0 x11_1).f0))) (fun _ hk => hk.2) (.slice A135_1 ((rd_T61 l0 x11_1).f1).length c135_1)) (fun _ hk => hk.1.2)⟩
         have n1_ : Aside0 (((w11.setCell ⟨gb136, 0, none⟩ (.int .i64 ((rd_T61 l0 x11_1).f0))).setCell ⟨gb136, 1, none⟩ (.slice A135_1 ((rd_T61 l0 x11_1).f1).length c135_1)).heap[gb136]? = some (.cells #[.int .i64 ((rd_T61 l0 x11_1).f0), .slice A135_1 ((rd_T61 l0 x11_1).f1).length c135_1] 61 (0, 0))) := ⟨by (with_reducible repeat (first | refine blk_drewN ?_ _ | refine blk_drew ?_ | refine blk_alloc ?_ _)); refine blk_put (cs := #[.int .i64 ((rd_T61 l0 x11_1).f0), .slice none 0 0]) ?_ 1 _ rfl; (with_reducible repeat (first | refine blk_drewN ?_ _ | refine blk_drew ?_ | refine blk_alloc ?_ _)); refine blk_put (cs := #[.int .i64 0, .slice none 0 0]) ?_ 0 _ rfl; (with_reducible repeat (first | refine blk_drewN ?_ _ | refine blk_drew ?_ | refine blk_alloc ?_ _)); exact BK136.out⟩
         have n2_ : Aside0 (Below w.heap.size w ((w11.setCell ⟨gb136, 0, none⟩ (.int .i64 ((rd_T61 l0 x11_1).f0))).setCell ⟨gb136, 1, none⟩ (.slice A135_1 ((rd_T61 l0 x11_1).f1).length c135_1))) := ⟨zB HB⟩
         (try clear HO_5)
         (try clear BK136)
         (try clear HB)
         generalize ((w11.setCell ⟨gb136, 0, none⟩ (.int .i64 ((rd_T61 l0 x11_1).f0))).setCell ⟨gb136, 1, none⟩ (.slice A135_1 ((rd_T61 l0 x11_1).f1).length c135_1)) = w13 at n0_ n1_ n2_ ⊢
         have HO_5 := n0_
         have BK136 := n1_
         have HB := n2_
         clear n0_ n1_ n2_
         (try (rw [drewN_self w13]; generalize hq_ : World.drewN w13 _ = w13; have n0_ : Aside0 (Kd.S k61 61 w13 w.heap.size (fun k_ => k_ ≠ gb136) u5 x5_1) := ⟨by rw [← hq_]; exact (zS HO_5)⟩; have n1_ : Aside0 (w13.heap[gb136]? = some (.cells #[.int .i64 ((rd_T61 l0 x11_1).f0), .slice A135_1 ((rd_T61 l0 x11_1).f1).length c135_1] 61 (0, 0))) := ⟨by rw [← hq_]; exact (zK BK136)⟩; have n2_ : Aside0 (Below w.heap.size w w13) := ⟨by rw [← hq_]; exact (zB HB)⟩; clear HO_5 BK136 HB hq_; have HO_5 := n0_; have BK136 := n1_; have HB := n2_; clear n0_ n1_ n2_; have hcw136_0 : w13.cell? ⟨gb136, 0, none⟩ = some (.int .i64 ((rd_T61 l0 x11_1).f0)) := bc0 BK136; have hfw136_0 := bf BK136 0; have hcw136_1 : w13.cell? ⟨gb136, 1, none⟩ = some (.slice A135_1 ((rd_T61 l0 x11_1).f1).length c135_1) := bc1 BK136; have hfw136_1 := bf BK136 1))
         have n0_ := Aside0.mk (Kd.S_drew HO_5.out)
         have n1_ := Aside0.mk (blk_drew BK136.out)
         have n2_ := Aside0.mk (below_drew1 HB.out)
         clear HO_5
         clear BK136
         clear HB
         have HO_5 := n0_
         have BK136 := n1_
         have HB := n2_
         clear n0_ n1_ n2_
         refine start_ (n := 11) (S := fun w' => w'.cell? ⟨gb136, 0, none⟩ = some (.int .i64 ((rd_T61 l0 x11_1).f0)) ∧ w'.cell? ⟨gb136, 1, none⟩ = some (.slice A135_1 ((rd_T61 l0 x11_1).f1).length c135_1)) (ds := []) #[false, false, false, false, false, false, false, false, false, false, false] (by kernel_rfl) rfl rfl ⟨bc0 BK136, bc1 BK136⟩ (fun hHeld => ?_); refine with_tabW impl_keptExts.tab6 impl_keptExts.bits6 (fun HT_ HW_ => ?_)
         generalize w13.drew = w14 at HO_5 BK136 HB hHeld ⊢
         refine pure_ (i := 0) (N := some 19) (v := ?_) (a' := ?_) #[true, false, false, false, false, false, false, false, false, false, false] rfl rfl (any_of HT_.out (by kernel_rfl)) (fun _ _ _ h => h) (Or.inl ⟨by rfl, ?_⟩) ?_ ?_
         rotate_left
         ·intro w'
          go_simp
          with_reducible rfl
         rotate_left
         ·simp only [Act.put, List.setIfInBounds_toArray, List.set_cons_zero, List.set_cons_succ, i64_w, i32_w]
          rfl
         refine pure_ (i := 1) (N := some 20) (v := ?_) (a' := ?_) #[true, true, false, false, false, false, false, false, false, false, false] rfl rfl (any_of HT_.out (by kernel_rfl)) (fun _ _ _ h => h) (Or.inl ⟨by rfl, ?_⟩) ?_ ?_
         rotate_left
         ·intro w'
          go_simp
          with_reducible rfl
         rotate_left
         ·simp only [Act.put, List.setIfInBounds_toArray, List.set_cons_zero, List.set_cons_succ, i64_w, i32_w]
          rfl
         refine pure_ (i := 4) (N := some 23) (v := ?_) (a' := ?_) #[true, true, false, false, true, false, false, false, false, false, false] rfl rfl (any_of HT_.out (by kernel_rfl)) (fun _ _ _ h => h) (Or.inl ⟨by rfl, ?_⟩) ?_ ?_
         rotate_left
         ·intro w'
          go_simp
          with_reducible rfl
         rotate_left
         ·simp only [Act.put, List.setIfInBounds_toArray, List.set_cons_zero, List.set_cons_succ, i64_w, i32_w]
          rfl
         refine take_ (i := 2) (N := some 21) (v := ?_) (a' := ?_) #[true, true, true, false, true, false, false, false, false, false, false] rfl rfl (take_ofW HT_.out HW_.out (by kernel_rfl)) (fun _ _ _ h => h) (Or.inl ⟨by rfl, ?_⟩) hHeld ?_ ?_
         rotate_left
         ·rintro w' ⟨s0, s1⟩
          go_simp
          with_reducible rfl
         rotate_left
         ·simp only [Act.put, List.setIfInBounds_toArray, List.set_cons_zero, List.set_cons_succ, i64_w, i32_w]
          rfl
         refine take_ (i := 5) (N := some 24) (v := ?_) (a' := ?_) #[true, true, true, false, true, true, false, false, false, false, false] rfl rfl (take_ofW HT_.out HW_.out (by kernel_rfl)) (fun _ _ _ h => h) (Or.inl ⟨by rfl, ?_⟩) hHeld ?_ ?_
         rotate_left
         ·rintro w' ⟨s0, s1⟩
          go_simp
          with_reducible rfl
         rotate_left
         ·simp only [Act.put, List.setIfInBounds_toArray, List.set_cons_zero, List.set_cons_succ, i64_w, i32_w]
          rfl
         refine one_ (i := 3) (N := some 22) #[true, true, true, true, true, true, false, false, false, false, false] rfl rfl (one_of HT_.out (by kernel_rfl)) (by decide) (fun K hK => ?_)
         refine Kd.R_lit_step (Kd.int .i64) _ 3 ?hg (N := 22) ?hd (xs := ([] : List Int)) (inner := []) (ok := fun _ => True) (okp := fun _ => True) ?hr ?hp (fun _ hk => hk) trivial (Below.refl _ _) (Nat.le_refl _) (by simp) ?_; (case hd => rfl); (case hg => rfl); (case hr => first | (go_simp; done) | (go_simp; rfl)); (case hp => exact (Reps.none _ _))
         intro v139 w15 ho16 hb hg_ hnew_
         clear hg_ hnew_
         (first | rw [← Ny138.out] at ho16 | (simp only [Int.reduceToNat] at ho16; rw [← Ny138.out] at ho16))
         have n0_ := Aside0.mk (Kd.S_elder' (zS HO_5) (Kd.R_base ho16) hb)
         have n1_ := Aside0.mk (Kd.R_lower ho16 (below_size (zB HB)))
         have n2_ := kB BK136 hb
         have n3_ := bS HB hb
         clear HO_5
         clear BK136
         clear HB
         have HO_5 := n0_
         have HO140 := n1_
         have BK136 := n2_
         have HB := n3_
         clear n0_ n1_ n2_ n3_
         clear hb ho16
         refine hK.out _ _ ⟨bc0 BK136, bc1 BK136⟩ (fun hHeld => ?_)
         clear hK K
         refine norm_ (a' := ?_) ?_ ?_
         rotate_left
         ·show Act.put _ (some 22) _ = _
          simp only [Act.put, List.setIfInBounds_toArray, List.set_cons_zero, List.set_cons_succ, i64_w, i32_w]
          rfl
         refine one_ (i := 6) (N := some 25) #[true, true, true, true, true, true, true, false, false, false, false] rfl rfl (one_of HT_.out (by kernel_rfl)) (by decide) (fun K hK => ?_)
         refine Kd.R_append_rows_step (Kd.int .i64) (w0 := w) w.heap.size (by rfl) (.tmp 22) (.tmp 24) 22 3 (.int .i64 0) 8 rfl Try.underlying22 info3 rfl (by decide) (by omega) v139 y138 ((rd_T61 l0 x11_1).f1) _ _ _ (fun _ => True) (fun _ => False) rfl rfl ?aO ?aR (fun _ _ h => h) (fun _ h => h.elim) ?aF ?aB ?aS ?aL ?_
         (case aR => repeat (first | exact (Kd.C_below HR135_1.out HB.out) | (with_reducible refine Kd.C_alloc ?_ _) | (with_reducible refine Kd.C_drewN ?_ _) | (with_reducible refine Kd.C_drew ?_)))
         (case aB => exact (zB HB))
         (case aF => exact (fun _ _ => trivial))
         (case aO => exact (zR HO140))
         (case aS => exact (below_size (zB HB)))
         (case aL => have := LMc9.out; omega)
         intro v142 w17 ho hb hg hat
         rw [← Ny141.out] at ho
         have n0_ := Aside0.mk (Kd.S_after (ok := (fun k_ => k_ ≠ gb136)) (zS HO_5) hg hat)
         have n1_ := Aside0.mk (blk_grown (g := gb136) (o := .cells #[.int .i64 ((rd_T61 l0 x11_1).f0), .slice A135_1 ((rd_T61 l0 x11_1).f1).length c135_1] 61 (0, 0)) (zK BK136) hg (Kd.R_ne HO140.out BK136.out (by decide)))
         have n2_ := Aside0.mk (hb)
         have n3_ := Aside0.mk (ho)
         clear HO_5
         clear BK136
         clear HB
         clear HO140
         have HO_5 := n0_
         have BK136 := n1_
         have HB := n2_
         have HO143 := n3_
         clear n0_ n1_ n2_ n3_
         clear ho hb hg hat
         obtain ⟨Ao18, co18, eo18⟩ := Kd.R_slice HO143.out
         (first | subst eo18 | (injection eo18 with f1_ f2_ f3_; have f4_ := f1_.symm; have f5_ := f3_.symm; clear f1_ f2_ f3_; subst f4_; subst f5_))
         refine hK.out _ _ ⟨bc0 BK136, bc1 BK136⟩ (fun hHeld => ?_)
         clear hK K
         refine norm_ (a' := ?_) ?_ ?_
         rotate_left
         ·show Act.put _ (some 25) _ = _
          simp only [Act.put, List.setIfInBounds_toArray, List.set_cons_zero, List.set_cons_succ, i64_w, i32_w]
          rfl
         refine pure_ (i := 7) (N := some 26) (v := ?_) (a' := ?_) #[true, true, true, true, true, true, true, true, false, false, false] rfl rfl (any_of HT_.out (by kernel_rfl)) (fun _ _ _ h => h) (Or.inl ⟨by rfl, ?_⟩) ?_ ?_
         rotate_left
         ·intro w'
          go_simp
          with_reducible rfl
         rotate_left
         ·simp only [Act.put, List.setIfInBounds_toArray, List.set_cons_zero, List.set_cons_succ, i64_w, i32_w]
          rfl
         refine one_ (i := 8) (N := some 27) #[true, true, true, true, true, true, true, true, true, false, false] rfl rfl (one_of HT_.out (by kernel_rfl)) (by decide) (fun K hK => ?_)
         refine value_ (w1 := ?_) (v := ?_) (by rfl) rfl ?_ ?_
         rotate_left 2
         ·go_simp
          constructor
          ·rfl
          ·rfl
         refine hK.out _ _ ⟨(blk_cell (blk_alloc BK136.out _) 0).trans rfl, (blk_cell (blk_alloc BK136.out _) 1).trans rfl⟩ (fun hHeld => ?_)
         clear hK K
         refine norm_ (a' := ?_) ?_ ?_
         rotate_left
         ·show Act.put _ (some 27) _ = _
          simp only [Act.put, List.setIfInBounds_toArray, List.set_cons_zero, List.set_cons_succ, i64_w, i32_w]
          rfl
         refine one_ (i := 9) (N := some 28) #[true, true, true, true, true, true, true, true, true, true, false] rfl rfl (one_of HT_.out (by kernel_rfl)) (by decide) (fun K hK => ?_)
         refine Kd.S_append_step k61 (w0 := w) w.heap.size (by rfl) (.tmp 19) (.tmp 27) 29 61 (.agg #[(.int .i64 0), (.slice none 0 0)]) 32 rfl Try.underlying29 info61 rfl (by decide) (by omega) u5 x5_1 (⟨(rd_T61 l0 x11_1).f0, y141⟩ : S61) [.int .i64 ((rd_T61 l0 x11_1).f0), .slice Ao18 y141.length co18] (fun k_ => k_ ≠ gb136) (fun k_ => some k_ = (.slice Ao18 y141.length co18 : Value).ownBlock) rfl rfl ?aP (fun k_ hk_ => ((Kd.R_mono (ok' := fun k_ => ((fun k_ => k_ ≠ gb136)) k_ ∧ some k_ ≠ (u5 : Value).ownBlock) (Kd.R_types (Kd.R_apart' (HO143.out) (Kd.S_typed HO_5.out) (by decide)) BK136.out (by decide)) (fun k_ hk => ⟨hk.2, hk.1.2⟩))).1 k_ hk_.symm) ?aF ?aO ?aB ?aS ?aL ?_
         (case aP => exact k61_mkM _ _ _ (⟨(rd_T61 l0 x11_1).f0, y141⟩ : S61) (Kd.R_mono (Kd.R_tight rfl (Kd.R_mono (ok' := fun k_ => ((fun k_ => k_ ≠ gb136)) k_ ∧ some k_ ≠ (u5 : Value).ownBlock) (Kd.R_types (Kd.R_apart' (HO143.out) (Kd.S_typed HO_5.out) (by decide)) BK136.out (by decide)) (fun k_ hk => ⟨hk.2, hk.1.2⟩))) (fun _ h_ => h_)))
         (case aB => exact (zB HB))
         (case aF => exact (fun k_ hk => Kd.freshB (g := gb136) (o := .cells #[.int .i64 ((rd_T61 l0 x11_1).f0), .slice A135_1 ((rd_T61 l0 x11_1).f1).length c135_1] 61 (0, 0)) (zK BK136) k_ hk))
         (case aO => exact (by (with_reducible repeat (first | apply Kd.S_alloc | apply Kd.S_drewN | apply Kd.S_drew)); exact Kd.S_mono HO_5.out (fun k_ hk => ⟨hk.1, fun e_ => hk.2 e_⟩)))
         (case aS => exact (below_size (zB HB)))
         (case aL => have := LMc10.out; omega)
         intro v145 w19 ho hb hg hat
         rw [← Ny144.out] at ho
         have n0_ := Aside0.mk (blk_grown (g := gb136) (o := .cells #[.int .i64 ((rd_T61 l0 x11_1).f0), .slice A135_1 ((rd_T61 l0 x11_1).f1).length c135_1] 61 (0, 0)) (zK BK136) hg (Kd.S_away HO_5.out (fun _ hk => hk.1)))
         have n1_ := Aside0.mk (hb)
         have n2_ := Aside0.mk (ho)
         clear BK136
         clear HB
         clear HO_5
         clear HO143
         have BK136 := n0_
         have HB := n1_
         have HO146 := n2_
         clear n0_ n1_ n2_
         clear ho hb hg hat
         refine hK.out _ _ ⟨bc0 BK136, bc1 BK136⟩ (fun hHeld => ?_)
         clear hK K
         refine norm_ (a' := ?_) ?_ ?_
         rotate_left
         ·show Act.put _ (some 28) _ = _
          simp only [Act.put, List.setIfInBounds_toArray, List.set_cons_zero, List.set_cons_succ, i64_w, i32_w]
          rfl
         refine pure_ (i := 10) (N := some 5) (v := ?_) (a' := ?_) #[true, true, true, true, true, true, true, true, true, true, true] rfl rfl (any_of HT_.out (by kernel_rfl)) (fun _ _ _ h => h) (Or.inl ⟨by rfl, ?_⟩) ?_ ?_
         rotate_left
         ·intro w'
          go_simp
          with_reducible rfl
         rotate_left
         ·simp only [Act.put, List.setIfInBounds_toArray, List.set_cons_zero, List.set_cons_succ, i64_w, i32_w]
          rfl
         refine done_ (done_of HT_.out (by kernel_rfl)) ?_
         try clear hHeld
         try go_wp2
         go_roundg k1
         case measure => have := HK1.out; omega
         case rel => exact ⟨(y144), (wrap64 (x11_1 + 1)), zF, H', ⟨by have := HK1.out; omega⟩, ⟨by (with_reducible repeat (first | apply Kd.S_alloc | apply Kd.S_drewN | apply Kd.S_drew)); exact Kd.S_mono HO146.out (fun _ hk => trivial)⟩, ⟨zB HB⟩⟩
        ·rw [if_neg c10] at H
         exact absurd H (by simp)
       ·rw [if_neg c9] at H
        exact absurd H (by simp)
      ·replace c8 := Bool.eq_false_iff.mpr c8
       subst c8
       have H1 : (impl_keptExts.l0 k1 x5_1 l0 (l0.length : Int) (wrap64 (x11_1 + 1))) = some r := by rw [if_neg (show ¬ (false = true) by decide)] at H; exact H
       clear H
       have H := H1
       clear H1
       have H' := Aside0.mk H
       clear H
       have p135 : 0 ≤ (x11_1 : Int) := of_decide_eq_true (by first | (with_reducible assumption) | assumption)
       have q135 : x11_1 < (l0.length : Int) := of_decide_eq_true (by first | (with_reducible assumption) | assumption)
       obtain ⟨ad135, A135_1, c135_1, e135, hx135_0, hx135_1, hl135_1, hi135_1⟩ := at_T61 HR0.out x11_1 p135 q135
       cases e135
       replace hx135_0 := (HB.out.cell (World.block_lt_of_cell? w _ hx135_0)).trans hx135_0
       replace hx135_1 := (HB.out.cell (World.block_lt_of_cell? w _ hx135_1)).trans hx135_1
       have HR135_1 := Aside0.mk hi135_1
       have HC135_1 := Aside0.mk hl135_1
       clear hi135_1 hl135_1
       replace p135 := eq_true p135
       replace q135 := eq_true q135
       go_wp2_with (first | ((with_reducible refine gate_dst (N := 7) rfl ?_); refine box_event ?hg (N := 7) ?hd (cs := #[.int .i64 0, .slice none 0 0]) (t := 61) ?hr ?_; (case hd => rfl); (case hg => rfl); (case hr => first | (go_simp; done) | (go_simp; rfl)); intro gb136 hg w20 hbox hb; have n0_ := Aside0.mk (Kd.S_below (Kd.S_elderB (zS HO_5) gb136 (Nat.le_of_eq hg.symm)) hb); have n1_ := bS HB hb; have n2_ := Aside0.mk (hbox); have n3_ := gS HB hg; have n4_ := gS HB hg; clear HO_5; clear HB; have HO_5 := n0_; have HB := n1_; have BK136 := n2_; have GW136 := n3_; have GE136 := n4_; clear n0_ n1_ n2_ n3_ n4_; clear hb hbox hg; have hcz21_0 := bc0 BK136; have hcz21_1 := bc1 BK136; have hfz21_0 := bf BK136 0; have hfz21_1 := bf BK136 1) | ((with_reducible refine gate_dst (N := 18) rfl ?_); refine goesV_ (some 18) rfl rfl HF_.out HN_.out HBO_.out #[.int .i64 ((rd_T61 l0 x11_1).f0)] rfl rfl zG ?_; (with_reducible refine (HKEEP_.out ((rd_T61 l0 x11_1).f0) false _ ?sideK_ A7.out).mono ?_); (case sideK_ => repeat (first | (with_reducible first | exact HB.out | apply below_alloc | apply pw_below_drewN | apply below_drew1 | (refine below_set ?_ GE136.out)) | exact HB.out)); rintro e w' ⟨rfl, ⟨nd, rfl⟩⟩; refine ⟨_, rfl, ?_⟩))
       go_roundg k1
       case measure => have := HK1.out; omega
       case rel => exact ⟨(x5_1), (wrap64 (x11_1 + 1)), zF, H', ⟨by have := HK1.out; omega⟩, ⟨by (with_reducible repeat (first | apply Kd.S_alloc | apply Kd.S_drewN | apply Kd.S_drew)); exact Kd.S_mono (Kd.S_far (p := ⟨gb136, 1, none⟩) (Kd.S_far (p := ⟨gb136, 0, none⟩) (Kd.S_mono HO_5.out (fun k_ hk => (⟨hk, hk.2⟩ : _ ∧ k_ ≠ gb136))) (fun _ hk => hk.2) (.int .i64 ((rd_T61 l0 x11_1).f0))) (fun _ hk => hk.2) (.slice A135_1 ((rd_T61 l0 x11_1).f1).length c135_1)) (fun _ hk => trivial)⟩, ⟨zB HB⟩⟩
     ·rw [if_neg c6] at H
      exact absurd H (by simp)
    ·rw [if_neg c5] at H
     exact absurd H (by simp)
   ·rw [if_neg c4] at H
    have c4b0 : decide (x11_1 < (l0.length : Int)) = false := decide_eq_false c4
    clear c4
    obtain rfl := Option.some.inj H
    go_wp2
    go_ret
    exact ⟨_, by first | rfl | (simp [errW_none, errW_some] <;> rfl) | (simp [*, errW_none, errW_some] <;> rfl), by (with_reducible repeat (first | apply Kd.S_alloc | apply Kd.S_drewN | apply Kd.S_drew)); exact HO_5.out, by repeat (first | (with_reducible first | exact HB.out | apply below_alloc | apply pw_below_drewN | apply below_drew1) | exact HB.out)⟩

end

/-! ### slices_Index_int_int: function 97 -/
def slices_Index_int_int.l0 : Nat → List Int → Int → Int → Int → Option (Int)
 | 0, _, _, _, _ => none
 | k + 1, x0, x1, x7, x8 => if x8 < x7 then (if 0 ≤ x8 then (if x8 < (x0.length : Int) then (if x1 = (rd x0 x8) then (some x8) else (slices_Index_int_int.l0 k x0 x1 x7 (wrap64 (x8 + 1)))) else (none)) else (none)) else (some (-1))
def slices_Index_int_int.f (k : Nat) (l0 : List Int) (a1 : Int) : Option (Int) := slices_Index_int_int.l0 k l0 a1 (l0.length : Int) 0
theorem slices_Index_int_int.mono_l : ∀ k, (∀ y0 y1 y2 y3, LeO (slices_Index_int_int.l0 k y0 y1 y2 y3) (slices_Index_int_int.l0 (k + 1) y0 y1 y2 y3))
 | 0 => fun _ _ _ _ r h => by simp [slices_Index_int_int.l0] at h
 | k + 1 => by
  have ih0 := slices_Index_int_int.mono_l k
  ·intro y0 y1 y2 y3
   unfold slices_Index_int_int.l0
   repeat' first
   | (with_reducible exact ih0 _ _ _ _)
   | (with_reducible exact LeO.refl _)
   | (with_reducible exact LeO.none _)
   | (with_reducible refine LeO.ite ?_ ?_)
   | (with_reducible refine LeO.bind ?_ (fun _ => ?_))
   | exact ih0 _ _ _ _
   | exact LeO.none _
   | refine LeO.ite ?_ ?_
   | refine LeO.bind ?_ (fun _ => ?_)
theorem slices_Index_int_int.mono : ∀ a0 a1 k, LeO (slices_Index_int_int.f k a0 a1) (slices_Index_int_int.f (k + 1) a0 a1) := by
 intro a0 a1 k
 have ih0 := slices_Index_int_int.mono_l k
 unfold slices_Index_int_int.f
 repeat' first
   | (with_reducible exact ih0 _ _ _ _)
   | (with_reducible exact LeO.refl _)
   | (with_reducible exact LeO.none _)
   | (with_reducible refine LeO.ite ?_ ?_)
   | (with_reducible refine LeO.bind ?_ (fun _ => ?_))
   | exact ih0 _ _ _ _
   | exact LeO.none _
   | refine LeO.ite ?_ ?_
   | refine LeO.bind ?_ (fun _ => ?_)
set_option maxHeartbeats 8000000 in
set_option maxRecDepth 100000 in
theorem slices_Index_int_int.calls (k : Nat) (A0 : Option Addr) (c0 : Nat) (l0 : List Int) (a1 : Int) (r : Int) (w : World) (hr0 : Kd.C (Kd.int .i64) w A0 l0.length l0) (hc0 : l0.length ≤ c0) (h : slices_Index_int_int.f k l0 a1 = some r) :
  Calls Try.prog 97 #[.slice A0 l0.length c0, .int .i64 a1] w fun e w' => e = .returned (.int .i64 r) ∧ Drawn0 w w' := by
 have HR0 := Aside0.mk hr0
 have HC0 := Aside0.mk hc0
 clear hr0 hc0
 have H : (slices_Index_int_int.l0 k l0 a1 (l0.length : Int) 0) = some r := h
 clear h
 have H' := Aside0.mk H
 clear H
 go_enter Try.func97, Try.ntmps97
 go_wp2
 go_loopg [8] k (fun kq v8 w' => ∃ (x8_1 : Int), v8 = .int .i64 x8_1 ∧ Aside0 (slices_Index_int_int.l0 kq l0 a1 (l0.length : Int) x8_1 = some r) ∧ Aside0 (kq ≤ k) ∧ Drawn0 w w')
 case atStart => exact ⟨(0), zF, H', ⟨Nat.le_refl _⟩, by repeat (first | exact Drawn0.refl _ | apply Drawn0.step)⟩
 case round =>
  clear H'
  try clear p2
  obtain ⟨x8_1, rfl, HA, HK1, ⟨m1, rfl⟩⟩ := hrel
  cases gk with
  | zero => exact absurd HA.out (by simp [slices_Index_int_int.l0])
  | succ k1 =>
   have H := HA.out
   clear HA
   simp only [slices_Index_int_int.l0] at H
   by_cases c3 : x8_1 < (l0.length : Int)
   ·rw [if_pos c3] at H
    have c3b0 : decide (x8_1 < (l0.length : Int)) = true := decide_eq_true c3
    clear c3
    by_cases c4 : 0 ≤ x8_1
    ·rw [if_pos c4] at H
     have c4b0 : decide (0 ≤ x8_1) = true := decide_eq_true c4
     clear c4
     by_cases c5 : x8_1 < (l0.length : Int)
     ·rw [if_pos c5] at H
      have c5b0 : decide (x8_1 < (l0.length : Int)) = true := decide_eq_true c5
      clear c5
      by_cases c6 : a1 = (rd l0 x8_1)
      ·rw [if_pos c6] at H
       have c6b0 : (a1 == (rd l0 x8_1)) = true := beq_iff_eq.mpr c6
       have c6b1 : (a1 != (rd l0 x8_1)) = false := bne_eq_false_iff_eq.mpr c6
       clear c6
       obtain rfl := Option.some.inj H
       have p147 : 0 ≤ (x8_1 : Int) := of_decide_eq_true (by first | (with_reducible assumption) | assumption)
       have q147 : x8_1 < (l0.length : Int) := of_decide_eq_true (by first | (with_reducible assumption) | assumption)
       obtain ⟨ad147, e147, hx147_0⟩ := Kd.at_int HR0.out x8_1 p147 q147
       cases e147
       replace p147 := eq_true p147
       replace q147 := eq_true q147
       go_wp2
       go_ret
       exact ⟨by first | rfl | (simp; done) | (simp [*]; done), by repeat (first | exact Drawn0.refl _ | apply Drawn0.step)⟩
      ·rw [if_neg c6] at H
       have c6b0 : (a1 == (rd l0 x8_1)) = false := beq_eq_false_iff_ne.mpr c6
       have c6b1 : (a1 != (rd l0 x8_1)) = true := bne_iff_ne.mpr c6
       have H' := Aside0.mk H
       clear H
       have p147 : 0 ≤ (x8_1 : Int) := of_decide_eq_true (by first | (with_reducible assumption) | assumption)
       have q147 : x8_1 < (l0.length : Int) := of_decide_eq_true (by first | (with_reducible assumption) | assumption)
       obtain ⟨ad147, e147, hx147_0⟩ := Kd.at_int HR0.out x8_1 p147 q147
       cases e147
       replace p147 := eq_true p147
       replace q147 := eq_true q147
       go_wp2
       go_roundg k1
       case measure => have := HK1.out; omega
       case rel => exact ⟨(wrap64 (x8_1 + 1)), zF, H', ⟨by have := HK1.out; omega⟩, by repeat (first | exact Drawn0.refl _ | apply Drawn0.step)⟩
     ·rw [if_neg c5] at H
      exact absurd H (by simp)
    ·rw [if_neg c4] at H
     exact absurd H (by simp)
   ·rw [if_neg c3] at H
    have c3b0 : decide (x8_1 < (l0.length : Int)) = false := decide_eq_false c3
    clear c3
    obtain rfl := Option.some.inj H
    go_wp2
    go_ret
    exact ⟨by first | rfl | (simp; done) | (simp [*]; done), by repeat (first | exact Drawn0.refl _ | apply Drawn0.step)⟩

/-! ### slices_Contains_int_int: function 76 -/
def slices_Contains_int_int.f (k : Nat) (l0 : List Int) (a1 : Int) : Option (Bool) := (slices_Index_int_int.f k l0 a1).bind fun t148 => (some (decide (t148 ≥ 0)))
theorem slices_Contains_int_int.mono : ∀ a0 a1 k, LeO (slices_Contains_int_int.f k a0 a1) (slices_Contains_int_int.f (k + 1) a0 a1) := by
 intro a0 a1 k
 unfold slices_Contains_int_int.f
 repeat' first
   | (with_reducible exact slices_Index_int_int.mono _ _ _)
   | (with_reducible exact LeO.refl _)
   | (with_reducible exact LeO.none _)
   | (with_reducible refine LeO.ite ?_ ?_)
   | (with_reducible refine LeO.bind ?_ (fun _ => ?_))
   | exact slices_Index_int_int.mono _ _ _
   | exact LeO.none _
   | refine LeO.ite ?_ ?_
   | refine LeO.bind ?_ (fun _ => ?_)
set_option maxHeartbeats 8000000 in
set_option maxRecDepth 100000 in
theorem slices_Contains_int_int.calls (k : Nat) (A0 : Option Addr) (c0 : Nat) (l0 : List Int) (a1 : Int) (r : Bool) (w : World) (hr0 : Kd.C (Kd.int .i64) w A0 l0.length l0) (hc0 : l0.length ≤ c0) (h : slices_Contains_int_int.f k l0 a1 = some r) :
  Calls Try.prog 76 #[.slice A0 l0.length c0, .int .i64 a1] w fun e w' => e = .returned (.bool r) ∧ Drawn0 w w' := by
 have HR0 := Aside0.mk hr0
 have HC0 := Aside0.mk hc0
 clear hr0 hc0
 have H : ((slices_Index_int_int.f k l0 a1).bind fun t148 => (some (decide (t148 ≥ 0)))) = some r := h
 clear h
 replace H := Option.bind_eq_some_iff.mp H
 obtain ⟨t148, A30, H⟩ := H
 replace H : (some (decide (t148 ≥ 0))) = some r := H
 have A3 := Aside0.mk A30
 clear A30
 obtain rfl := Option.some.inj H
 go_enter Try.func76, Try.ntmps76
 go_wp2_with (first | ((with_reducible refine gate_callee (f := 97) rfl ?_); refine goesL_ (some 7) rfl rfl Try.func97 (by kernel_rfl) rfl #[.slice A0 l0.length c0, .int .i64 a1] rfl zG ?_; (with_reducible refine (slices_Index_int_int.calls k _ _ l0 a1 t148 _ ?side1 ?side2 A3.out).mono ?_); (case side1 => repeat (first | exact HR0.out | (with_reducible refine Kd.C_alloc ?_ _) | (with_reducible refine Kd.C_drewN ?_ _) | (with_reducible refine Kd.C_drew ?_))); (case side2 => exact HC0.out); rintro e w' ⟨rfl, ⟨nd, rfl⟩⟩; refine ⟨_, rfl, ?_⟩))
 go_ret
 exact ⟨by first | rfl | (simp; done) | (simp [*]; done), by repeat (first | exact Drawn0.refl _ | apply Drawn0.step)⟩

/-! ### impl_KnownOf_kept: functions 72 and 75 (by hand) -/
theorem impl_KnownOf_kept.lit (x : Int) (A1 : Option Addr) (c1 : Nat) (l1 : List Int) (r : Bool) (W : World) (hr1 : Kd.C (Kd.int .i64) W A1 l1.length l1) (hc1 : l1.length ≤ c1) {B1_ : Nat} (hB1_ : W.heap[B1_]? = some (.cells #[.slice A1 l1.length c1] 22 (0, 0))) (h : slices_Contains_int_int.f (l1.length + 2) l1 x = some r) :
  Calls Try.prog 75 #[.int .i64 x, .pointer (some ⟨B1_, 0, none⟩)] W fun e w' => e = .returned (.bool r) ∧ Drawn0 W w' := by
 have hcl1_0 : W.cell? ⟨B1_, 0, none⟩ = some (.slice A1 l1.length c1) := (blk_cell hB1_ 0).trans rfl
 have hbk1_ := blk_lt hB1_
 have HX := Aside0.mk (fun W_ hW_ => slices_Contains_int_int.calls (l1.length + 2) A1 c1 l1 x r W_ hW_ hc1 h)
 have HR1 := Aside0.mk hr1
 clear h hr1 hc1
 go_enter Try.func75, Try.ntmps75
 go_wp2_with (go_at_call 76; refine (HX.out _ ?_).mono ?_; (first | exact HR1.out | (with_reducible refine Kd.C_drewN ?_ _; exact HR1.out) | (with_reducible refine Kd.C_drew ?_; exact HR1.out)); rintro e w' ⟨rfl, ⟨nd, rfl⟩⟩)
 go_ret
 exact ⟨rfl, by repeat (first | exact Drawn0.refl _ | apply Drawn0.step | exact ⟨⟨_, rfl⟩⟩)⟩
def impl_KnownOf_kept.f (k : Nat) (l0 : List (S61)) (l1 : List Int) : Option (List (S61)) := impl_keptExts.f (inst_ := ⟨fun a => slices_Contains_int_int.f (l1.length + 2) l1 a⟩) k l0
theorem impl_KnownOf_kept.mono : ∀ a0 a1 k, LeO (impl_KnownOf_kept.f k a0 a1) (impl_KnownOf_kept.f (k + 1) a0 a1) := fun a0 a1 => impl_keptExts.mono (inst_ := ⟨fun a => slices_Contains_int_int.f (a1.length + 2) a1 a⟩) a0
theorem impl_KnownOf_kept.calls (k : Nat) (A0 : Option Addr) (c0 : Nat) (l0 : List (S61)) (A1 : Option Addr) (c1 : Nat) (l1 : List Int) (r : List (S61)) (w : World) (hr0 : Kd.C k61 w A0 l0.length l0) (hc0 : l0.length ≤ c0) (hr1 : Kd.C (Kd.int .i64) w A1 l1.length l1) (hc1 : l1.length ≤ c1) {B1_ : Nat} (hB1_ : w.heap[B1_]? = some (.cells #[.slice A1 l1.length c1] 22 (0, 0))) (h : impl_KnownOf_kept.f k l0 l1 = some r) :
  Calls Try.prog 72 #[.slice A0 l0.length c0, .func (.func 75) #[] #[.pointer (some ⟨B1_, 0, none⟩)]] w fun e w' => ∃ v0_ : Value, e = .returned (v0_) ∧ Kd.S k61 61 w' w.heap.size (fun _ => True) v0_ r ∧ Below w.heap.size w w' :=
 impl_keptExts.calls (inst_ := ⟨fun a => slices_Contains_int_int.f (l1.length + 2) l1 a⟩) k A0 c0 l0 r w hr0 hc0 Try.func75 (by kernel_rfl) rfl (lb_ := #[.pointer (some ⟨B1_, 0, none⟩)]) (fun a0 r W hb hf => impl_KnownOf_kept.lit a0 A1 c1 l1 r W (Kd.C_below hr1 hb) hc1 (blk_below hB1_ hb) hf) h
/-! ### impl_KnownOf: function 40 -/
def impl_KnownOf.f (k : Nat) (l0 : List (S61)) (l1 : List Int) : Option ((List (S61))) := (impl_KnownOf_kept.f k l0 l1).bind fun t150 => (some t150)
theorem impl_KnownOf.mono : ∀ a0 a1 k, LeO (impl_KnownOf.f k a0 a1) (impl_KnownOf.f (k + 1) a0 a1) := by
 intro a0 a1 k
 unfold impl_KnownOf.f
 repeat' first
   | (with_reducible exact impl_KnownOf_kept.mono _ _ _)
   | (with_reducible exact LeO.refl _)
   | (with_reducible exact LeO.none _)
   | (with_reducible refine LeO.ite ?_ ?_)
   | (with_reducible refine LeO.bind ?_ (fun _ => ?_))
   | exact impl_KnownOf_kept.mono _ _ _
   | exact LeO.none _
   | refine LeO.ite ?_ ?_
   | refine LeO.bind ?_ (fun _ => ?_)
set_option maxHeartbeats 8000000 in
set_option maxRecDepth 100000 in
theorem impl_KnownOf.calls (k : Nat) (A0 : Option Addr) (c0 : Nat) (l0 : List (S61)) (A1 : Option Addr) (c1 : Nat) (l1 : List Int) (r : List (S61)) (w : World) (hr0 : Kd.C k61 w A0 l0.length l0) (hc0 : l0.length ≤ c0) (hr1 : Kd.C (Kd.int .i64) w A1 l1.length l1) (hc1 : l1.length ≤ c1) (h : impl_KnownOf.f k l0 l1 = some r) :
  Calls Try.prog 40 #[.slice A0 l0.length c0, .slice A1 l1.length c1] w fun e w' => ∃ v0_ : Value, e = .returned (v0_) ∧ Kd.S k61 61 w' w.heap.size (fun _ => True) v0_ r ∧ Below w.heap.size w w' := by
 have HR0 := Aside0.mk hr0
 have HC0 := Aside0.mk hc0
 clear hr0 hc0
 have HR1 := Aside0.mk hr1
 have HC1 := Aside0.mk hc1
 clear hr1 hc1
 have HB := Aside0.mk (Below.refl w.heap.size w)
 have H : ((impl_KnownOf_kept.f k l0 l1).bind fun t150 => (some t150)) = some r := h
 clear h
 replace H := Option.bind_eq_some_iff.mp H
 obtain ⟨t150, A30, H⟩ := H
 replace H : (some t150) = some r := H
 have A3 := Aside0.mk A30
 clear A30
 obtain rfl := Option.some.inj H
 go_enter Try.func40, Try.ntmps40
 go_wp2_with (first | ((with_reducible refine gate_dst (N := 3) rfl ?_); refine box_event ?hg (N := 3) ?hd (cs := #[.slice A1 l1.length c1]) (t := 22) ?hr ?_; (case hd => rfl); (case hg => rfl); (case hr => first | (go_simp; done) | (go_simp; rfl)); intro gb149 hg w4 hbox hb; have n0_ := bS HB hb; have n1_ := Aside0.mk (hbox); have n2_ := gS HB hg; have n3_ := gS HB hg; clear HB; have HB := n0_; have BK149 := n1_; have GW149 := n2_; have GE149 := n3_; clear n0_ n1_ n2_ n3_; clear hb hbox hg) | ((with_reducible refine gate_callee (f := 72) rfl ?_); refine goesL_ (some 7) rfl rfl Try.func72 (by kernel_rfl) rfl #[.slice A0 l0.length c0, .func (.func 75) #[] #[.pointer (some ⟨gb149, 0, none⟩)]] rfl zG ?_; (with_reducible refine (impl_KnownOf_kept.calls k _ _ l0 A1 c1 l1 t150 _ ?side1 ?side2 ?side3 ?side4 ?side5 A3.out).mono ?_); (case side1 => exact cS HR0 HB); (case side2 => exact HC0.out); (case side3 => exact cS HR1 HB); (case side4 => exact HC1.out); (case side5 => exact (fun h_ => h_) (zK BK149)); rintro e w5 ⟨v151, rfl, ho0, hb⟩; refine ⟨_, rfl, ?_⟩; have n0_ := Aside0.mk (Kd.S_lower ho0 (below_size (zB HB))); have n1_ := kB BK149 hb; have n2_ := bS HB hb; clear BK149; clear HB; have HO152 := n0_; have BK149 := n1_; have HB := n2_; clear n0_ n1_ n2_; (try clear hb); (try clear ho0)))
 go_ret
 exact ⟨_, by first | rfl | (simp [errW_none, errW_some] <;> rfl) | (simp [*, errW_none, errW_some] <;> rfl), by (with_reducible repeat (first | apply Kd.S_alloc | apply Kd.S_drewN | apply Kd.S_drew)); exact HO152.out, by repeat (first | (with_reducible first | exact HB.out | apply below_alloc | apply pw_below_drewN | apply below_drew1 | refine below_set ?_ GE149.out) | exact HB.out)⟩

/-! ### slices_Clone_int_int: function 77 (by hand) -/
def slices_Clone_int_int.f (l0 : List Int) : Option (List Int) := if l0.length * 8 ≤ 140737488355328 then some l0 else none
theorem slices_Clone_int_int.calls (A0 : Option Addr) (c0 : Nat) (l0 : List Int) (r : List Int) (w : World) (hr0 : Kd.C (Kd.int .i64) w A0 l0.length l0) (hc0 : l0.length ≤ c0) (h : slices_Clone_int_int.f l0 = some r) :
  Calls Try.prog 77 #[.slice A0 l0.length c0] w fun e w' => ∃ v0_ : Value, e = .returned (v0_) ∧ Kd.R (Kd.int .i64) 3 w' w.heap.size (fun _ => True) v0_ r ∧ Below w.heap.size w w' := by
 unfold slices_Clone_int_int.f at h
 by_cases hl : l0.length * 8 ≤ 140737488355328
 ·rw [if_pos hl] at h
  exact Go.Proofs.Ytljoejddjendbaa.Hs.clone_calls (fun b off n c zs w hz hb hc => Any.slices_Clone_int Try.laysNm215 b off n c zs w hz hb hc) (fun n c w => Any.slices_Clone_int_nil Try.laysNm215 n c w) (fun a c w => Any.slices_Clone_int_zero Try.laysNm215 a c w) A0 c0 l0 r w hr0 hl (Option.some.inj h)
 ·rw [if_neg hl] at h; cases h

end Go.Proofs.Ytljoejddjendbaa.PFnExts
