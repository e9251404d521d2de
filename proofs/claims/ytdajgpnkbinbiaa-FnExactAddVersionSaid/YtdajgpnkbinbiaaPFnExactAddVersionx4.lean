-- WRITTEN by pp.py, this session's own wrapper around the print; not trusted: Lean checks it
import Derived.Test.YtdajgpnkbinbiaaPFnExactAddVersionx0
import Derived.Test.YtdajgpnkbinbiaaPFnExactAddVersionx3
namespace Go.Proofs.Ytdajgpnkbinbiaa.PFnExactAddVersion
open Go.RowKit Go.Proofs.Ytdajgpnkbinbiaa.Hw Go.Proofs.YtdajgpnkbinbiaaW.PrintWords Go.Proofs.YtdajgpnkbinbiaaW.PrintLast Go.Proofs.YtdajgpnkbinbiaaW.PrintMore
attribute [local go_sem] max2_int min2_int max_two min_two max_three min_three max_four min_four   -- for this text's walks alone
set_option linter.unusedVariables false
set_option linter.unusedSimpArgs false
set_option linter.unusedSectionVars false

/-! ### laws_eqIntS: function 10 -/
def laws_eqIntS.l0 : Nat → List Int → List Int → Int → Option (Bool)
 | 0, _, _, _ => none
 | k + 1, x0, x1, x5 => if x5 < (x0.length : Int) then (if 0 ≤ x5 then (if x5 < (x1.length : Int) then (if (rd x0 x5) = (rd x1 x5) then (laws_eqIntS.l0 k x0 x1 (wrap64 (x5 + 1))) else (some false)) else (none)) else (none)) else (some true)
def laws_eqIntS.f (k : Nat) (l0 : List Int) (l1 : List Int) : Option (Bool) := if (l0.length : Int) = (l1.length : Int) then (laws_eqIntS.l0 k l0 l1 0) else (some false)
theorem laws_eqIntS.mono_l : ∀ k, (∀ y0 y1 y2, LeO (laws_eqIntS.l0 k y0 y1 y2) (laws_eqIntS.l0 (k + 1) y0 y1 y2))
 | 0 => fun _ _ _ r h => by simp [laws_eqIntS.l0] at h
 | k + 1 => by
  have ih0 := laws_eqIntS.mono_l k
  ·intro y0 y1 y2
   unfold laws_eqIntS.l0
   repeat' first
   | (with_reducible exact ih0 _ _ _)
   | (with_reducible exact LeO.refl _)
   | (with_reducible exact LeO.none _)
   | (with_reducible refine LeO.ite ?_ ?_)
   | (with_reducible refine LeO.bind ?_ (fun _ => ?_))
   | exact ih0 _ _ _
   | exact LeO.none _
   | refine LeO.ite ?_ ?_
   | refine LeO.bind ?_ (fun _ => ?_)
theorem laws_eqIntS.mono : ∀ a0 a1 k, LeO (laws_eqIntS.f k a0 a1) (laws_eqIntS.f (k + 1) a0 a1) := by
 intro a0 a1 k
 have ih0 := laws_eqIntS.mono_l k
 unfold laws_eqIntS.f
 repeat' first
   | (with_reducible exact ih0 _ _ _)
   | (with_reducible exact LeO.refl _)
   | (with_reducible exact LeO.none _)
   | (with_reducible refine LeO.ite ?_ ?_)
   | (with_reducible refine LeO.bind ?_ (fun _ => ?_))
   | exact ih0 _ _ _
   | exact LeO.none _
   | refine LeO.ite ?_ ?_
   | refine LeO.bind ?_ (fun _ => ?_)
set_option maxHeartbeats 8000000 in
set_option maxRecDepth 100000 in
theorem laws_eqIntS.calls (k : Nat) (A0 : Option Addr) (c0 : Nat) (l0 : List Int) (A1 : Option Addr) (c1 : Nat) (l1 : List Int) (r : Bool) (w : World) (hr0 : Kd.C (Kd.int .i64) w A0 l0.length l0) (hc0 : l0.length ≤ c0) (hr1 : Kd.C (Kd.int .i64) w A1 l1.length l1) (hc1 : l1.length ≤ c1) (h : laws_eqIntS.f k l0 l1 = some r) :
  Calls Try.prog 10 #[.slice A0 l0.length c0, .slice A1 l1.length c1] w fun e w' => e = .returned (.bool r) ∧ Drawn0 w w' := by
 have HR0 := Aside0.mk hr0
 have HC0 := Aside0.mk hc0
 clear hr0 hc0
 have HR1 := Aside0.mk hr1
 have HC1 := Aside0.mk hc1
 clear hr1 hc1
 have H : (if (l0.length : Int) = (l1.length : Int) then (laws_eqIntS.l0 k l0 l1 0) else (some false)) = some r := h
 clear h
 by_cases c3 : (l0.length : Int) = (l1.length : Int)
 ·rw [if_pos c3] at H
  have c3b0 : ((l0.length : Int) == (l1.length : Int)) = true := beq_iff_eq.mpr c3
  have c3b1 : ((l0.length : Int) != (l1.length : Int)) = false := bne_eq_false_iff_eq.mpr c3
  have c3b2 : (l0.length == l1.length) = true := by first | simpa using c3 | (simp at c3 ⊢; omega)
  clear c3
  have H' := Aside0.mk H
  clear H
  go_enter Try.func10, Try.ntmps10
  go_wp2
  repeat (go_quiet (fail); try go_wp2)
  go_loopg [5] k (fun kq v5 w' => ∃ (x5_1 : Int), v5 = .int .i64 x5_1 ∧ Aside0 (laws_eqIntS.l0 kq l0 l1 x5_1 = some r) ∧ Aside0 (kq ≤ k) ∧ Drawn0 w w')
  case atStart => exact ⟨(0), (by first | rfl | (simp; done) | (simp [*]; done)), H', ⟨Nat.le_refl _⟩, by repeat (first | exact Drawn0.refl _ | apply Drawn0.step)⟩
  case round =>
   clear H'
   try clear c1
   try clear p2
   try clear c3
   try clear c3b0
   try clear c3b1
   try clear c3b2
   obtain ⟨x5_1, rfl, HA, HK1, ⟨m1, rfl⟩⟩ := hrel
   cases gk with
   | zero => exact absurd HA.out (by simp [laws_eqIntS.l0])
   | succ k1 =>
    have H := HA.out
    clear HA
    simp only [laws_eqIntS.l0] at H
    by_cases c4 : x5_1 < (l0.length : Int)
    ·rw [if_pos c4] at H
     have c4b0 : decide (x5_1 < (l0.length : Int)) = true := decide_eq_true c4
     clear c4
     by_cases c5 : 0 ≤ x5_1
     ·rw [if_pos c5] at H
      have c5b0 : decide (0 ≤ x5_1) = true := decide_eq_true c5
      clear c5
      by_cases c6 : x5_1 < (l1.length : Int)
      ·rw [if_pos c6] at H
       have c6b0 : decide (x5_1 < (l1.length : Int)) = true := decide_eq_true c6
       clear c6
       by_cases c7 : (rd l0 x5_1) = (rd l1 x5_1)
       ·rw [if_pos c7] at H
        have c7b0 : ((rd l0 x5_1) == (rd l1 x5_1)) = true := beq_iff_eq.mpr c7
        have c7b1 : ((rd l0 x5_1) != (rd l1 x5_1)) = false := bne_eq_false_iff_eq.mpr c7
        clear c7
        have H' := Aside0.mk H
        clear H
        have p195 : 0 ≤ (x5_1 : Int) := of_decide_eq_true (by first | (with_reducible assumption) | assumption)
        have q195 : x5_1 < (l0.length : Int) := of_decide_eq_true (by first | (with_reducible assumption) | assumption)
        obtain ⟨ad195, e195, hx195_0⟩ := Kd.at_int HR0.out x5_1 p195 q195
        cases e195
        replace p195 := eq_true p195
        replace q195 := eq_true q195
        have p196 : 0 ≤ (x5_1 : Int) := of_decide_eq_true (by first | (with_reducible assumption) | assumption)
        have q196 : x5_1 < (l1.length : Int) := of_decide_eq_true (by first | (with_reducible assumption) | assumption)
        obtain ⟨ad196, e196, hx196_0⟩ := Kd.at_int HR1.out x5_1 p196 q196
        cases e196
        replace p196 := eq_true p196
        replace q196 := eq_true q196
        go_wp2
        repeat (go_quiet (fail); try go_wp2)
        go_roundg k1
        case measure => have := HK1.out; omega
        case rel => exact ⟨(wrap64 (x5_1 + 1)), (by first | rfl | (simp; done) | (simp [*]; done)), H', ⟨by have := HK1.out; omega⟩, by repeat (first | exact Drawn0.refl _ | apply Drawn0.step)⟩
       ·rw [if_neg c7] at H
        have c7b0 : ((rd l0 x5_1) == (rd l1 x5_1)) = false := beq_eq_false_iff_ne.mpr c7
        have c7b1 : ((rd l0 x5_1) != (rd l1 x5_1)) = true := bne_iff_ne.mpr c7
        obtain rfl := Option.some.inj H
        have p195 : 0 ≤ (x5_1 : Int) := of_decide_eq_true (by first | (with_reducible assumption) | assumption)
        have q195 : x5_1 < (l0.length : Int) := of_decide_eq_true (by first | (with_reducible assumption) | assumption)
        obtain ⟨ad195, e195, hx195_0⟩ := Kd.at_int HR0.out x5_1 p195 q195
        cases e195
        replace p195 := eq_true p195
        replace q195 := eq_true q195
        have p196 : 0 ≤ (x5_1 : Int) := of_decide_eq_true (by first | (with_reducible assumption) | assumption)
        have q196 : x5_1 < (l1.length : Int) := of_decide_eq_true (by first | (with_reducible assumption) | assumption)
        obtain ⟨ad196, e196, hx196_0⟩ := Kd.at_int HR1.out x5_1 p196 q196
        cases e196
        replace p196 := eq_true p196
        replace q196 := eq_true q196
        go_wp2
        repeat (go_quiet (fail); try go_wp2)
        go_ret
        exact ⟨by first | rfl | (simp; done) | (simp [*]; done), by repeat (first | exact Drawn0.refl _ | apply Drawn0.step)⟩
      ·rw [if_neg c6] at H
       exact absurd H (by simp)
     ·rw [if_neg c5] at H
      exact absurd H (by simp)
    ·rw [if_neg c4] at H
     have c4b0 : decide (x5_1 < (l0.length : Int)) = false := decide_eq_false c4
     clear c4
     obtain rfl := Option.some.inj H
     go_wp2
     repeat (go_quiet (fail); try go_wp2)
     go_ret
     exact ⟨by first | rfl | (simp; done) | (simp [*]; done), by repeat (first | exact Drawn0.refl _ | apply Drawn0.step)⟩
 ·rw [if_neg c3] at H
  have c3b0 : ((l0.length : Int) == (l1.length : Int)) = false := beq_eq_false_iff_ne.mpr c3
  have c3b1 : ((l0.length : Int) != (l1.length : Int)) = true := bne_iff_ne.mpr c3
  have c3b2 : (l0.length == l1.length) = false := by first | simpa using c3 | (simp at c3 ⊢; omega)
  obtain rfl := Option.some.inj H
  go_enter Try.func10, Try.ntmps10
  go_wp2
  repeat (go_quiet (fail); try go_wp2)
  go_ret
  exact ⟨by first | rfl | (simp; done) | (simp [*]; done), by repeat (first | exact Drawn0.refl _ | apply Drawn0.step)⟩

/-! ### laws_markIntS: function 11 -/
def laws_markIntS.l0 : Nat → List Int → Int → Int → Option (Int × List Int)
 | 0, _, _, _ => none
 | k + 1, x0, x1, x5 => if x5 < (x0.length : Int) then (if 0 ≤ x5 then (laws_markIntS.l0 k (x0.set (x5 : Int).toNat x1) (wrap64 (x1 + 1)) (wrap64 (x5 + 1))) else (none)) else (some (x1, x0))
def laws_markIntS.f (k : Nat) (l0 : List Int) (a1 : Int) : Option (Int × List Int) := laws_markIntS.l0 k l0 a1 0
theorem laws_markIntS.mono_l : ∀ k, (∀ y0 y1 y2, LeO (laws_markIntS.l0 k y0 y1 y2) (laws_markIntS.l0 (k + 1) y0 y1 y2))
 | 0 => fun _ _ _ r h => by simp [laws_markIntS.l0] at h
 | k + 1 => by
  have ih0 := laws_markIntS.mono_l k
  ·intro y0 y1 y2
   unfold laws_markIntS.l0
   repeat' first
   | (with_reducible exact ih0 _ _ _)
   | (with_reducible exact LeO.refl _)
   | (with_reducible exact LeO.none _)
   | (with_reducible refine LeO.ite ?_ ?_)
   | (with_reducible refine LeO.bind ?_ (fun _ => ?_))
   | exact ih0 _ _ _
   | exact LeO.none _
   | refine LeO.ite ?_ ?_
   | refine LeO.bind ?_ (fun _ => ?_)
theorem laws_markIntS.mono : ∀ a0 a1 k, LeO (laws_markIntS.f k a0 a1) (laws_markIntS.f (k + 1) a0 a1) := by
 intro a0 a1 k
 have ih0 := laws_markIntS.mono_l k
 unfold laws_markIntS.f
 repeat' first
   | (with_reducible exact ih0 _ _ _)
   | (with_reducible exact LeO.refl _)
   | (with_reducible exact LeO.none _)
   | (with_reducible refine LeO.ite ?_ ?_)
   | (with_reducible refine LeO.bind ?_ (fun _ => ?_))
   | exact ih0 _ _ _
   | exact LeO.none _
   | refine LeO.ite ?_ ?_
   | refine LeO.bind ?_ (fun _ => ?_)
set_option maxHeartbeats 8000000 in
set_option maxRecDepth 100000 in
theorem laws_markIntS.calls (k : Nat) (P0_ : Nat → Prop) (u9000_ : Value) (l0 : List Int) (a1 : Int) (r1 : Int) (r2 : List Int) (w0 w : World) (hB : Below w0.heap.size w0 w) (ho0 : Kd.R (Kd.int .i64) 3 w w0.heap.size P0_ u9000_ l0) (h : laws_markIntS.f k l0 a1 = some (r1, r2)) :
  Calls Try.prog 11 #[u9000_, .int .i64 a1] w fun e w' => e = .returned (.int .i64 r1) ∧ Kd.R (Kd.int .i64) 3 w' w0.heap.size (fun k_ => (P0_ k_ ∨ w.heap.size ≤ k_)) u9000_ r2 ∧ Below w0.heap.size w0 w' ∧ Kept w w' (fun k_ => P0_ k_) := by
 have HO0 := Aside0.mk (show Kd.R (Kd.int .i64) 3 w w0.heap.size (fun k_ => (P0_ k_ ∨ w.heap.size ≤ k_)) u9000_ l0 from Kd.R_mono ho0 (fun k_ hk => (.inl hk)))
 have HK := Aside0.mk (Kept.refl w (fun k_ => P0_ k_))
 have HW0 := Aside0.mk hB.size
 have HB := Aside0.mk hB
 clear hB
 have H : (laws_markIntS.l0 k l0 a1 0) = some (r1, r2) := h
 clear h
 have H' := Aside0.mk H
 clear H
 go_enter Try.func11, Try.ntmps11
 go_wp2
 go_loopg [1, 5] k (fun kq v1 v5 w' => ∃ (x0_1 : List Int) (x1_1 : Int) (x5_1 : Int), v1 = .int .i64 x1_1 ∧ v5 = .int .i64 x5_1 ∧ Aside0 (laws_markIntS.l0 kq x0_1 x1_1 x5_1 = some (r1, r2)) ∧ Aside0 (kq ≤ k) ∧ Aside0 (Kd.R (Kd.int .i64) 3 w' w0.heap.size (fun k_ => (P0_ k_ ∨ w.heap.size ≤ k_)) u9000_ x0_1) ∧ Aside0 (Kept w w' (fun k_ => P0_ k_)) ∧ Aside0 (Below w0.heap.size w0 w'))
 case atStart => exact ⟨(l0), (a1), (0), (by first | rfl | (simp; done) | (simp [*]; done)), (by first | rfl | (simp; done) | (simp [*]; done)), H', ⟨Nat.le_refl _⟩, ⟨by (with_reducible repeat (first | apply Kd.R_alloc | apply Kd.R_drewN | apply Kd.R_drew)); exact HO0.out⟩, ⟨by repeat (first | (with_reducible first | exact HK.out | apply Kept.alloc | apply Kept.drewN | apply Kept.drew) | exact HK.out)⟩, ⟨by repeat (first | (with_reducible first | exact HB.out | apply below_alloc | apply pw_below_drewN | apply below_drew1) | exact HB.out)⟩⟩
 case round =>
  clear H'
  try clear c1
  try clear p2
  obtain ⟨x0_1, x1_1, x5_1, rfl, rfl, HA, HK1, HO_0, HK, HB⟩ := hrel
  cases gk with
  | zero => exact absurd HA.out (by simp [laws_markIntS.l0])
  | succ k1 =>
   have H := HA.out
   clear HA
   simp only [laws_markIntS.l0] at H
   by_cases c3 : x5_1 < (x0_1.length : Int)
   ·rw [if_pos c3] at H
    have c3b0 : decide (x5_1 < (x0_1.length : Int)) = true := decide_eq_true c3
    clear c3
    by_cases c4 : 0 ≤ x5_1
    ·rw [if_pos c4] at H
     have c4b0 : decide (0 ≤ x5_1) = true := decide_eq_true c4
     clear c4
     obtain ⟨y197, hy197⟩ : ∃ y_ : List Int, y_ = (x0_1.set (x5_1 : Int).toNat x1_1) := ⟨_, rfl⟩
     replace H : (laws_markIntS.l0 k1 y197 (wrap64 (x1_1 + 1)) (wrap64 (x5_1 + 1))) = some (r1, r2) := by first | (rw [hy197]; with_reducible exact H) | (have H2_ := (Option.bind_some _ _).symm.trans H; rw [hy197]; with_reducible exact H2_) | (have H2_ := (Option.bind_some _ _).symm.trans H; with_reducible exact H2_) | with_reducible exact H | (rw [hy197]; exact H) | exact H
     have Ny197 := Aside0.mk hy197
     clear hy197
     have H' := Aside0.mk H
     clear H
     obtain ⟨Ao6, co6, eo6⟩ := Kd.R_slice HO_0.out
     subst eo6
     have p5 : 0 ≤ (x5_1 : Int) := of_decide_eq_true (by first | (with_reducible assumption) | assumption)
     have q5 : (x5_1 : Int) < ((x0_1.length : Int) : Int) := of_decide_eq_true (by first | (with_reducible assumption) | assumption)
     obtain ⟨go5, co5, eo5, gb5, gl5, cl5, HG5⟩ := Kd.R_form HO_0.out (by omega)
     (first | cases eo5 | (injection eo5 with ea_ en_ ec_; (first | subst ea_ | (injection ea_ with ea_; subst ea_)); subst ec_; clear en_))
     have GB5 := Aside0.mk gb5
     have GG5 := Aside0.mk HG5
     clear gb5 gl5 HG5
     have HMgo5 := Aside0.mk (show (P0_ go5 ∨ w.heap.size ≤ go5) from (HO_0.out.1 _ rfl))
     obtain ⟨hx5_0, hf5_0⟩ := Kd.R_celln 0 HO_0.out (x5_1 : Int) p5 q5
     replace p5 := eq_true p5
     replace q5 := eq_true q5
     have HP7 := Kd.R_putg HO_0.out (x5_1 : Int) x1_1
     go_wp2_with (first | ((with_reducible refine gate_store (t := 3) (p := 15) rfl ?_); refine store_event (t := 3) (p := 15) (v := ?vo_w8) (w1 := (wr.setCell ⟨go5, (x5_1 : Int).toNat, none⟩ (.int .i64 x1_1))) ?hg ?ho ?hn ?hr ?_; (case ho => rfl); (case hg => rfl); (case hn => rfl); (case hr => first | (go_simp; done) | (go_simp; rfl)); intro w8 hw; have hg : wr.grownBy w8 (some go5) := (by rw [hw]; exact HP7.2); have hp_ : Kd.R (Kd.int .i64) 3 w8 w0.heap.size (fun k_ => (P0_ k_ ∨ w.heap.size ≤ k_)) (.slice (some ⟨go5, 0, none⟩) x0_1.length co6) y197 := (by rw [hw, Ny197.out]; exact HP7.1); clear HP7; have n0_ := Aside0.mk (hp_); have n1_ := Aside0.mk ((by rw [hw]; exact below_set (HB.out) GB5.out : Below w0.heap.size w0 w8)); have n2_ := Aside0.mk (Kept.of_grown (S := (fun k_ => P0_ k_)) hg (by repeat (first | (with_reducible first | exact HK.out | apply Kept.alloc | apply Kept.drewN | apply Kept.drew) | exact HK.out)) (fun k_ e_ => (HO_0.out.1 k_ e_))); clear HO_0; clear HB; clear HK; have HO_0 := n0_; have HB := n1_; have HK := n2_; clear n0_ n1_ n2_; clear hg hw hp_))
     go_roundg k1
     case measure => have := HK1.out; omega
     case rel => exact ⟨(y197), (wrap64 (x1_1 + 1)), (wrap64 (x5_1 + 1)), (by first | rfl | (simp; done) | (simp [*]; done)), (by first | rfl | (simp; done) | (simp [*]; done)), H', ⟨by have := HK1.out; omega⟩, ⟨by (with_reducible repeat (first | apply Kd.R_alloc | apply Kd.R_drewN | apply Kd.R_drew)); exact HO_0.out⟩, ⟨by repeat (first | (with_reducible first | exact HK.out | apply Kept.alloc | apply Kept.drewN | apply Kept.drew) | exact HK.out)⟩, ⟨by repeat (first | (with_reducible first | exact HB.out | apply below_alloc | apply pw_below_drewN | apply below_drew1) | exact HB.out)⟩⟩
    ·rw [if_neg c4] at H
     exact absurd H (by simp)
   ·rw [if_neg c3] at H
    have c3b0 : decide (x5_1 < (x0_1.length : Int)) = false := decide_eq_false c3
    clear c3
    simp only [Option.some.injEq, Prod.mk.injEq] at H
    obtain ⟨rfl, rfl⟩ := H
    obtain ⟨Ao9, co9, eo9⟩ := Kd.R_slice HO_0.out
    subst eo9
    go_wp2
    go_ret
    exact ⟨by first | rfl | (simp [errW_none, errW_some] <;> rfl) | (simp [*, errW_none, errW_some] <;> rfl), by (with_reducible repeat (first | apply Kd.R_alloc | apply Kd.R_drewN | apply Kd.R_drew)); exact HO_0.out, by repeat (first | (with_reducible first | exact HB.out | apply below_alloc | apply pw_below_drewN | apply below_drew1) | exact HB.out), by repeat (first | (with_reducible first | exact HK.out | apply Kept.alloc | apply Kept.drewN | apply Kept.drew) | exact HK.out)⟩

/-! ### laws_heldIntS: function 12 -/
def laws_heldIntS.l0 : Nat → List Int → Int → Int → Option (Int)
 | 0, _, _, _ => none
 | k + 1, x0, x1, x5 => if x5 < (x0.length : Int) then (if 0 ≤ x5 then (if (rd x0 x5) = x1 then (laws_heldIntS.l0 k x0 (wrap64 (x1 + 1)) (wrap64 (x5 + 1))) else (some (-1))) else (none)) else (some x1)
def laws_heldIntS.f (k : Nat) (l0 : List Int) (a1 : Int) : Option (Int) := laws_heldIntS.l0 k l0 a1 0
theorem laws_heldIntS.mono_l : ∀ k, (∀ y0 y1 y2, LeO (laws_heldIntS.l0 k y0 y1 y2) (laws_heldIntS.l0 (k + 1) y0 y1 y2))
 | 0 => fun _ _ _ r h => by simp [laws_heldIntS.l0] at h
 | k + 1 => by
  have ih0 := laws_heldIntS.mono_l k
  ·intro y0 y1 y2
   unfold laws_heldIntS.l0
   repeat' first
   | (with_reducible exact ih0 _ _ _)
   | (with_reducible exact LeO.refl _)
   | (with_reducible exact LeO.none _)
   | (with_reducible refine LeO.ite ?_ ?_)
   | (with_reducible refine LeO.bind ?_ (fun _ => ?_))
   | exact ih0 _ _ _
   | exact LeO.none _
   | refine LeO.ite ?_ ?_
   | refine LeO.bind ?_ (fun _ => ?_)
theorem laws_heldIntS.mono : ∀ a0 a1 k, LeO (laws_heldIntS.f k a0 a1) (laws_heldIntS.f (k + 1) a0 a1) := by
 intro a0 a1 k
 have ih0 := laws_heldIntS.mono_l k
 unfold laws_heldIntS.f
 repeat' first
   | (with_reducible exact ih0 _ _ _)
   | (with_reducible exact LeO.refl _)
   | (with_reducible exact LeO.none _)
   | (with_reducible refine LeO.ite ?_ ?_)
   | (with_reducible refine LeO.bind ?_ (fun _ => ?_))
   | exact ih0 _ _ _
   | exact LeO.none _
   | refine LeO.ite ?_ ?_
   | refine LeO.bind ?_ (fun _ => ?_)
set_option maxHeartbeats 8000000 in
set_option maxRecDepth 100000 in
theorem laws_heldIntS.calls (k : Nat) (A0 : Option Addr) (c0 : Nat) (l0 : List Int) (a1 : Int) (r : Int) (w : World) (hr0 : Kd.C (Kd.int .i64) w A0 l0.length l0) (hc0 : l0.length ≤ c0) (h : laws_heldIntS.f k l0 a1 = some r) :
  Calls Try.prog 12 #[.slice A0 l0.length c0, .int .i64 a1] w fun e w' => e = .returned (.int .i64 r) ∧ Drawn0 w w' := by
 have HR0 := Aside0.mk hr0
 have HC0 := Aside0.mk hc0
 clear hr0 hc0
 have H : (laws_heldIntS.l0 k l0 a1 0) = some r := h
 clear h
 have H' := Aside0.mk H
 clear H
 go_enter Try.func12, Try.ntmps12
 go_wp2
 go_loopg [1, 5] k (fun kq v1 v5 w' => ∃ (x1_1 : Int) (x5_1 : Int), v1 = .int .i64 x1_1 ∧ v5 = .int .i64 x5_1 ∧ Aside0 (laws_heldIntS.l0 kq l0 x1_1 x5_1 = some r) ∧ Aside0 (kq ≤ k) ∧ Drawn0 w w')
 case atStart => exact ⟨(a1), (0), (by first | rfl | (simp; done) | (simp [*]; done)), (by first | rfl | (simp; done) | (simp [*]; done)), H', ⟨Nat.le_refl _⟩, by repeat (first | exact Drawn0.refl _ | apply Drawn0.step)⟩
 case round =>
  clear H'
  try clear c1
  try clear p2
  obtain ⟨x1_1, x5_1, rfl, rfl, HA, HK1, ⟨m1, rfl⟩⟩ := hrel
  cases gk with
  | zero => exact absurd HA.out (by simp [laws_heldIntS.l0])
  | succ k1 =>
   have H := HA.out
   clear HA
   simp only [laws_heldIntS.l0] at H
   by_cases c3 : x5_1 < (l0.length : Int)
   ·rw [if_pos c3] at H
    have c3b0 : decide (x5_1 < (l0.length : Int)) = true := decide_eq_true c3
    clear c3
    by_cases c4 : 0 ≤ x5_1
    ·rw [if_pos c4] at H
     have c4b0 : decide (0 ≤ x5_1) = true := decide_eq_true c4
     clear c4
     by_cases c5 : (rd l0 x5_1) = x1_1
     ·rw [if_pos c5] at H
      have c5b0 : ((rd l0 x5_1) == x1_1) = true := beq_iff_eq.mpr c5
      have c5b1 : ((rd l0 x5_1) != x1_1) = false := bne_eq_false_iff_eq.mpr c5
      clear c5
      have H' := Aside0.mk H
      clear H
      have p198 : 0 ≤ (x5_1 : Int) := of_decide_eq_true (by first | (with_reducible assumption) | assumption)
      have q198 : x5_1 < (l0.length : Int) := of_decide_eq_true (by first | (with_reducible assumption) | assumption)
      obtain ⟨ad198, e198, hx198_0⟩ := Kd.at_int HR0.out x5_1 p198 q198
      cases e198
      replace p198 := eq_true p198
      replace q198 := eq_true q198
      go_wp2
      go_roundg k1
      case measure => have := HK1.out; omega
      case rel => exact ⟨(wrap64 (x1_1 + 1)), (wrap64 (x5_1 + 1)), (by first | rfl | (simp; done) | (simp [*]; done)), (by first | rfl | (simp; done) | (simp [*]; done)), H', ⟨by have := HK1.out; omega⟩, by repeat (first | exact Drawn0.refl _ | apply Drawn0.step)⟩
     ·rw [if_neg c5] at H
      have c5b0 : ((rd l0 x5_1) == x1_1) = false := beq_eq_false_iff_ne.mpr c5
      have c5b1 : ((rd l0 x5_1) != x1_1) = true := bne_iff_ne.mpr c5
      obtain rfl := Option.some.inj H
      have p198 : 0 ≤ (x5_1 : Int) := of_decide_eq_true (by first | (with_reducible assumption) | assumption)
      have q198 : x5_1 < (l0.length : Int) := of_decide_eq_true (by first | (with_reducible assumption) | assumption)
      obtain ⟨ad198, e198, hx198_0⟩ := Kd.at_int HR0.out x5_1 p198 q198
      cases e198
      replace p198 := eq_true p198
      replace q198 := eq_true q198
      go_wp2
      go_ret
      exact ⟨by first | rfl | (simp; done) | (simp [*]; done), by repeat (first | exact Drawn0.refl _ | apply Drawn0.step)⟩
    ·rw [if_neg c4] at H
     exact absurd H (by simp)
   ·rw [if_neg c3] at H
    have c3b0 : decide (x5_1 < (l0.length : Int)) = false := decide_eq_false c3
    clear c3
    obtain rfl := Option.some.inj H
    go_wp2
    go_ret
    exact ⟨by first | rfl | (simp; done) | (simp [*]; done), by repeat (first | exact Drawn0.refl _ | apply Drawn0.step)⟩

/-! ### laws_FnExactAddVersion: function 3 -/
def laws_FnExactAddVersion.f (k : Nat) (l0 : List Int) (a1 : Int) : Option (Bool) := if (l0.length : Int) > 1048576 then (some true) else ((laws_toIntS.f k l0).bind fun t199 => ((spec_AddVersion.f k t199 a1).bind fun bt202 => ((laws_toIntS.f k l0).bind fun t206 => ((impl_AddVersion.f k t206 a1).bind fun bt209 => ((laws_eqIntS.f k bt209.1 bt202.1).bind fun t213 => (if t213 = true then (if (bt209.2 != bt202.2) = true then (some false) else ((laws_toIntS.f k l0).bind fun t214 => ((laws_eqIntS.f k t206 t214).bind fun t217 => (if t217 = true then ((laws_markIntS.f k t206 1).bind fun bt218 => (if bt218.1 < 0 then (some false) else ((laws_eqIntS.f k bt209.1 bt202.1).bind fun t220 => (if t220 = true then ((laws_markIntS.f k bt209.1 1).bind fun bt221 => ((laws_heldIntS.f k bt221.2 1).bind fun t223 => (if t223 < 0 then (some false) else (if t223 = bt221.1 then ((laws_toIntS.f k l0).bind fun t224 => ((impl_AddVersion.f k t224 a1).bind fun bt227 => ((laws_eqIntS.f k bt227.1 bt202.1).bind fun t231 => (if t231 = true then (if (bt227.2 != bt202.2) = true then (some false) else ((laws_heldIntS.f k bt221.2 1).bind fun t232 => (if t232 < 0 then (some false) else (if t232 = bt221.1 then (some true) else (some false))))) else (some false))))) else (some false))))) else (some false))))) else (some false))))) else (some false)))))))
set_option maxHeartbeats 8000000 in
set_option maxRecDepth 100000 in
theorem laws_FnExactAddVersion.calls (k : Nat) (A0 : Option Addr) (c0 : Nat) (l0 : List Int) (a1 : Int) (r : Bool) (w : World) (hr0 : Kd.C (Kd.int .i64) w A0 l0.length l0) (hc0 : l0.length ≤ c0) (ht_ : r = true) (h : laws_FnExactAddVersion.f k l0 a1 = some r) :
  Calls Try.prog 3 #[.slice A0 l0.length c0, .int .i64 a1] w fun e w' => e = .returned (.bool r) ∧ Below w.heap.size w w' := by
 subst ht_
 have HR0 := Aside0.mk hr0
 have HC0 := Aside0.mk hc0
 clear hr0 hc0
 have H : (if (l0.length : Int) > 1048576 then (some true) else ((laws_toIntS.f k l0).bind fun t199 => ((spec_AddVersion.f k t199 a1).bind fun bt202 => ((laws_toIntS.f k l0).bind fun t206 => ((impl_AddVersion.f k t206 a1).bind fun bt209 => ((laws_eqIntS.f k bt209.1 bt202.1).bind fun t213 => (if t213 = true then (if (bt209.2 != bt202.2) = true then (some false) else ((laws_toIntS.f k l0).bind fun t214 => ((laws_eqIntS.f k t206 t214).bind fun t217 => (if t217 = true then ((laws_markIntS.f k t206 1).bind fun bt218 => (if bt218.1 < 0 then (some false) else ((laws_eqIntS.f k bt209.1 bt202.1).bind fun t220 => (if t220 = true then ((laws_markIntS.f k bt209.1 1).bind fun bt221 => ((laws_heldIntS.f k bt221.2 1).bind fun t223 => (if t223 < 0 then (some false) else (if t223 = bt221.1 then ((laws_toIntS.f k l0).bind fun t224 => ((impl_AddVersion.f k t224 a1).bind fun bt227 => ((laws_eqIntS.f k bt227.1 bt202.1).bind fun t231 => (if t231 = true then (if (bt227.2 != bt202.2) = true then (some false) else ((laws_heldIntS.f k bt221.2 1).bind fun t232 => (if t232 < 0 then (some false) else (if t232 = bt221.1 then (some true) else (some false))))) else (some false))))) else (some false))))) else (some false))))) else (some false))))) else (some false)))))))) = some true := h
 clear h
 by_cases c1 : (l0.length : Int) > 1048576
 ·rw [if_pos c1] at H
  have f2 : decide (1048576 < (l0.length : Int)) = true := decide_eq_true c1
  have f3 : decide (1048576 < l0.length) = true := decide_eq_true (by omega)
  have Cc1 := Aside0.mk c1
  clear c1
  clear H
  go_enter Try.func3, Try.ntmps3
  go_wp2
  go_ret
  exact ⟨rfl, (Below.refl w.heap.size w)⟩
 ·rw [if_neg c1] at H
  have f4 : decide (1048576 < (l0.length : Int)) = false := decide_eq_false c1
  have f5 : decide (1048576 < l0.length) = false := decide_eq_false (by omega)
  have Cc1 := Aside0.mk c1
  clear c1
  obtain ⟨t199, A6, H⟩ := Option.bind_eq_some_iff.mp H
  have A6 := Aside0.mk A6
  obtain ⟨⟨t202, t203⟩, A7, H⟩ := Option.bind_eq_some_iff.mp H
  dsimp only at H A7
  have A7 := Aside0.mk A7
  obtain ⟨t206, A8, H⟩ := Option.bind_eq_some_iff.mp H
  have A8 := Aside0.mk A8
  obtain ⟨⟨t209, t210⟩, A9, H⟩ := Option.bind_eq_some_iff.mp H
  dsimp only at H A9
  have A9 := Aside0.mk A9
  obtain ⟨t213, A10, H⟩ := Option.bind_eq_some_iff.mp H
  have A10 := Aside0.mk A10
  by_cases c11 : t213 = true
  ·rw [if_pos c11] at H
   obtain rfl : t213 = true := by simpa using c11
   clear c11
   by_cases c12 : (t210 != t203) = true
   ·rw [if_pos c12] at H
    exact absurd H (by simp)
   ·rw [if_neg c12] at H
    have f13 : (t210 != t203) = false := by simpa using c12
    (try have f14 : decide (t210 = t203) = true := by simpa using c12)
    (try have f15 : (t210 == t203) = true := by simpa using c12)
    have Cc12 := Aside0.mk c12
    clear c12
    obtain ⟨t214, A16, H⟩ := Option.bind_eq_some_iff.mp H
    have A16 := Aside0.mk A16
    obtain ⟨t217, A17, H⟩ := Option.bind_eq_some_iff.mp H
    have A17 := Aside0.mk A17
    by_cases c18 : t217 = true
    ·rw [if_pos c18] at H
     obtain rfl : t217 = true := by simpa using c18
     clear c18
     obtain ⟨⟨t218, t219⟩, A19, H⟩ := Option.bind_eq_some_iff.mp H
     dsimp only at H A19
     have A19 := Aside0.mk A19
     by_cases c20 : t218 < 0
     ·rw [if_pos c20] at H
      exact absurd H (by simp)
     ·rw [if_neg c20] at H
      have f21 : decide (t218 < 0) = false := decide_eq_false c20
      have Cc20 := Aside0.mk c20
      clear c20
      obtain ⟨t220, A22, H⟩ := Option.bind_eq_some_iff.mp H
      have A22 := Aside0.mk A22
      by_cases c23 : t220 = true
      ·rw [if_pos c23] at H
       obtain rfl : t220 = true := by simpa using c23
       clear c23
       obtain ⟨⟨t221, t222⟩, A24, H⟩ := Option.bind_eq_some_iff.mp H
       dsimp only at H A24
       have A24 := Aside0.mk A24
       obtain ⟨t223, A25, H⟩ := Option.bind_eq_some_iff.mp H
       have A25 := Aside0.mk A25
       by_cases c26 : t223 < 0
       ·rw [if_pos c26] at H
        exact absurd H (by simp)
       ·rw [if_neg c26] at H
        have f27 : decide (t223 < 0) = false := decide_eq_false c26
        have Cc26 := Aside0.mk c26
        clear c26
        by_cases c28 : t223 = t221
        ·rw [if_pos c28] at H
         have f29 : (t223 == t221) = true := beq_iff_eq.mpr c28
         have f30 : (t223 != t221) = false := bne_eq_false_iff_eq.mpr c28
         have Cc28 := Aside0.mk c28
         clear c28
         obtain ⟨t224, A31, H⟩ := Option.bind_eq_some_iff.mp H
         have A31 := Aside0.mk A31
         obtain ⟨⟨t227, t228⟩, A32, H⟩ := Option.bind_eq_some_iff.mp H
         dsimp only at H A32
         have A32 := Aside0.mk A32
         obtain ⟨t231, A33, H⟩ := Option.bind_eq_some_iff.mp H
         have A33 := Aside0.mk A33
         by_cases c34 : t231 = true
         ·rw [if_pos c34] at H
          obtain rfl : t231 = true := by simpa using c34
          clear c34
          by_cases c35 : (t228 != t203) = true
          ·rw [if_pos c35] at H
           exact absurd H (by simp)
          ·rw [if_neg c35] at H
           have f36 : (t228 != t203) = false := by simpa using c35
           (try have f37 : decide (t228 = t203) = true := by simpa using c35)
           (try have f38 : (t228 == t203) = true := by simpa using c35)
           have Cc35 := Aside0.mk c35
           clear c35
           obtain ⟨t232, A39, H⟩ := Option.bind_eq_some_iff.mp H
           have A39 := Aside0.mk A39
           by_cases c40 : t232 < 0
           ·rw [if_pos c40] at H
            exact absurd H (by simp)
           ·rw [if_neg c40] at H
            have f41 : decide (t232 < 0) = false := decide_eq_false c40
            have Cc40 := Aside0.mk c40
            clear c40
            by_cases c42 : t232 = t221
            ·rw [if_pos c42] at H
             have f43 : (t232 == t221) = true := beq_iff_eq.mpr c42
             have f44 : (t232 != t221) = false := bne_eq_false_iff_eq.mpr c42
             have Cc42 := Aside0.mk c42
             clear c42
             clear H
             go_enter Try.func3, Try.ntmps3
             go_wp2_with fail
             refine calls_of_args (args' := #[.slice A0 l0.length c0]) (by first | rfl | rfl) ?_
             refine (laws_toIntS.calls (k := k) (l0 := l0) (hr0 := Kd.C_below HR0.out (Below.refl w.heap.size w)) (hc0 := HC0.out) (r := t199) (w := w) (h := A6.out)).mono ?_
             rintro e w45 ⟨v200, rfl, ho0, hb⟩
             have s46 := Aside0.mk hb.size
             have HO48 := Aside0.mk (Kd.R_lower (Kd.R_mono (ok' := fun k_ => (w.heap.size ≤ k_ ∧ k_ < w45.heap.size)) (Kd.R_bound ho0) (fun k_ hk_ => by have h1_ := hk_.2.1; have h2_ := hk_.2.2.1; omega)) (by have := s46.out; omega : w.heap.size ≤ w.heap.size))
             clear ho0
             obtain ⟨Ao49, co50, eq_⟩ := Kd.R_slice HO48.out
             subst eq_
             have HB47 := Aside0.mk (below_trans (Below.refl w.heap.size w) hb)
             clear hb
             go_wp2_with fail
             refine calls_of_args (args' := #[.slice Ao49 t199.length co50, .int .i64 a1]) (by first | rfl | rfl) ?_
             refine (spec_AddVersion.calls (k := k) (l0 := t199) (A0 := Ao49) (c0 := co50) (hr0 := (Kd.R_reads' HO48.out).2.2) (hc0 := by have h_ := Kd.R_reads' HO48.out; omega) (a1 := a1) (r1 := t202) (r2 := t203) (w := w45) (h := A7.out)).mono ?_
             rintro e w51 ⟨v204, rfl, ho0, hb⟩
             have s52 := Aside0.mk hb.size
             have HO54 := Aside0.mk (Kd.R_below HO48.out hb)
             clear HO48
             have HO55 := Aside0.mk (Kd.R_lower (Kd.R_mono (ok' := fun k_ => (w45.heap.size ≤ k_ ∧ k_ < w51.heap.size)) (Kd.R_bound ho0) (fun k_ hk_ => by have h1_ := hk_.2.1; have h2_ := hk_.2.2.1; omega)) (by have := s46.out; have := s52.out; omega : w.heap.size ≤ w45.heap.size))
             clear ho0
             obtain ⟨Ao56, co57, eq_⟩ := Kd.R_slice HO55.out
             subst eq_
             have HB53 := Aside0.mk (below_trans HB47.out hb)
             clear hb
             go_wp2_with fail
             refine calls_of_args (args' := #[.slice A0 l0.length c0]) (by first | rfl | rfl) ?_
             refine (laws_toIntS.calls (k := k) (l0 := l0) (hr0 := Kd.C_below HR0.out HB53.out) (hc0 := HC0.out) (r := t206) (w := w51) (h := A8.out)).mono ?_
             rintro e w58 ⟨v207, rfl, ho0, hb⟩
             have s59 := Aside0.mk hb.size
             have HO61 := Aside0.mk (Kd.R_below HO54.out hb)
             clear HO54
             have HO62 := Aside0.mk (Kd.R_below HO55.out hb)
             clear HO55
             have HO63 := Aside0.mk (Kd.R_lower (Kd.R_mono (ok' := fun k_ => (w51.heap.size ≤ k_ ∧ k_ < w58.heap.size)) (Kd.R_bound ho0) (fun k_ hk_ => by have h1_ := hk_.2.1; have h2_ := hk_.2.2.1; omega)) (by have := s46.out; have := s52.out; have := s59.out; omega : w.heap.size ≤ w51.heap.size))
             clear ho0
             obtain ⟨Ao64, co65, eq_⟩ := Kd.R_slice HO63.out
             subst eq_
             have HB60 := Aside0.mk (below_trans HB53.out hb)
             clear hb
             go_wp2_with fail
             refine calls_of_args (args' := #[.slice Ao64 t206.length co65, .int .i64 a1]) (by first | rfl | rfl) ?_
             refine (impl_AddVersion.calls (k := k) (l0 := t206) (A0 := Ao64) (c0 := co65) (hr0 := (Kd.R_reads' HO63.out).2.2) (hc0 := by have h_ := Kd.R_reads' HO63.out; omega) (a1 := a1) (r1 := t209) (r2 := t210) (w := w58) (h := A9.out)).mono ?_
             rintro e w66 ⟨v211, rfl, ho0, hb⟩
             have s67 := Aside0.mk hb.size
             have HO69 := Aside0.mk (Kd.R_below HO61.out hb)
             clear HO61
             have HO70 := Aside0.mk (Kd.R_below HO62.out hb)
             clear HO62
             have HO71 := Aside0.mk (Kd.R_below HO63.out hb)
             clear HO63
             have HO72 := Aside0.mk (Kd.R_lower (Kd.R_mono (ok' := fun k_ => (w58.heap.size ≤ k_ ∧ k_ < w66.heap.size)) (Kd.R_bound ho0) (fun k_ hk_ => by have h1_ := hk_.2.1; have h2_ := hk_.2.2.1; omega)) (by have := s46.out; have := s52.out; have := s59.out; have := s67.out; omega : w.heap.size ≤ w58.heap.size))
             clear ho0
             obtain ⟨Ao73, co74, eq_⟩ := Kd.R_slice HO72.out
             subst eq_
             have HB68 := Aside0.mk (below_trans HB60.out hb)
             clear hb
             go_wp2_with fail
             refine calls_of_args (args' := #[.slice Ao73 t209.length co74, .slice Ao56 t202.length co57]) (by first | rfl | rfl) ?_
             refine (laws_eqIntS.calls (k := k) (l0 := t209) (A0 := Ao73) (c0 := co74) (hr0 := (Kd.R_reads' HO72.out).2.2) (hc0 := by have h_ := Kd.R_reads' HO72.out; omega) (l1 := t202) (A1 := Ao56) (c1 := co57) (hr1 := (Kd.R_reads' HO70.out).2.2) (hc1 := by have h_ := Kd.R_reads' HO70.out; omega) (r := true) (w := w66) (h := A10.out)).mono ?_
             rintro e w75 ⟨rfl, hd_⟩
             have hb := hd_.below
             clear hd_
             have s76 := Aside0.mk hb.size
             have HO78 := Aside0.mk (Kd.R_below HO69.out hb)
             clear HO69
             have HO79 := Aside0.mk (Kd.R_below HO70.out hb)
             clear HO70
             have HO80 := Aside0.mk (Kd.R_below HO71.out hb)
             clear HO71
             have HO81 := Aside0.mk (Kd.R_below HO72.out hb)
             clear HO72
             have HB77 := Aside0.mk (below_trans HB68.out hb)
             clear hb
             go_wp2_with fail
             refine calls_of_args (args' := #[.slice A0 l0.length c0]) (by first | rfl | rfl) ?_
             refine (laws_toIntS.calls (k := k) (l0 := l0) (hr0 := Kd.C_below HR0.out HB77.out) (hc0 := HC0.out) (r := t214) (w := w75) (h := A16.out)).mono ?_
             rintro e w82 ⟨v215, rfl, ho0, hb⟩
             have s83 := Aside0.mk hb.size
             have HO85 := Aside0.mk (Kd.R_below HO78.out hb)
             clear HO78
             have HO86 := Aside0.mk (Kd.R_below HO79.out hb)
             clear HO79
             have HO87 := Aside0.mk (Kd.R_below HO80.out hb)
             clear HO80
             have HO88 := Aside0.mk (Kd.R_below HO81.out hb)
             clear HO81
             have HO89 := Aside0.mk (Kd.R_lower (Kd.R_mono (ok' := fun k_ => (w75.heap.size ≤ k_ ∧ k_ < w82.heap.size)) (Kd.R_bound ho0) (fun k_ hk_ => by have h1_ := hk_.2.1; have h2_ := hk_.2.2.1; omega)) (by have := s46.out; have := s52.out; have := s59.out; have := s67.out; have := s76.out; have := s83.out; omega : w.heap.size ≤ w75.heap.size))
             clear ho0
             obtain ⟨Ao90, co91, eq_⟩ := Kd.R_slice HO89.out
             subst eq_
             have HB84 := Aside0.mk (below_trans HB77.out hb)
             clear hb
             go_wp2_with fail
             refine calls_of_args (args' := #[.slice Ao64 t206.length co65, .slice Ao90 t214.length co91]) (by first | rfl | rfl) ?_
             refine (laws_eqIntS.calls (k := k) (l0 := t206) (A0 := Ao64) (c0 := co65) (hr0 := (Kd.R_reads' HO87.out).2.2) (hc0 := by have h_ := Kd.R_reads' HO87.out; omega) (l1 := t214) (A1 := Ao90) (c1 := co91) (hr1 := (Kd.R_reads' HO89.out).2.2) (hc1 := by have h_ := Kd.R_reads' HO89.out; omega) (r := true) (w := w82) (h := A17.out)).mono ?_
             rintro e w92 ⟨rfl, hd_⟩
             have hb := hd_.below
             clear hd_
             have s93 := Aside0.mk hb.size
             have HO95 := Aside0.mk (Kd.R_below HO85.out hb)
             clear HO85
             have HO96 := Aside0.mk (Kd.R_below HO86.out hb)
             clear HO86
             have HO97 := Aside0.mk (Kd.R_below HO87.out hb)
             clear HO87
             have HO98 := Aside0.mk (Kd.R_below HO88.out hb)
             clear HO88
             have HO99 := Aside0.mk (Kd.R_below HO89.out hb)
             clear HO89
             have HB94 := Aside0.mk (below_trans HB84.out hb)
             clear hb
             go_wp2_with fail
             refine calls_of_args (args' := #[.slice Ao64 t206.length co65, .int .i64 1]) (by first | rfl | rfl) ?_
             refine (laws_markIntS.calls (k := k) (l0 := t206) (P0_ := fun k_ => (w51.heap.size ≤ k_ ∧ k_ < w58.heap.size)) (u9000_ := .slice Ao64 t206.length co65) (ho0 := HO97.out) (a1 := 1) (r1 := t218) (r2 := t219) (w := w92) (w0 := w) (hB := HB94.out) (h := A19.out)).mono ?_
             rintro e w100 ⟨rfl, hy0, hb, hkp⟩
             have s101 := Aside0.mk hkp.1
             have HB102 := Aside0.mk hb
             have HO103 := Aside0.mk (Kd.R_kept HO95.out hkp (fun k_ hk_ hs_ => by have := s46.out; have := s52.out; have := s59.out; have := s67.out; have := s76.out; have := s83.out; have := s93.out; have := s101.out; omega))
             clear HO95
             have HO104 := Aside0.mk (Kd.R_kept HO96.out hkp (fun k_ hk_ hs_ => by have := s46.out; have := s52.out; have := s59.out; have := s67.out; have := s76.out; have := s83.out; have := s93.out; have := s101.out; omega))
             clear HO96
             have HO105 := Aside0.mk (Kd.R_kept HO98.out hkp (fun k_ hk_ hs_ => by have := s46.out; have := s52.out; have := s59.out; have := s67.out; have := s76.out; have := s83.out; have := s93.out; have := s101.out; omega))
             clear HO98
             have HO106 := Aside0.mk (Kd.R_kept HO99.out hkp (fun k_ hk_ hs_ => by have := s46.out; have := s52.out; have := s59.out; have := s67.out; have := s76.out; have := s83.out; have := s93.out; have := s101.out; omega))
             clear HO99
             have HO107 := Aside0.mk (Kd.R_mono (ok' := fun k_ => (w51.heap.size ≤ k_ ∧ k_ < w58.heap.size) ∨ (w92.heap.size ≤ k_ ∧ k_ < w100.heap.size)) (Kd.R_bound hy0) (fun k_ hk_ => by have h1_ := hk_.1; have h2_ := hk_.2.2.1; have := s46.out; have := s52.out; have := s59.out; have := s67.out; have := s76.out; have := s83.out; have := s93.out; have := s101.out; omega))
             clear HO97
             clear hb hkp hy0
             go_wp2_with fail
             refine calls_of_args (args' := #[.slice Ao73 t209.length co74, .slice Ao56 t202.length co57]) (by first | rfl | (rw [← (Kd.R_reads' HO107.out).1])) ?_
             refine (laws_eqIntS.calls (k := k) (l0 := t209) (A0 := Ao73) (c0 := co74) (hr0 := (Kd.R_reads' HO105.out).2.2) (hc0 := by have h_ := Kd.R_reads' HO105.out; omega) (l1 := t202) (A1 := Ao56) (c1 := co57) (hr1 := (Kd.R_reads' HO104.out).2.2) (hc1 := by have h_ := Kd.R_reads' HO104.out; omega) (r := true) (w := w100) (h := A22.out)).mono ?_
             rintro e w108 ⟨rfl, hd_⟩
             have hb := hd_.below
             clear hd_
             have s109 := Aside0.mk hb.size
             have HO111 := Aside0.mk (Kd.R_below HO103.out hb)
             clear HO103
             have HO112 := Aside0.mk (Kd.R_below HO104.out hb)
             clear HO104
             have HO113 := Aside0.mk (Kd.R_below HO107.out hb)
             clear HO107
             have HO114 := Aside0.mk (Kd.R_below HO105.out hb)
             clear HO105
             have HO115 := Aside0.mk (Kd.R_below HO106.out hb)
             clear HO106
             have HB110 := Aside0.mk (below_trans HB102.out hb)
             clear hb
             go_wp2_with fail
             refine calls_of_args (args' := #[.slice Ao73 t209.length co74, .int .i64 1]) (by first | rfl | (rw [← (Kd.R_reads' HO113.out).1])) ?_
             refine (laws_markIntS.calls (k := k) (l0 := t209) (P0_ := fun k_ => (w58.heap.size ≤ k_ ∧ k_ < w66.heap.size)) (u9000_ := .slice Ao73 t209.length co74) (ho0 := HO114.out) (a1 := 1) (r1 := t221) (r2 := t222) (w := w108) (w0 := w) (hB := HB110.out) (h := A24.out)).mono ?_
             rintro e w116 ⟨rfl, hy0, hb, hkp⟩
             have s117 := Aside0.mk hkp.1
             have HB118 := Aside0.mk hb
             have HO119 := Aside0.mk (Kd.R_kept HO111.out hkp (fun k_ hk_ hs_ => by have := s46.out; have := s52.out; have := s59.out; have := s67.out; have := s76.out; have := s83.out; have := s93.out; have := s101.out; have := s109.out; have := s117.out; omega))
             clear HO111
             have HO120 := Aside0.mk (Kd.R_kept HO112.out hkp (fun k_ hk_ hs_ => by have := s46.out; have := s52.out; have := s59.out; have := s67.out; have := s76.out; have := s83.out; have := s93.out; have := s101.out; have := s109.out; have := s117.out; omega))
             clear HO112
             have HO121 := Aside0.mk (Kd.R_kept HO113.out hkp (fun k_ hk_ hs_ => by have := s46.out; have := s52.out; have := s59.out; have := s67.out; have := s76.out; have := s83.out; have := s93.out; have := s101.out; have := s109.out; have := s117.out; omega))
             clear HO113
             have HO122 := Aside0.mk (Kd.R_kept HO115.out hkp (fun k_ hk_ hs_ => by have := s46.out; have := s52.out; have := s59.out; have := s67.out; have := s76.out; have := s83.out; have := s93.out; have := s101.out; have := s109.out; have := s117.out; omega))
             clear HO115
             have HO123 := Aside0.mk (Kd.R_mono (ok' := fun k_ => (w58.heap.size ≤ k_ ∧ k_ < w66.heap.size) ∨ (w108.heap.size ≤ k_ ∧ k_ < w116.heap.size)) (Kd.R_bound hy0) (fun k_ hk_ => by have h1_ := hk_.1; have h2_ := hk_.2.2.1; have := s46.out; have := s52.out; have := s59.out; have := s67.out; have := s76.out; have := s83.out; have := s93.out; have := s101.out; have := s109.out; have := s117.out; omega))
             clear HO114
             clear hb hkp hy0
             go_wp2_with fail
             refine calls_of_args (args' := #[.slice Ao73 t222.length co74, .int .i64 1]) (by first | rfl | (rw [← (Kd.R_reads' HO121.out).1]) | (rw [← (Kd.R_reads' HO123.out).1])) ?_
             refine (laws_heldIntS.calls (k := k) (l0 := t222) (A0 := Ao73) (c0 := co74) (hr0 := (Kd.R_reads' HO123.out).2.2) (hc0 := by have h_ := Kd.R_reads' HO123.out; omega) (a1 := 1) (r := t223) (w := w116) (h := A25.out)).mono ?_
             rintro e w124 ⟨rfl, hd_⟩
             have hb := hd_.below
             clear hd_
             have s125 := Aside0.mk hb.size
             have HO127 := Aside0.mk (Kd.R_below HO119.out hb)
             clear HO119
             have HO128 := Aside0.mk (Kd.R_below HO120.out hb)
             clear HO120
             have HO129 := Aside0.mk (Kd.R_below HO121.out hb)
             clear HO121
             have HO130 := Aside0.mk (Kd.R_below HO123.out hb)
             clear HO123
             have HO131 := Aside0.mk (Kd.R_below HO122.out hb)
             clear HO122
             have HB126 := Aside0.mk (below_trans HB118.out hb)
             clear hb
             go_wp2_with fail
             refine calls_of_args (args' := #[.slice A0 l0.length c0]) (by first | rfl | (rw [← (Kd.R_reads' HO129.out).1]) | (rw [← (Kd.R_reads' HO130.out).1])) ?_
             refine (laws_toIntS.calls (k := k) (l0 := l0) (hr0 := Kd.C_below HR0.out HB126.out) (hc0 := HC0.out) (r := t224) (w := w124) (h := A31.out)).mono ?_
             rintro e w132 ⟨v225, rfl, ho0, hb⟩
             have s133 := Aside0.mk hb.size
             have HO135 := Aside0.mk (Kd.R_below HO127.out hb)
             clear HO127
             have HO136 := Aside0.mk (Kd.R_below HO128.out hb)
             clear HO128
             have HO137 := Aside0.mk (Kd.R_below HO129.out hb)
             clear HO129
             have HO138 := Aside0.mk (Kd.R_below HO130.out hb)
             clear HO130
             have HO139 := Aside0.mk (Kd.R_below HO131.out hb)
             clear HO131
             have HO140 := Aside0.mk (Kd.R_lower (Kd.R_mono (ok' := fun k_ => (w124.heap.size ≤ k_ ∧ k_ < w132.heap.size)) (Kd.R_bound ho0) (fun k_ hk_ => by have h1_ := hk_.2.1; have h2_ := hk_.2.2.1; omega)) (by have := s46.out; have := s52.out; have := s59.out; have := s67.out; have := s76.out; have := s83.out; have := s93.out; have := s101.out; have := s109.out; have := s117.out; have := s125.out; have := s133.out; omega : w.heap.size ≤ w124.heap.size))
             clear ho0
             obtain ⟨Ao141, co142, eq_⟩ := Kd.R_slice HO140.out
             subst eq_
             have HB134 := Aside0.mk (below_trans HB126.out hb)
             clear hb
             go_wp2_with fail
             refine calls_of_args (args' := #[.slice Ao141 t224.length co142, .int .i64 a1]) (by first | rfl | (rw [← (Kd.R_reads' HO137.out).1]) | (rw [← (Kd.R_reads' HO138.out).1])) ?_
             refine (impl_AddVersion.calls (k := k) (l0 := t224) (A0 := Ao141) (c0 := co142) (hr0 := (Kd.R_reads' HO140.out).2.2) (hc0 := by have h_ := Kd.R_reads' HO140.out; omega) (a1 := a1) (r1 := t227) (r2 := t228) (w := w132) (h := A32.out)).mono ?_
             rintro e w143 ⟨v229, rfl, ho0, hb⟩
             have s144 := Aside0.mk hb.size
             have HO146 := Aside0.mk (Kd.R_below HO135.out hb)
             clear HO135
             have HO147 := Aside0.mk (Kd.R_below HO136.out hb)
             clear HO136
             have HO148 := Aside0.mk (Kd.R_below HO137.out hb)
             clear HO137
             have HO149 := Aside0.mk (Kd.R_below HO138.out hb)
             clear HO138
             have HO150 := Aside0.mk (Kd.R_below HO139.out hb)
             clear HO139
             have HO151 := Aside0.mk (Kd.R_below HO140.out hb)
             clear HO140
             have HO152 := Aside0.mk (Kd.R_lower (Kd.R_mono (ok' := fun k_ => (w132.heap.size ≤ k_ ∧ k_ < w143.heap.size)) (Kd.R_bound ho0) (fun k_ hk_ => by have h1_ := hk_.2.1; have h2_ := hk_.2.2.1; omega)) (by have := s46.out; have := s52.out; have := s59.out; have := s67.out; have := s76.out; have := s83.out; have := s93.out; have := s101.out; have := s109.out; have := s117.out; have := s125.out; have := s133.out; have := s144.out; omega : w.heap.size ≤ w132.heap.size))
             clear ho0
             obtain ⟨Ao153, co154, eq_⟩ := Kd.R_slice HO152.out
             subst eq_
             have HB145 := Aside0.mk (below_trans HB134.out hb)
             clear hb
             go_wp2_with fail
             refine calls_of_args (args' := #[.slice Ao153 t227.length co154, .slice Ao56 t202.length co57]) (by first | rfl | (rw [← (Kd.R_reads' HO148.out).1]) | (rw [← (Kd.R_reads' HO149.out).1])) ?_
             refine (laws_eqIntS.calls (k := k) (l0 := t227) (A0 := Ao153) (c0 := co154) (hr0 := (Kd.R_reads' HO152.out).2.2) (hc0 := by have h_ := Kd.R_reads' HO152.out; omega) (l1 := t202) (A1 := Ao56) (c1 := co57) (hr1 := (Kd.R_reads' HO147.out).2.2) (hc1 := by have h_ := Kd.R_reads' HO147.out; omega) (r := true) (w := w143) (h := A33.out)).mono ?_
             rintro e w155 ⟨rfl, hd_⟩
             have hb := hd_.below
             clear hd_
             have s156 := Aside0.mk hb.size
             have HO158 := Aside0.mk (Kd.R_below HO146.out hb)
             clear HO146
             have HO159 := Aside0.mk (Kd.R_below HO147.out hb)
             clear HO147
             have HO160 := Aside0.mk (Kd.R_below HO148.out hb)
             clear HO148
             have HO161 := Aside0.mk (Kd.R_below HO149.out hb)
             clear HO149
             have HO162 := Aside0.mk (Kd.R_below HO150.out hb)
             clear HO150
             have HO163 := Aside0.mk (Kd.R_below HO151.out hb)
             clear HO151
             have HO164 := Aside0.mk (Kd.R_below HO152.out hb)
             clear HO152
             have HB157 := Aside0.mk (below_trans HB145.out hb)
             clear hb
             go_wp2_with fail
             refine calls_of_args (args' := #[.slice Ao73 t222.length co74, .int .i64 1]) (by first | rfl | (rw [← (Kd.R_reads' HO160.out).1]) | (rw [← (Kd.R_reads' HO161.out).1])) ?_
             refine (laws_heldIntS.calls (k := k) (l0 := t222) (A0 := Ao73) (c0 := co74) (hr0 := (Kd.R_reads' HO161.out).2.2) (hc0 := by have h_ := Kd.R_reads' HO161.out; omega) (a1 := 1) (r := t232) (w := w155) (h := A39.out)).mono ?_
             rintro e w165 ⟨rfl, hd_⟩
             have hb := hd_.below
             clear hd_
             have s166 := Aside0.mk hb.size
             have HO168 := Aside0.mk (Kd.R_below HO158.out hb)
             clear HO158
             have HO169 := Aside0.mk (Kd.R_below HO159.out hb)
             clear HO159
             have HO170 := Aside0.mk (Kd.R_below HO160.out hb)
             clear HO160
             have HO171 := Aside0.mk (Kd.R_below HO161.out hb)
             clear HO161
             have HO172 := Aside0.mk (Kd.R_below HO162.out hb)
             clear HO162
             have HO173 := Aside0.mk (Kd.R_below HO163.out hb)
             clear HO163
             have HO174 := Aside0.mk (Kd.R_below HO164.out hb)
             clear HO164
             have HB167 := Aside0.mk (below_trans HB157.out hb)
             clear hb
             go_wp2
             go_ret
             exact ⟨rfl, HB167.out⟩
            ·rw [if_neg c42] at H
             exact absurd H (by simp)
         ·rw [if_neg c34] at H
          exact absurd H (by simp)
        ·rw [if_neg c28] at H
         exact absurd H (by simp)
      ·rw [if_neg c23] at H
       exact absurd H (by simp)
    ·rw [if_neg c18] at H
     exact absurd H (by simp)
  ·rw [if_neg c11] at H
   exact absurd H (by simp)


/-- The pure statement of laws_FnExactAddVersion. -/
def laws_FnExactAddVersion.Pure : Prop := ∀ (l0 : List Int) (a1 : Int), l0.length ≤ 9223372036854775807 → (∀ x ∈ l0, (Lit.int .i64 x).wf = true) → (Lit.int .i64 a1).wf = true → ∃ k, laws_FnExactAddVersion.f k l0 a1 = some true

end Go.Proofs.Ytdajgpnkbinbiaa.PFnExactAddVersion
