-- WRITTEN by pp.py, this session's own wrapper around the print; not trusted: Lean checks it
import Derived.Test.YtfibjclnaeocbaaPFnPairsx0
namespace Go.Proofs.Ytfibjclnaeocbaa.PFnPairs
open Go.RowKit Go.Proofs.Ytfibjclnaeocbaa.Hw Go.Proofs.YtfibjclnaeocbaaW.PrintWords Go.Proofs.YtfibjclnaeocbaaW.PrintLast Go.Proofs.YtfibjclnaeocbaaW.PrintMore
attribute [local go_sem] max2_int min2_int max_two min_two max_three min_three max_four min_four   -- for this text's walks alone
set_option linter.unusedVariables false
set_option linter.unusedSimpArgs false
set_option linter.unusedSectionVars false

/-! ### spec_l4Put: function 42 -/
def spec_l4Put.l0 : Nat → List Int → Int → Int → Option (List Int)
 | 0, _, _, _ => none
 | k + 1, x0, x1, x5 => if x5 < (x0.length : Int) then (if 0 ≤ x5 then (if (rd x0 x5) < x1 then (spec_l4Put.l0 k x0 x1 (wrap64 (x5 + 1))) else (if (rd x0 x5) = x1 then ((some (([] : List Int) : List Int)).bind fun y484 => (if y484.length + x0.length < 17592186044416 then (some (y484 ++ x0)) else (none))) else ((some (([] : List Int) : List Int)).bind fun y490 => (if x5 ≤ (x0.length : Int) then (if y490.length + (x0.take (x5 : Int).toNat).length < 17592186044416 then ((some (y490 ++ (x0.take (x5 : Int).toNat) : List Int)).bind fun y494 => ((some (([x1] : List Int) : List Int)).bind fun y497 => (if y494.length + y497.length < 17592186044416 then ((some (y494 ++ y497 : List Int)).bind fun y500 => (if y500.length + (x0.drop (x5 : Int).toNat).length < 17592186044416 then (some (y500 ++ (x0.drop (x5 : Int).toNat))) else (none))) else (none)))) else (none)) else (none))))) else (none)) else ((some (([] : List Int) : List Int)).bind fun y507 => (if 0 ≤ x5 then (if x5 ≤ (x0.length : Int) then (if y507.length + (x0.take (x5 : Int).toNat).length < 17592186044416 then ((some (y507 ++ (x0.take (x5 : Int).toNat) : List Int)).bind fun y511 => ((some (([x1] : List Int) : List Int)).bind fun y514 => (if y511.length + y514.length < 17592186044416 then ((some (y511 ++ y514 : List Int)).bind fun y517 => (if y517.length + (x0.drop (x5 : Int).toNat).length < 17592186044416 then (some (y517 ++ (x0.drop (x5 : Int).toNat))) else (none))) else (none)))) else (none)) else (none)) else (none)))
def spec_l4Put.f (k : Nat) (l0 : List Int) (a1 : Int) : Option (List Int) := spec_l4Put.l0 k l0 a1 0
theorem spec_l4Put.mono_l : ∀ k, (∀ y0 y1 y2, LeO (spec_l4Put.l0 k y0 y1 y2) (spec_l4Put.l0 (k + 1) y0 y1 y2))
 | 0 => fun _ _ _ r h => by simp [spec_l4Put.l0] at h
 | k + 1 => by
  have ih0 := spec_l4Put.mono_l k
  ·intro y0 y1 y2
   unfold spec_l4Put.l0
   repeat' first
   | (with_reducible first | exact ih0 _ _ _ | exact LeO.refl _ | exact LeO.none _ | refine LeO.ite ?_ ?_ | refine LeO.bind ?_ (fun _ => ?_))
   | exact ih0 _ _ _
   | exact LeO.none _
   | refine LeO.ite ?_ ?_
   | refine LeO.bind ?_ (fun _ => ?_)
theorem spec_l4Put.mono : ∀ a0 a1 k, LeO (spec_l4Put.f k a0 a1) (spec_l4Put.f (k + 1) a0 a1) := by
 intro a0 a1 k
 have ih0 := spec_l4Put.mono_l k
 unfold spec_l4Put.f
 repeat' first
   | (with_reducible first | exact ih0 _ _ _ | exact LeO.refl _ | exact LeO.none _ | refine LeO.ite ?_ ?_ | refine LeO.bind ?_ (fun _ => ?_))
   | exact ih0 _ _ _
   | exact LeO.none _
   | refine LeO.ite ?_ ?_
   | refine LeO.bind ?_ (fun _ => ?_)
def spec_l4Put.T6 : Bool × List (List Nat × List Nat) := (true, [([], []), ([], []), ([], []), ([1, 2], [1, 2]), ([0, 3], [0, 3]), ([], []), ([5], [5]), ([4, 6, 4], [4, 6]), ([], []), ([], []), ([8, 9], [8, 9]), ([7, 10, 7], [7, 10]), ([11, 11, 0, 1, 2, 3, 4, 5, 6, 7, 8, 9, 10, 11], [11])])
def spec_l4Put.B6 : List Nat := [0, 0, 0, 6, 15, 0, 32, 127, 0, 0, 768, 2047, 4095]
theorem spec_l4Put.tab6 : rtab .any (opsOf Try.f42 6) = spec_l4Put.T6 := by kernel_rfl
theorem spec_l4Put.bits6 : waitsOk spec_l4Put.T6.2 spec_l4Put.B6 = true := by kernel_rfl
set_option maxHeartbeats 8000000 in
set_option maxRecDepth 100000 in
theorem spec_l4Put.calls (k : Nat) (A0 : Option Addr) (c0 : Nat) (l0 : List Int) (a1 : Int) (r : List Int) (w : World) (hr0 : Kd.C (Kd.int .i64) w A0 l0.length l0) (hc0 : l0.length ≤ c0) (h : spec_l4Put.f k l0 a1 = some r) :
  Calls Try.prog 42 #[.slice A0 l0.length c0, .int .i64 a1] w fun e w' => ∃ v0_ : Value, e = .returned (v0_) ∧ Kd.R (Kd.int .i64) 3 w' w.heap.size (fun _ => True) v0_ r ∧ Below w.heap.size w w' := by
 have HR0 := aM hr0
 have HC0 := aM hc0
 clear hr0 hc0
 have HB := aM (Below.refl w.heap.size w)
 have H : (spec_l4Put.l0 k l0 a1 0) = some r := h
 clear h
 have H' := aM H
 clear H
 go_enter Try.func42, Try.ntmps42
 go_wp2
 go_loopg [5] k (fun kq v5 w' => ∃ (x5_1 : Int), v5 = .int .i64 x5_1 ∧ Aside0 (spec_l4Put.l0 kq l0 a1 x5_1 = some r) ∧ Aside0 (kq ≤ k) ∧ Aside0 (Below w.heap.size w w'))
 case atStart => exact ⟨(0), zF, H', ⟨Nat.le_refl _⟩, ⟨zB HB⟩⟩
 case round =>
  clear H'
  try clear p2
  obtain ⟨x5_1, rfl, HA, HK1, HB⟩ := hrel
  cases gk with
  | zero => exact absurd HA.o (by simp [spec_l4Put.l0])
  | succ k1 =>
   have H := HA.o
   clear HA
   simp only [spec_l4Put.l0] at H
   by_cases c3 : x5_1 < (l0.length : Int)
   ·rw [if_pos c3] at H
    have c3b0 : decide (x5_1 < (l0.length : Int)) = true := dT c3
    clear c3
    obtain ⟨c4, H⟩ := ifS H
    have c4b0 : decide (0 ≤ x5_1) = true := dT c4
    clear c4
    by_cases c5 : (rd l0 x5_1) < a1
    ·rw [if_pos c5] at H
     have c5b0 : decide ((rd l0 x5_1) < a1) = true := dT c5
     clear c5
     have H' := aM H
     clear H
     have p482 : 0 ≤ (x5_1 : Int) := zD
     have q482 : x5_1 < (l0.length : Int) := zD
     obtain ⟨ad482, e482, hx482_0⟩ := Kd.at_int HR0.o x5_1 p482 q482
     cases e482
     replace hx482_0 := hL HB hx482_0
     replace p482 := eq_true p482
     replace q482 := eq_true q482
     go_wp2
     go_roundg k1
     case measure => have := HK1.o; omega
     case rel => exact ⟨(wrap64 (x5_1 + 1)), zF, H', ⟨by have := HK1.o; omega⟩, ⟨zB HB⟩⟩
    ·rw [if_neg c5] at H
     have c5b0 : decide ((rd l0 x5_1) < a1) = false := decide_eq_false c5
     clear c5
     by_cases c6 : (rd l0 x5_1) = a1
     ·rw [if_pos c6] at H
      have c6b0 : ((rd l0 x5_1) == a1) = true := beq_iff_eq.mpr c6
      have c6b1 : ((rd l0 x5_1) != a1) = false := bne_eq_false_iff_eq.mpr c6
      clear c6
      obtain ⟨y484, hy484⟩ : ∃ y_ : List Int, y_ = (([] : List Int)) := ⟨_, rfl⟩
      replace H : (if y484.length + l0.length < 17592186044416 then (some (y484 ++ l0)) else (none)) = some r := by first | (rw [hy484]; with_reducible exact H) | (rw [hy484]; exact H) | exact H
      have Ny484 := aM hy484
      clear hy484
      obtain ⟨c7, H⟩ := ifS H
      have LMc7 := aM c7
      clear c7
      obtain ⟨y487, hy487⟩ : ∃ y_ : List Int, y_ = (y484 ++ l0) := ⟨_, rfl⟩
      replace H : (some y487) = some r := by first | (rw [hy487]; with_reducible exact H) | (rw [hy487]; exact H) | exact H
      have Ny487 := aM hy487
      clear hy487
      obtain rfl := oI H
      have p482 : 0 ≤ (x5_1 : Int) := zD
      have q482 : x5_1 < (l0.length : Int) := zD
      obtain ⟨ad482, e482, hx482_0⟩ := Kd.at_int HR0.o x5_1 p482 q482
      cases e482
      replace hx482_0 := hL HB hx482_0
      replace p482 := eq_true p482
      replace q482 := eq_true q482
      have p483 : 0 ≤ (x5_1 : Int) := zD
      have q483 : x5_1 < (l0.length : Int) := zD
      obtain ⟨ad483, e483, hx483_0⟩ := Kd.at_int HR0.o x5_1 p483 q483
      obtain rfl : ad482 = ad483 := (by injection e483)
      replace hx483_0 := hL HB hx483_0
      replace p483 := eq_true p483
      replace q483 := eq_true q483
      go_wp2_with (first | ((with_reducible refine gD (N := 32) rfl ?_); refine Kd.R_lit (Kd.int .i64) _ 3 ?hg (N := 32) ?hd (xs := ([] : List Int)) (inner := []) (ok := fun _ => True) (okp := fun _ => True) ?hr ?hp (fun _ hk => hk) trivial (Below.refl _ _) (Nat.le_refl _) (by simp) ?_; (case hd => rfl); (case hg => rfl); (case hr => first | (go_simp; done) | (go_simp; rfl)); (case hp => exact (Reps.none _ _)); intro v485 w8 ho9 hb hg_ hnew_; clear hg_ hnew_; (first | rw [← Ny484.o] at ho9 | (simp only [Int.reduceToNat] at ho9; rw [← Ny484.o] at ho9)); have HO486 := aM (rO ho9 (bZ (zB HB))); replace HB := bS HB hb; clear hb ho9) | ((with_reducible refine gate_builtin (b := .append) (xs := #[.tmp 32, .tmp 33]) rfl ?_); at_builtin; refine Kd.R_append_rows (Kd.int .i64) (w0 := w) w.heap.size rfl (.tmp 32) (.tmp 33) 31 3 (.int .i64 0) 8 rfl Try.underlying31 info3 rfl (by decide) (by omega) v485 y484 l0 _ _ _ (fun _ => True) (fun _ => False) rfl rfl ?aO ?aR (fun _ _ h => h) (fun _ h => h.elim) ?aF ?aB ?aS ?aL ?_; (case aR => repeat (first | exact (Kd.C_below HR0.o HB.o) | (with_reducible refine qA ?_ _) | (with_reducible refine qN ?_ _) | (with_reducible refine qD ?_))); (case aB => exact (zB HB)); (case aF => exact (fun _ _ => trivial)); (case aO => exact (zR HO486)); (case aS => exact (bZ (zB HB))); (case aL => have := LMc7.o; omega); intro v488 w10 ho hb hg hat; rw [← Ny487.o] at ho; replace HB := aM (hb); have HO489 := aM (ho); clear HO486; clear ho hb hg hat))
      go_ret
      exact ⟨_, zE, by (with_reducible repeat (first | apply rA | apply rN | apply rD)); exact HO489.o, zB HB⟩
     ·rw [if_neg c6] at H
      have c6b0 : ((rd l0 x5_1) == a1) = false := beq_eq_false_iff_ne.mpr c6
      have c6b1 : ((rd l0 x5_1) != a1) = true := bne_iff_ne.mpr c6
      obtain ⟨y490, hy490⟩ : ∃ y_ : List Int, y_ = (([] : List Int)) := ⟨_, rfl⟩
      replace H : (if x5_1 ≤ (l0.length : Int) then (if y490.length + (l0.take (x5_1 : Int).toNat).length < 17592186044416 then ((some (y490 ++ (l0.take (x5_1 : Int).toNat) : List Int)).bind fun y494 => ((some (([a1] : List Int) : List Int)).bind fun y497 => (if y494.length + y497.length < 17592186044416 then ((some (y494 ++ y497 : List Int)).bind fun y500 => (if y500.length + (l0.drop (x5_1 : Int).toNat).length < 17592186044416 then (some (y500 ++ (l0.drop (x5_1 : Int).toNat))) else (none))) else (none)))) else (none)) else (none)) = some r := by first | (rw [hy490]; with_reducible exact H) | (rw [hy490]; exact H) | exact H
      have Ny490 := aM hy490
      clear hy490
      have c11b0 := eq_true (zD : 0 ≤ x5_1)
      obtain ⟨c12, H⟩ := ifS H
      have c12b0 := eq_true c12
      have c12b1 : decide (x5_1 ≤ (l0.length : Int)) = true := dT c12
      clear c12
      obtain ⟨c13, H⟩ := ifS H
      have LMc13 := aM c13
      clear c13
      obtain ⟨y494, hy494⟩ : ∃ y_ : List Int, y_ = (y490 ++ (l0.take (x5_1 : Int).toNat)) := ⟨_, rfl⟩
      replace H : ((some (([a1] : List Int) : List Int)).bind fun y497 => (if y494.length + y497.length < 17592186044416 then ((some (y494 ++ y497 : List Int)).bind fun y500 => (if y500.length + (l0.drop (x5_1 : Int).toNat).length < 17592186044416 then (some (y500 ++ (l0.drop (x5_1 : Int).toNat))) else (none))) else (none))) = some r := by first | (rw [hy494]; with_reducible exact H) | (rw [hy494]; exact H) | exact H
      have Ny494 := aM hy494
      clear hy494
      obtain ⟨y497, hy497⟩ : ∃ y_ : List Int, y_ = (([a1] : List Int)) := ⟨_, rfl⟩
      replace H : (if y494.length + y497.length < 17592186044416 then ((some (y494 ++ y497 : List Int)).bind fun y500 => (if y500.length + (l0.drop (x5_1 : Int).toNat).length < 17592186044416 then (some (y500 ++ (l0.drop (x5_1 : Int).toNat))) else (none))) else (none)) = some r := by first | (rw [hy497]; with_reducible exact H) | (rw [hy497]; exact H) | exact H
      have Ny497 := aM hy497
      clear hy497
      obtain ⟨c14, H⟩ := ifS H
      have LMc14 := aM c14
      clear c14
      obtain ⟨y500, hy500⟩ : ∃ y_ : List Int, y_ = (y494 ++ y497) := ⟨_, rfl⟩
      replace H : (if y500.length + (l0.drop (x5_1 : Int).toNat).length < 17592186044416 then (some (y500 ++ (l0.drop (x5_1 : Int).toNat))) else (none)) = some r := by first | (rw [hy500]; with_reducible exact H) | (rw [hy500]; exact H) | exact H
      have Ny500 := aM hy500
      clear hy500
      have c15b0 := eq_true (zD : 0 ≤ x5_1)
      have c16b0 := eq_true (zD : x5_1 ≤ (l0.length : Int))
      obtain ⟨c17, H⟩ := ifS H
      have LMc17 := aM c17
      clear c17
      obtain ⟨y504, hy504⟩ : ∃ y_ : List Int, y_ = (y500 ++ (l0.drop (x5_1 : Int).toNat)) := ⟨_, rfl⟩
      replace H : (some y504) = some r := by first | (rw [hy504]; with_reducible exact H) | (rw [hy504]; exact H) | exact H
      have Ny504 := aM hy504
      clear hy504
      obtain rfl := oI H
      have p482 : 0 ≤ (x5_1 : Int) := zD
      have q482 : x5_1 < (l0.length : Int) := zD
      obtain ⟨ad482, e482, hx482_0⟩ := Kd.at_int HR0.o x5_1 p482 q482
      cases e482
      replace hx482_0 := hL HB hx482_0
      replace p482 := eq_true p482
      replace q482 := eq_true q482
      have p483 : 0 ≤ (x5_1 : Int) := zD
      have q483 : x5_1 < (l0.length : Int) := zD
      obtain ⟨ad483, e483, hx483_0⟩ := Kd.at_int HR0.o x5_1 p483 q483
      obtain rfl : ad482 = ad483 := (by injection e483)
      replace hx483_0 := hL HB hx483_0
      replace p483 := eq_true p483
      replace q483 := eq_true q483
      try go_wp2
      replace HB := aM (below_drew1 HB.o)
      obtain ⟨i019, hi019, _, hsz19, _⟩ := info_parts info3
      obtain ⟨hcut19, hA19, hC19⟩ := print_take_of (P := Try.prog) (Value.int .i64) 0 31 3 .i64 Try.underlying31 hi019 hsz19 (some ad482) c0 l0 x5_1 (zD) (zD) HC0.o
      have HR493 := aM (Kd.C_of_reads (h1 := fun _ => rfl) (hA19 _ (Kd.reads_of_C HR0.o)))
      have HC493 := aM hC19
      clear hA19 hC19 hi019 hsz19
      obtain ⟨i020, hi020, _, hsz20, _⟩ := info_parts info3
      obtain ⟨A20, hcut20, hA20, hC20⟩ := print_drop_of (P := Try.prog) (Value.int .i64) 0 31 3 .i64 Try.underlying31 hi020 hsz20 (some ad482) c0 l0 x5_1 (zD) (zD) HC0.o
      have HR503 := aM (Kd.C_of_reads (h1 := fun _ => rfl) (hA20 _ (Kd.reads_of_C HR0.o)))
      have HC503 := aM hC20
      clear hA20 hC20 hi020 hsz20
      refine start_ (n := 13) (S := fun w' => True) (ds := []) (bm 13 0) (by kernel_rfl) rfl (bm0 _) trivial (fun hK4 => ?_); refine with_tabW spec_l4Put.tab6 spec_l4Put.bits6 (fun HT_ HW_ => ?_)
      generalize wr.drew = w18 at HB HR493 HR503 hK4 ⊢
      refine pW 1 36 13 2 HT_ rfl rfl ?_
      refine pW 2 37 13 6 HT_ rfl rfl ?_
      refine pW 3 38 13 14 HT_ rfl rfl ?_
      refine pW 5 40 13 46 HT_ rfl rfl ?_
      refine pW 8 43 13 302 HT_ rfl rfl ?_
      refine pW 9 44 13 814 HT_ rfl rfl ?_
      refine pW 10 45 13 1838 HT_ rfl rfl ?_
      refine join_ (σ := Value × Value × Value) 3 (bm 13 1919) (fun s_ => [(35, s_.1), (39, s_.2.1), (41, s_.2.2)]) (fun s_ w' => (Kd.R (Kd.int .i64) 3 w' w.heap.size (fun k_ => some k_ ≠ (s_.2.2 : Value).ownBlock) s_.2.1 y494) ∧ (Kd.R (Kd.int .i64) 3 w' w.heap.size (fun k_ => some k_ ≠ (s_.2.1 : Value).ownBlock) s_.2.2 y497) ∧ (Below w.heap.size w w')) ?_ ?_
      rotate_left
      ·intro hCont
       refine two_ (i := 0) (j := 6) (Ni := some 35) (Nj := some 41) (bm 13 1839) (bm 13 1902) rfl rfl rfl rfl (two_of HT_.o (by kernel_rfl)) (by decide) (by decide) (fun K hK => ?_) (fun K hK => ?_)
       ·skip
        refine Kd.R_lit_step (Kd.int .i64) _ 3 ?hg (N := 35) ?hd (xs := ([] : List Int)) (inner := []) (ok := fun _ => True) (okp := fun _ => True) ?hr ?hp (fun _ hk => hk) trivial (Below.refl _ _) (Nat.le_refl _) (by simp) ?_; (case hd => rfl); (case hg => rfl); (case hr => first | (go_simp; done) | (go_simp; rfl)); (case hp => exact (Reps.none _ _))
        intro v491 w21 ho22 hb hg_ hnew_
        clear hg_ hnew_
        (first | rw [← Ny490.o] at ho22 | (simp only [Int.reduceToNat] at ho22; rw [← Ny490.o] at ho22))
        have HO492 := aM (rO ho22 (bZ (zB HB)))
        replace HB := bS HB hb
        clear hb ho22
        refine hK.out _ _ trivial (fun hK4 => ?_)
        clear hK K
        refine nU 35 ?_
        refine two_ (i := 4) (j := 6) (Ni := some 39) (Nj := some 41) (bm 13 1855) (bm 13 1903) rfl rfl rfl rfl (two_of HT_.o (by kernel_rfl)) (by decide) (by decide) (fun K hK => ?_) (fun K hK => ?_)
        ·skip
         refine Kd.R_append_rows_step (Kd.int .i64) (w0 := w) w.heap.size (by rfl) (.tmp 35) (.tmp 38) 31 3 (.int .i64 0) 8 rfl Try.underlying31 info3 rfl (by decide) (by omega) v491 y490 (l0.take (x5_1 : Int).toNat) _ _ _ (fun _ => True) (fun _ => False) rfl rfl ?aO ?aR (fun _ _ h => h) (fun _ h => h.elim) ?aF ?aB ?aS ?aL ?_
         (case aR => first | (have q_ := HR493.o; rw [show (l0.take (x5_1 : Int).toNat).length = x5_1.toNat from (by rw [List.length_take]; have h_ : (x5_1 : Int) ≤ (l0.length : Int) := zD; omega)] at q_; repeat (first | exact (Kd.C_below q_ HB.o) | (with_reducible refine qA ?_ _) | (with_reducible refine qN ?_ _) | (with_reducible refine qD ?_)); done) | (rw [← show (l0.take (x5_1 : Int).toNat).length = x5_1.toNat from (by rw [List.length_take]; have h_ : (x5_1 : Int) ≤ (l0.length : Int) := zD; omega)]; repeat (first | exact (Kd.C_below HR493.o HB.o) | (with_reducible refine qA ?_ _) | (with_reducible refine qN ?_ _) | (with_reducible refine qD ?_)); done) | (repeat (first | exact (Kd.C_below HR493.o HB.o) | (with_reducible refine qA ?_ _) | (with_reducible refine qN ?_ _) | (with_reducible refine qD ?_))))
         (case aB => exact (zB HB))
         (case aF => exact (fun _ _ => trivial))
         (case aO => exact (zR HO492))
         (case aS => exact (bZ (zB HB)))
         (case aL => have := LMc13.o; have hlx_ := (show (l0.take (x5_1 : Int).toNat).length = x5_1.toNat from (by rw [List.length_take]; have h_ : (x5_1 : Int) ≤ (l0.length : Int) := zD; omega)); omega)
         intro v495 w23 ho hb hg hat
         rw [← Ny494.o] at ho
         replace HB := aM (hb)
         have HO496 := aM (ho)
         clear HO492
         clear ho hb hg hat
         refine hK.out _ _ trivial (fun hK4 => ?_)
         clear hK K
         refine nU 39 ?_
         refine one_ (i := 6) (N := some 41) (bm 13 1919) rfl rfl (one_of HT_.o (by kernel_rfl)) (by decide) (fun K hK => ?_)
         refine Kd.R_lit_step (Kd.int .i64) _ 3 ?hg (N := 41) ?hd (xs := ([a1] : List Int)) (inner := [.int .i64 a1]) (ok := fun _ => True) (okp := fun _ => True) ?hr ?hp (fun _ hk => hk) trivial (Below.refl _ _) (Nat.le_refl _) (by simp) ?_; (case hd => rfl); (case hg => rfl); (case hr => first | (go_simp; done) | (go_simp; rfl)); (case hp => exact (Reps.one (show Kd.M (Kd.int .i64) _ _ _ a1 [.int .i64 a1] from rfl) (Reps.none _ _)))
         intro v498 w24 ho25 hb hg_ hnew_
         clear hg_ hnew_
         (first | rw [← Ny497.o] at ho25 | (simp only [Int.reduceToNat] at ho25; rw [← Ny497.o] at ho25))
         have HO499 := aM (rO (Kd.R_new' ho25 (Kd.R_lt (zR HO496))) (bZ (zB HB)))
         replace HO496 := aM (Kd.R_elder' (zR HO496) (Kd.R_base ho25) hb)
         replace HB := bS HB hb
         clear hb ho25
         refine hK.out _ _ trivial (fun hK4 => ?_)
         clear hK K
         refine nU 41 ?_
         exact norm_ (by simp only [putAll, Act.put, lA, lB, lC]) (hCont (v491, v495, v498) _ ⟨(by (with_reducible repeat (first | apply rA | apply rN | apply rD)); exact rM HO496.o (fun _ hk => hk.2)), (by (with_reducible repeat (first | apply rA | apply rN | apply rD)); exact rM HO499.o (fun _ hk => hk.2)), (zB HB)⟩)
        ·skip
         refine Kd.R_lit_step (Kd.int .i64) _ 3 ?hg (N := 41) ?hd (xs := ([a1] : List Int)) (inner := [.int .i64 a1]) (ok := fun _ => True) (okp := fun _ => True) ?hr ?hp (fun _ hk => hk) trivial (Below.refl _ _) (Nat.le_refl _) (by simp) ?_; (case hd => rfl); (case hg => rfl); (case hr => first | (go_simp; done) | (go_simp; rfl)); (case hp => exact (Reps.one (show Kd.M (Kd.int .i64) _ _ _ a1 [.int .i64 a1] from rfl) (Reps.none _ _)))
         intro v498 w23 ho24 hb hg_ hnew_
         clear hg_ hnew_
         (first | rw [← Ny497.o] at ho24 | (simp only [Int.reduceToNat] at ho24; rw [← Ny497.o] at ho24))
         have HO499 := aM (rO (Kd.R_new' ho24 (Kd.R_lt (zR HO492))) (bZ (zB HB)))
         replace HO492 := aM (Kd.R_elder' (zR HO492) (Kd.R_base ho24) hb)
         replace HB := bS HB hb
         clear hb ho24
         refine hK.out _ _ trivial (fun hK4 => ?_)
         clear hK K
         refine nU 41 ?_
         refine one_ (i := 4) (N := some 39) (bm 13 1919) rfl rfl (one_of HT_.o (by kernel_rfl)) (by decide) (fun K hK => ?_)
         refine Kd.R_append_rows_step (Kd.int .i64) (w0 := w) w.heap.size (by rfl) (.tmp 35) (.tmp 38) 31 3 (.int .i64 0) 8 rfl Try.underlying31 info3 rfl (by decide) (by omega) v491 y490 (l0.take (x5_1 : Int).toNat) _ _ _ (fun k_ => some k_ ≠ (v498 : Value).ownBlock) (fun _ => False) rfl rfl ?aO ?aR (fun _ _ h => h) (fun _ h => h.elim) ?aF ?aB ?aS ?aL ?_
         (case aR => first | (have q_ := HR493.o; rw [show (l0.take (x5_1 : Int).toNat).length = x5_1.toNat from (by rw [List.length_take]; have h_ : (x5_1 : Int) ≤ (l0.length : Int) := zD; omega)] at q_; repeat (first | exact (Kd.C_below q_ HB.o) | (with_reducible refine qA ?_ _) | (with_reducible refine qN ?_ _) | (with_reducible refine qD ?_)); done) | (rw [← show (l0.take (x5_1 : Int).toNat).length = x5_1.toNat from (by rw [List.length_take]; have h_ : (x5_1 : Int) ≤ (l0.length : Int) := zD; omega)]; repeat (first | exact (Kd.C_below HR493.o HB.o) | (with_reducible refine qA ?_ _) | (with_reducible refine qN ?_ _) | (with_reducible refine qD ?_)); done) | (repeat (first | exact (Kd.C_below HR493.o HB.o) | (with_reducible refine qA ?_ _) | (with_reducible refine qN ?_ _) | (with_reducible refine qD ?_))))
         (case aB => exact (zB HB))
         (case aF => exact (fun k_ hk => Kd.fresh' (Kd.R_lt (zR HO499)) k_ hk))
         (case aO => exact (by (with_reducible repeat (first | apply rA | apply rN | apply rD)); exact rM HO492.o (fun _ hk => hk.2)))
         (case aS => exact (bZ (zB HB)))
         (case aL => have := LMc13.o; have hlx_ := (show (l0.take (x5_1 : Int).toNat).length = x5_1.toNat from (by rw [List.length_take]; have h_ : (x5_1 : Int) ≤ (l0.length : Int) := zD; omega)); omega)
         intro v495 w25 ho hb hg hat
         rw [← Ny494.o] at ho
         replace HO499 := aM (Kd.R_after (ok := (fun _ => True)) (zR HO499) hg hat)
         replace HB := aM (hb)
         have HO496 := aM (ho)
         clear HO492
         clear ho hb hg hat
         refine hK.out _ _ trivial (fun hK4 => ?_)
         clear hK K
         refine nU 39 ?_
         exact norm_ (by simp only [putAll, Act.put, lA, lB, lC]) (hCont (v491, v495, v498) _ ⟨(zR HO496), (by (with_reducible repeat (first | apply rA | apply rN | apply rD)); exact rM HO499.o (fun _ hk => hk.2)), (zB HB)⟩)
       ·skip
        refine Kd.R_lit_step (Kd.int .i64) _ 3 ?hg (N := 41) ?hd (xs := ([a1] : List Int)) (inner := [.int .i64 a1]) (ok := fun _ => True) (okp := fun _ => True) ?hr ?hp (fun _ hk => hk) trivial (Below.refl _ _) (Nat.le_refl _) (by simp) ?_; (case hd => rfl); (case hg => rfl); (case hr => first | (go_simp; done) | (go_simp; rfl)); (case hp => exact (Reps.one (show Kd.M (Kd.int .i64) _ _ _ a1 [.int .i64 a1] from rfl) (Reps.none _ _)))
        intro v498 w21 ho22 hb hg_ hnew_
        clear hg_ hnew_
        (first | rw [← Ny497.o] at ho22 | (simp only [Int.reduceToNat] at ho22; rw [← Ny497.o] at ho22))
        have HO499 := aM (rO ho22 (bZ (zB HB)))
        replace HB := bS HB hb
        clear hb ho22
        refine hK.out _ _ trivial (fun hK4 => ?_)
        clear hK K
        refine nU 41 ?_
        refine one_ (i := 0) (N := some 35) (bm 13 1903) rfl rfl (one_of HT_.o (by kernel_rfl)) (by decide) (fun K hK => ?_)
        refine Kd.R_lit_step (Kd.int .i64) _ 3 ?hg (N := 35) ?hd (xs := ([] : List Int)) (inner := []) (ok := fun _ => True) (okp := fun _ => True) ?hr ?hp (fun _ hk => hk) trivial (Below.refl _ _) (Nat.le_refl _) (by simp) ?_; (case hd => rfl); (case hg => rfl); (case hr => first | (go_simp; done) | (go_simp; rfl)); (case hp => exact (Reps.none _ _))
        intro v491 w23 ho24 hb hg_ hnew_
        clear hg_ hnew_
        (first | rw [← Ny490.o] at ho24 | (simp only [Int.reduceToNat] at ho24; rw [← Ny490.o] at ho24))
        have HO492 := aM (rO (Kd.R_new' ho24 (Kd.R_lt (zR HO499))) (bZ (zB HB)))
        replace HO499 := aM (Kd.R_elder' (zR HO499) (Kd.R_base ho24) hb)
        replace HB := bS HB hb
        clear hb ho24
        refine hK.out _ _ trivial (fun hK4 => ?_)
        clear hK K
        refine nU 35 ?_
        refine one_ (i := 4) (N := some 39) (bm 13 1919) rfl rfl (one_of HT_.o (by kernel_rfl)) (by decide) (fun K hK => ?_)
        refine Kd.R_append_rows_step (Kd.int .i64) (w0 := w) w.heap.size (by rfl) (.tmp 35) (.tmp 38) 31 3 (.int .i64 0) 8 rfl Try.underlying31 info3 rfl (by decide) (by omega) v491 y490 (l0.take (x5_1 : Int).toNat) _ _ _ (fun k_ => some k_ ≠ (v498 : Value).ownBlock) (fun _ => False) rfl rfl ?aO ?aR (fun _ _ h => h) (fun _ h => h.elim) ?aF ?aB ?aS ?aL ?_
        (case aR => first | (have q_ := HR493.o; rw [show (l0.take (x5_1 : Int).toNat).length = x5_1.toNat from (by rw [List.length_take]; have h_ : (x5_1 : Int) ≤ (l0.length : Int) := zD; omega)] at q_; repeat (first | exact (Kd.C_below q_ HB.o) | (with_reducible refine qA ?_ _) | (with_reducible refine qN ?_ _) | (with_reducible refine qD ?_)); done) | (rw [← show (l0.take (x5_1 : Int).toNat).length = x5_1.toNat from (by rw [List.length_take]; have h_ : (x5_1 : Int) ≤ (l0.length : Int) := zD; omega)]; repeat (first | exact (Kd.C_below HR493.o HB.o) | (with_reducible refine qA ?_ _) | (with_reducible refine qN ?_ _) | (with_reducible refine qD ?_)); done) | (repeat (first | exact (Kd.C_below HR493.o HB.o) | (with_reducible refine qA ?_ _) | (with_reducible refine qN ?_ _) | (with_reducible refine qD ?_))))
        (case aB => exact (zB HB))
        (case aF => exact (fun k_ hk => Kd.fresh' (Kd.R_lt (zR HO499)) k_ hk))
        (case aO => exact (by (with_reducible repeat (first | apply rA | apply rN | apply rD)); exact rM HO492.o (fun _ hk => hk.2)))
        (case aS => exact (bZ (zB HB)))
        (case aL => have := LMc13.o; have hlx_ := (show (l0.take (x5_1 : Int).toNat).length = x5_1.toNat from (by rw [List.length_take]; have h_ : (x5_1 : Int) ≤ (l0.length : Int) := zD; omega)); omega)
        intro v495 w25 ho hb hg hat
        rw [← Ny494.o] at ho
        replace HO499 := aM (Kd.R_after (ok := (fun _ => True)) (zR HO499) hg hat)
        replace HB := aM (hb)
        have HO496 := aM (ho)
        clear HO492
        clear ho hb hg hat
        refine hK.out _ _ trivial (fun hK4 => ?_)
        clear hK K
        refine nU 39 ?_
        exact norm_ (by simp only [putAll, Act.put, lA, lB, lC]) (hCont (v491, v495, v498) _ ⟨(zR HO496), (by (with_reducible repeat (first | apply rA | apply rN | apply rD)); exact rM HO499.o (fun _ hk => hk.2)), (zB HB)⟩)
      rintro ⟨v491, v495, v498⟩ w26 ⟨h0_, h1_, h2_⟩
      have HO496 : Aside0 (Kd.R (Kd.int .i64) 3 w26 w.heap.size (fun k_ => some k_ ≠ (v498 : Value).ownBlock) v495 y494) := ⟨h0_⟩
      have HO499 : Aside0 (Kd.R (Kd.int .i64) 3 w26 w.heap.size (fun k_ => some k_ ≠ (v495 : Value).ownBlock) v498 y497) := ⟨h1_⟩
      replace HB : Aside0 (Below w.heap.size w w26) := ⟨h2_⟩
      clear h0_ h1_ h2_
      have hK4 := trivial
      obtain ⟨Ao28, co28, eo28⟩ := rL HO499.o
      (first | subst eo28 | (obtain ⟨f4_, f5_⟩ := slI eo28; subst f4_; subst f5_))
      refine norm_ (a' := ?_) ?_ ?_
      rotate_left
      ·simp only [putAll, Act.put, lA, lB, lC]
       rfl
      refine one_ (i := 7) (N := some 42) (bm 13 2047) rfl rfl (one_of HT_.o (by kernel_rfl)) (by decide) (fun K hK => ?_)
      refine Kd.R_append_rows_step (Kd.int .i64) (w0 := w) w.heap.size (by rfl) (.tmp 39) (.tmp 41) 31 3 (.int .i64 0) 8 rfl Try.underlying31 info3 rfl (by decide) (by omega) v495 y494 y497 _ _ _ (fun k_ => some k_ ≠ (.slice Ao28 y497.length co28 : Value).ownBlock) (fun _ => False) rfl rfl ?aO ?aR (fun _ _ h => h) (fun _ h => h.elim) ?aF ?aB ?aS ?aL ?_
      (case aR => repeat (first | exact (rQ HO499.o).2.2 | (with_reducible refine qA ?_ _) | (with_reducible refine qN ?_ _) | (with_reducible refine qD ?_)))
      (case aB => exact (zB HB))
      (case aF => exact (fun k_ hk => Kd.fresh' (Kd.R_lt (zR HO499)) k_ hk))
      (case aO => exact (zR HO496))
      (case aS => exact (bZ (zB HB)))
      (case aL => have := LMc14.o; omega)
      intro v501 w27 ho hb hg hat
      rw [← Ny500.o] at ho
      replace HO499 := aM (Kd.R_after (ok := (fun _ => True)) (by (with_reducible repeat (first | apply rA | apply rN | apply rD)); exact rM HO499.o (fun _ hk => ⟨trivial, hk⟩)) hg hat)
      replace HB := aM (hb)
      have HO502 := aM (ho)
      clear HO496
      clear ho hb hg hat
      refine hK.out _ _ trivial (fun hK4 => ?_)
      clear hK K
      refine nU 42 ?_
      refine one_ (i := 11) (N := some 46) (bm 13 4095) rfl rfl (one_of HT_.o (by kernel_rfl)) (by decide) (fun K hK => ?_)
      refine Kd.R_append_rows_step (Kd.int .i64) (w0 := w) w.heap.size (by rfl) (.tmp 42) (.tmp 45) 31 3 (.int .i64 0) 8 rfl Try.underlying31 info3 rfl (by decide) (by omega) v501 y500 (l0.drop (x5_1 : Int).toNat) _ _ _ (fun k_ => some k_ ≠ (.slice Ao28 y497.length co28 : Value).ownBlock) (fun _ => False) rfl rfl ?aO ?aR (fun _ _ h => h) (fun _ h => h.elim) ?aF ?aB ?aS ?aL ?_
      (case aR => first | (have q_ := HR503.o; rw [show (l0.drop (x5_1 : Int).toNat).length = (l0.length - x5_1.toNat) from List.length_drop] at q_; repeat (first | exact (Kd.C_below q_ HB.o) | (with_reducible refine qA ?_ _) | (with_reducible refine qN ?_ _) | (with_reducible refine qD ?_)); done) | (rw [← show (l0.drop (x5_1 : Int).toNat).length = (l0.length - x5_1.toNat) from List.length_drop]; repeat (first | exact (Kd.C_below HR503.o HB.o) | (with_reducible refine qA ?_ _) | (with_reducible refine qN ?_ _) | (with_reducible refine qD ?_)); done) | (repeat (first | exact (Kd.C_below HR503.o HB.o) | (with_reducible refine qA ?_ _) | (with_reducible refine qN ?_ _) | (with_reducible refine qD ?_))))
      (case aB => exact (zB HB))
      (case aF => exact (fun k_ hk => Kd.fresh' (Kd.R_lt (zR HO499)) k_ hk))
      (case aO => exact (zR HO502))
      (case aS => exact (bZ (zB HB)))
      (case aL => have := LMc17.o; have hlx_ := (show (l0.drop (x5_1 : Int).toNat).length = (l0.length - x5_1.toNat) from List.length_drop); omega)
      intro v505 w29 ho hb hg hat
      rw [← Ny504.o] at ho
      replace HO499 := aM (Kd.R_after (ok := (fun _ => True)) (zR HO499) hg hat)
      replace HB := aM (hb)
      have HO506 := aM (ho)
      clear HO502
      clear ho hb hg hat
      refine hK.out _ _ trivial (fun hK4 => ?_)
      clear hK K
      refine nU 46 ?_
      refine pW 12 4 13 8191 HT_ rfl rfl ?_
      refine done_ (done_of HT_.o (by kernel_rfl)) ?_
      try clear hK4
      try go_wp2
      go_ret
      exact ⟨_, zE, by (with_reducible repeat (first | apply rA | apply rN | apply rD)); exact rM HO506.o (fun _ hk => trivial), zB HB⟩
   ·rw [if_neg c3] at H
    have c3b0 : decide (x5_1 < (l0.length : Int)) = false := decide_eq_false c3
    clear c3
    obtain ⟨y507, hy507⟩ : ∃ y_ : List Int, y_ = (([] : List Int)) := ⟨_, rfl⟩
    replace H : (if 0 ≤ x5_1 then (if x5_1 ≤ (l0.length : Int) then (if y507.length + (l0.take (x5_1 : Int).toNat).length < 17592186044416 then ((some (y507 ++ (l0.take (x5_1 : Int).toNat) : List Int)).bind fun y511 => ((some (([a1] : List Int) : List Int)).bind fun y514 => (if y511.length + y514.length < 17592186044416 then ((some (y511 ++ y514 : List Int)).bind fun y517 => (if y517.length + (l0.drop (x5_1 : Int).toNat).length < 17592186044416 then (some (y517 ++ (l0.drop (x5_1 : Int).toNat))) else (none))) else (none)))) else (none)) else (none)) else (none)) = some r := by first | (rw [hy507]; with_reducible exact H) | (rw [hy507]; exact H) | exact H
    have Ny507 := aM hy507
    clear hy507
    by_cases c30 : 0 ≤ x5_1
    ·rw [if_pos c30] at H
     have c30b0 := eq_true c30
     have c30b1 : decide (0 ≤ x5_1) = true := dT c30
     clear c30
     obtain ⟨c31, H⟩ := ifS H
     have c31b0 := eq_true c31
     have c31b1 : decide (x5_1 ≤ (l0.length : Int)) = true := dT c31
     clear c31
     obtain ⟨c32, H⟩ := ifS H
     have LMc32 := aM c32
     clear c32
     obtain ⟨y511, hy511⟩ : ∃ y_ : List Int, y_ = (y507 ++ (l0.take (x5_1 : Int).toNat)) := ⟨_, rfl⟩
     replace H : ((some (([a1] : List Int) : List Int)).bind fun y514 => (if y511.length + y514.length < 17592186044416 then ((some (y511 ++ y514 : List Int)).bind fun y517 => (if y517.length + (l0.drop (x5_1 : Int).toNat).length < 17592186044416 then (some (y517 ++ (l0.drop (x5_1 : Int).toNat))) else (none))) else (none))) = some r := by first | (rw [hy511]; with_reducible exact H) | (rw [hy511]; exact H) | exact H
     have Ny511 := aM hy511
     clear hy511
     obtain ⟨y514, hy514⟩ : ∃ y_ : List Int, y_ = (([a1] : List Int)) := ⟨_, rfl⟩
     replace H : (if y511.length + y514.length < 17592186044416 then ((some (y511 ++ y514 : List Int)).bind fun y517 => (if y517.length + (l0.drop (x5_1 : Int).toNat).length < 17592186044416 then (some (y517 ++ (l0.drop (x5_1 : Int).toNat))) else (none))) else (none)) = some r := by first | (rw [hy514]; with_reducible exact H) | (rw [hy514]; exact H) | exact H
     have Ny514 := aM hy514
     clear hy514
     obtain ⟨c33, H⟩ := ifS H
     have LMc33 := aM c33
     clear c33
     obtain ⟨y517, hy517⟩ : ∃ y_ : List Int, y_ = (y511 ++ y514) := ⟨_, rfl⟩
     replace H : (if y517.length + (l0.drop (x5_1 : Int).toNat).length < 17592186044416 then (some (y517 ++ (l0.drop (x5_1 : Int).toNat))) else (none)) = some r := by first | (rw [hy517]; with_reducible exact H) | (rw [hy517]; exact H) | exact H
     have Ny517 := aM hy517
     clear hy517
     have c34b0 := eq_true (zD : 0 ≤ x5_1)
     have c35b0 := eq_true (zD : x5_1 ≤ (l0.length : Int))
     obtain ⟨c36, H⟩ := ifS H
     have LMc36 := aM c36
     clear c36
     obtain ⟨y521, hy521⟩ : ∃ y_ : List Int, y_ = (y517 ++ (l0.drop (x5_1 : Int).toNat)) := ⟨_, rfl⟩
     replace H : (some y521) = some r := by first | (rw [hy521]; with_reducible exact H) | (rw [hy521]; exact H) | exact H
     have Ny521 := aM hy521
     clear hy521
     obtain rfl := oI H
     try go_wp2
     replace HB := aM (below_drew1 HB.o)
     obtain ⟨i038, hi038, _, hsz38, _⟩ := info_parts info3
     obtain ⟨hcut38, hA38, hC38⟩ := print_take_of (P := Try.prog) (Value.int .i64) 0 31 3 .i64 Try.underlying31 hi038 hsz38 A0 c0 l0 x5_1 (zD) (zD) HC0.o
     have HR510 := aM (Kd.C_of_reads (h1 := fun _ => rfl) (hA38 _ (Kd.reads_of_C HR0.o)))
     have HC510 := aM hC38
     clear hA38 hC38 hi038 hsz38
     obtain ⟨i039, hi039, _, hsz39, _⟩ := info_parts info3
     obtain ⟨A39, hcut39, hA39, hC39⟩ := print_drop_of (P := Try.prog) (Value.int .i64) 0 31 3 .i64 Try.underlying31 hi039 hsz39 A0 c0 l0 x5_1 (zD) (zD) HC0.o
     have HR520 := aM (Kd.C_of_reads (h1 := fun _ => rfl) (hA39 _ (Kd.reads_of_C HR0.o)))
     have HC520 := aM hC39
     clear hA39 hC39 hi039 hsz39
     refine start_ (n := 13) (S := fun w' => True) (ds := []) (bm 13 0) (by kernel_rfl) rfl (bm0 _) trivial (fun hK4 => ?_); refine with_tabW spec_l4Put.tab6 spec_l4Put.bits6 (fun HT_ HW_ => ?_)
     generalize wr.drew = w37 at HB HR510 HR520 hK4 ⊢
     refine pW 1 36 13 2 HT_ rfl rfl ?_
     refine pW 2 37 13 6 HT_ rfl rfl ?_
     refine pW 3 38 13 14 HT_ rfl rfl ?_
     refine pW 5 40 13 46 HT_ rfl rfl ?_
     refine pW 8 43 13 302 HT_ rfl rfl ?_
     refine pW 9 44 13 814 HT_ rfl rfl ?_
     refine pW 10 45 13 1838 HT_ rfl rfl ?_
     refine join_ (σ := Value × Value × Value) 3 (bm 13 1919) (fun s_ => [(35, s_.1), (39, s_.2.1), (41, s_.2.2)]) (fun s_ w' => (Kd.R (Kd.int .i64) 3 w' w.heap.size (fun k_ => some k_ ≠ (s_.2.2 : Value).ownBlock) s_.2.1 y511) ∧ (Kd.R (Kd.int .i64) 3 w' w.heap.size (fun k_ => some k_ ≠ (s_.2.1 : Value).ownBlock) s_.2.2 y514) ∧ (Below w.heap.size w w')) ?_ ?_
     rotate_left
     ·intro hCont
      refine two_ (i := 0) (j := 6) (Ni := some 35) (Nj := some 41) (bm 13 1839) (bm 13 1902) rfl rfl rfl rfl (two_of HT_.o (by kernel_rfl)) (by decide) (by decide) (fun K hK => ?_) (fun K hK => ?_)
      ·skip
       refine Kd.R_lit_step (Kd.int .i64) _ 3 ?hg (N := 35) ?hd (xs := ([] : List Int)) (inner := []) (ok := fun _ => True) (okp := fun _ => True) ?hr ?hp (fun _ hk => hk) trivial (Below.refl _ _) (Nat.le_refl _) (by simp) ?_; (case hd => rfl); (case hg => rfl); (case hr => first | (go_simp; done) | (go_simp; rfl)); (case hp => exact (Reps.none _ _))
       intro v508 w40 ho41 hb hg_ hnew_
       clear hg_ hnew_
       (first | rw [← Ny507.o] at ho41 | (simp only [Int.reduceToNat] at ho41; rw [← Ny507.o] at ho41))
       have HO509 := aM (rO ho41 (bZ (zB HB)))
       replace HB := bS HB hb
       clear hb ho41
       refine hK.out _ _ trivial (fun hK4 => ?_)
       clear hK K
       refine nU 35 ?_
       refine two_ (i := 4) (j := 6) (Ni := some 39) (Nj := some 41) (bm 13 1855) (bm 13 1903) rfl rfl rfl rfl (two_of HT_.o (by kernel_rfl)) (by decide) (by decide) (fun K hK => ?_) (fun K hK => ?_)
       ·skip
        refine Kd.R_append_rows_step (Kd.int .i64) (w0 := w) w.heap.size (by rfl) (.tmp 35) (.tmp 38) 31 3 (.int .i64 0) 8 rfl Try.underlying31 info3 rfl (by decide) (by omega) v508 y507 (l0.take (x5_1 : Int).toNat) _ _ _ (fun _ => True) (fun _ => False) rfl rfl ?aO ?aR (fun _ _ h => h) (fun _ h => h.elim) ?aF ?aB ?aS ?aL ?_
        (case aR => first | (have q_ := HR510.o; rw [show (l0.take (x5_1 : Int).toNat).length = x5_1.toNat from (by rw [List.length_take]; have h_ : (x5_1 : Int) ≤ (l0.length : Int) := zD; omega)] at q_; repeat (first | exact (Kd.C_below q_ HB.o) | (with_reducible refine qA ?_ _) | (with_reducible refine qN ?_ _) | (with_reducible refine qD ?_)); done) | (rw [← show (l0.take (x5_1 : Int).toNat).length = x5_1.toNat from (by rw [List.length_take]; have h_ : (x5_1 : Int) ≤ (l0.length : Int) := zD; omega)]; repeat (first | exact (Kd.C_below HR510.o HB.o) | (with_reducible refine qA ?_ _) | (with_reducible refine qN ?_ _) | (with_reducible refine qD ?_)); done) | (repeat (first | exact (Kd.C_below HR510.o HB.o) | (with_reducible refine qA ?_ _) | (with_reducible refine qN ?_ _) | (with_reducible refine qD ?_))))
        (case aB => exact (zB HB))
        (case aF => exact (fun _ _ => trivial))
        (case aO => exact (zR HO509))
        (case aS => exact (bZ (zB HB)))
        (case aL => have := LMc32.o; have hlx_ := (show (l0.take (x5_1 : Int).toNat).length = x5_1.toNat from (by rw [List.length_take]; have h_ : (x5_1 : Int) ≤ (l0.length : Int) := zD; omega)); omega)
        intro v512 w42 ho hb hg hat
        rw [← Ny511.o] at ho
        replace HB := aM (hb)
        have HO513 := aM (ho)
        clear HO509
        clear ho hb hg hat
        refine hK.out _ _ trivial (fun hK4 => ?_)
        clear hK K
        refine nU 39 ?_
        refine one_ (i := 6) (N := some 41) (bm 13 1919) rfl rfl (one_of HT_.o (by kernel_rfl)) (by decide) (fun K hK => ?_)
        refine Kd.R_lit_step (Kd.int .i64) _ 3 ?hg (N := 41) ?hd (xs := ([a1] : List Int)) (inner := [.int .i64 a1]) (ok := fun _ => True) (okp := fun _ => True) ?hr ?hp (fun _ hk => hk) trivial (Below.refl _ _) (Nat.le_refl _) (by simp) ?_; (case hd => rfl); (case hg => rfl); (case hr => first | (go_simp; done) | (go_simp; rfl)); (case hp => exact (Reps.one (show Kd.M (Kd.int .i64) _ _ _ a1 [.int .i64 a1] from rfl) (Reps.none _ _)))
        intro v515 w43 ho44 hb hg_ hnew_
        clear hg_ hnew_
        (first | rw [← Ny514.o] at ho44 | (simp only [Int.reduceToNat] at ho44; rw [← Ny514.o] at ho44))
        have HO516 := aM (rO (Kd.R_new' ho44 (Kd.R_lt (zR HO513))) (bZ (zB HB)))
        replace HO513 := aM (Kd.R_elder' (zR HO513) (Kd.R_base ho44) hb)
        replace HB := bS HB hb
        clear hb ho44
        refine hK.out _ _ trivial (fun hK4 => ?_)
        clear hK K
        refine nU 41 ?_
        exact norm_ (by simp only [putAll, Act.put, lA, lB, lC]) (hCont (v508, v512, v515) _ ⟨(by (with_reducible repeat (first | apply rA | apply rN | apply rD)); exact rM HO513.o (fun _ hk => hk.2)), (by (with_reducible repeat (first | apply rA | apply rN | apply rD)); exact rM HO516.o (fun _ hk => hk.2)), (zB HB)⟩)
       ·skip
        refine Kd.R_lit_step (Kd.int .i64) _ 3 ?hg (N := 41) ?hd (xs := ([a1] : List Int)) (inner := [.int .i64 a1]) (ok := fun _ => True) (okp := fun _ => True) ?hr ?hp (fun _ hk => hk) trivial (Below.refl _ _) (Nat.le_refl _) (by simp) ?_; (case hd => rfl); (case hg => rfl); (case hr => first | (go_simp; done) | (go_simp; rfl)); (case hp => exact (Reps.one (show Kd.M (Kd.int .i64) _ _ _ a1 [.int .i64 a1] from rfl) (Reps.none _ _)))
        intro v515 w42 ho43 hb hg_ hnew_
        clear hg_ hnew_
        (first | rw [← Ny514.o] at ho43 | (simp only [Int.reduceToNat] at ho43; rw [← Ny514.o] at ho43))
        have HO516 := aM (rO (Kd.R_new' ho43 (Kd.R_lt (zR HO509))) (bZ (zB HB)))
        replace HO509 := aM (Kd.R_elder' (zR HO509) (Kd.R_base ho43) hb)
        replace HB := bS HB hb
        clear hb ho43
        refine hK.out _ _ trivial (fun hK4 => ?_)
        clear hK K
        refine nU 41 ?_
        refine one_ (i := 4) (N := some 39) (bm 13 1919) rfl rfl (one_of HT_.o (by kernel_rfl)) (by decide) (fun K hK => ?_)
        refine Kd.R_append_rows_step (Kd.int .i64) (w0 := w) w.heap.size (by rfl) (.tmp 35) (.tmp 38) 31 3 (.int .i64 0) 8 rfl Try.underlying31 info3 rfl (by decide) (by omega) v508 y507 (l0.take (x5_1 : Int).toNat) _ _ _ (fun k_ => some k_ ≠ (v515 : Value).ownBlock) (fun _ => False) rfl rfl ?aO ?aR (fun _ _ h => h) (fun _ h => h.elim) ?aF ?aB ?aS ?aL ?_
        (case aR => first | (have q_ := HR510.o; rw [show (l0.take (x5_1 : Int).toNat).length = x5_1.toNat from (by rw [List.length_take]; have h_ : (x5_1 : Int) ≤ (l0.length : Int) := zD; omega)] at q_; repeat (first | exact (Kd.C_below q_ HB.o) | (with_reducible refine qA ?_ _) | (with_reducible refine qN ?_ _) | (with_reducible refine qD ?_)); done) | (rw [← show (l0.take (x5_1 : Int).toNat).length = x5_1.toNat from (by rw [List.length_take]; have h_ : (x5_1 : Int) ≤ (l0.length : Int) := zD; omega)]; repeat (first | exact (Kd.C_below HR510.o HB.o) | (with_reducible refine qA ?_ _) | (with_reducible refine qN ?_ _) | (with_reducible refine qD ?_)); done) | (repeat (first | exact (Kd.C_below HR510.o HB.o) | (with_reducible refine qA ?_ _) | (with_reducible refine qN ?_ _) | (with_reducible refine qD ?_))))
        (case aB => exact (zB HB))
        (case aF => exact (fun k_ hk => Kd.fresh' (Kd.R_lt (zR HO516)) k_ hk))
        (case aO => exact (by (with_reducible repeat (first | apply rA | apply rN | apply rD)); exact rM HO509.o (fun _ hk => hk.2)))
        (case aS => exact (bZ (zB HB)))
        (case aL => have := LMc32.o; have hlx_ := (show (l0.take (x5_1 : Int).toNat).length = x5_1.toNat from (by rw [List.length_take]; have h_ : (x5_1 : Int) ≤ (l0.length : Int) := zD; omega)); omega)
        intro v512 w44 ho hb hg hat
        rw [← Ny511.o] at ho
        replace HO516 := aM (Kd.R_after (ok := (fun _ => True)) (zR HO516) hg hat)
        replace HB := aM (hb)
        have HO513 := aM (ho)
        clear HO509
        clear ho hb hg hat
        refine hK.out _ _ trivial (fun hK4 => ?_)
        clear hK K
        refine nU 39 ?_
        exact norm_ (by simp only [putAll, Act.put, lA, lB, lC]) (hCont (v508, v512, v515) _ ⟨(zR HO513), (by (with_reducible repeat (first | apply rA | apply rN | apply rD)); exact rM HO516.o (fun _ hk => hk.2)), (zB HB)⟩)
      ·skip
       refine Kd.R_lit_step (Kd.int .i64) _ 3 ?hg (N := 41) ?hd (xs := ([a1] : List Int)) (inner := [.int .i64 a1]) (ok := fun _ => True) (okp := fun _ => True) ?hr ?hp (fun _ hk => hk) trivial (Below.refl _ _) (Nat.le_refl _) (by simp) ?_; (case hd => rfl); (case hg => rfl); (case hr => first | (go_simp; done) | (go_simp; rfl)); (case hp => exact (Reps.one (show Kd.M (Kd.int .i64) _ _ _ a1 [.int .i64 a1] from rfl) (Reps.none _ _)))
       intro v515 w40 ho41 hb hg_ hnew_
       clear hg_ hnew_
       (first | rw [← Ny514.o] at ho41 | (simp only [Int.reduceToNat] at ho41; rw [← Ny514.o] at ho41))
       have HO516 := aM (rO ho41 (bZ (zB HB)))
       replace HB := bS HB hb
       clear hb ho41
       refine hK.out _ _ trivial (fun hK4 => ?_)
       clear hK K
       refine nU 41 ?_
       refine one_ (i := 0) (N := some 35) (bm 13 1903) rfl rfl (one_of HT_.o (by kernel_rfl)) (by decide) (fun K hK => ?_)
       refine Kd.R_lit_step (Kd.int .i64) _ 3 ?hg (N := 35) ?hd (xs := ([] : List Int)) (inner := []) (ok := fun _ => True) (okp := fun _ => True) ?hr ?hp (fun _ hk => hk) trivial (Below.refl _ _) (Nat.le_refl _) (by simp) ?_; (case hd => rfl); (case hg => rfl); (case hr => first | (go_simp; done) | (go_simp; rfl)); (case hp => exact (Reps.none _ _))
       intro v508 w42 ho43 hb hg_ hnew_
       clear hg_ hnew_
       (first | rw [← Ny507.o] at ho43 | (simp only [Int.reduceToNat] at ho43; rw [← Ny507.o] at ho43))
       have HO509 := aM (rO (Kd.R_new' ho43 (Kd.R_lt (zR HO516))) (bZ (zB HB)))
       replace HO516 := aM (Kd.R_elder' (zR HO516) (Kd.R_base ho43) hb)
       replace HB := bS HB hb
       clear hb ho43
       refine hK.out _ _ trivial (fun hK4 => ?_)
       clear hK K
       refine nU 35 ?_
       refine one_ (i := 4) (N := some 39) (bm 13 1919) rfl rfl (one_of HT_.o (by kernel_rfl)) (by decide) (fun K hK => ?_)
       refine Kd.R_append_rows_step (Kd.int .i64) (w0 := w) w.heap.size (by rfl) (.tmp 35) (.tmp 38) 31 3 (.int .i64 0) 8 rfl Try.underlying31 info3 rfl (by decide) (by omega) v508 y507 (l0.take (x5_1 : Int).toNat) _ _ _ (fun k_ => some k_ ≠ (v515 : Value).ownBlock) (fun _ => False) rfl rfl ?aO ?aR (fun _ _ h => h) (fun _ h => h.elim) ?aF ?aB ?aS ?aL ?_
       (case aR => first | (have q_ := HR510.o; rw [show (l0.take (x5_1 : Int).toNat).length = x5_1.toNat from (by rw [List.length_take]; have h_ : (x5_1 : Int) ≤ (l0.length : Int) := zD; omega)] at q_; repeat (first | exact (Kd.C_below q_ HB.o) | (with_reducible refine qA ?_ _) | (with_reducible refine qN ?_ _) | (with_reducible refine qD ?_)); done) | (rw [← show (l0.take (x5_1 : Int).toNat).length = x5_1.toNat from (by rw [List.length_take]; have h_ : (x5_1 : Int) ≤ (l0.length : Int) := zD; omega)]; repeat (first | exact (Kd.C_below HR510.o HB.o) | (with_reducible refine qA ?_ _) | (with_reducible refine qN ?_ _) | (with_reducible refine qD ?_)); done) | (repeat (first | exact (Kd.C_below HR510.o HB.o) | (with_reducible refine qA ?_ _) | (with_reducible refine qN ?_ _) | (with_reducible refine qD ?_))))
       (case aB => exact (zB HB))
       (case aF => exact (fun k_ hk => Kd.fresh' (Kd.R_lt (zR HO516)) k_ hk))
       (case aO => exact (by (with_reducible repeat (first | apply rA | apply rN | apply rD)); exact rM HO509.o (fun _ hk => hk.2)))
       (case aS => exact (bZ (zB HB)))
       (case aL => have := LMc32.o; have hlx_ := (show (l0.take (x5_1 : Int).toNat).length = x5_1.toNat from (by rw [List.length_take]; have h_ : (x5_1 : Int) ≤ (l0.length : Int) := zD; omega)); omega)
       intro v512 w44 ho hb hg hat
       rw [← Ny511.o] at ho
       replace HO516 := aM (Kd.R_after (ok := (fun _ => True)) (zR HO516) hg hat)
       replace HB := aM (hb)
       have HO513 := aM (ho)
       clear HO509
       clear ho hb hg hat
       refine hK.out _ _ trivial (fun hK4 => ?_)
       clear hK K
       refine nU 39 ?_
       exact norm_ (by simp only [putAll, Act.put, lA, lB, lC]) (hCont (v508, v512, v515) _ ⟨(zR HO513), (by (with_reducible repeat (first | apply rA | apply rN | apply rD)); exact rM HO516.o (fun _ hk => hk.2)), (zB HB)⟩)
     rintro ⟨v508, v512, v515⟩ w45 ⟨h0_, h1_, h2_⟩
     have HO513 : Aside0 (Kd.R (Kd.int .i64) 3 w45 w.heap.size (fun k_ => some k_ ≠ (v515 : Value).ownBlock) v512 y511) := ⟨h0_⟩
     have HO516 : Aside0 (Kd.R (Kd.int .i64) 3 w45 w.heap.size (fun k_ => some k_ ≠ (v512 : Value).ownBlock) v515 y514) := ⟨h1_⟩
     replace HB : Aside0 (Below w.heap.size w w45) := ⟨h2_⟩
     clear h0_ h1_ h2_
     have hK4 := trivial
     obtain ⟨Ao47, co47, eo47⟩ := rL HO516.o
     (first | subst eo47 | (obtain ⟨f4_, f5_⟩ := slI eo47; subst f4_; subst f5_))
     refine norm_ (a' := ?_) ?_ ?_
     rotate_left
     ·simp only [putAll, Act.put, lA, lB, lC]
      rfl
     refine one_ (i := 7) (N := some 42) (bm 13 2047) rfl rfl (one_of HT_.o (by kernel_rfl)) (by decide) (fun K hK => ?_)
     refine Kd.R_append_rows_step (Kd.int .i64) (w0 := w) w.heap.size (by rfl) (.tmp 39) (.tmp 41) 31 3 (.int .i64 0) 8 rfl Try.underlying31 info3 rfl (by decide) (by omega) v512 y511 y514 _ _ _ (fun k_ => some k_ ≠ (.slice Ao47 y514.length co47 : Value).ownBlock) (fun _ => False) rfl rfl ?aO ?aR (fun _ _ h => h) (fun _ h => h.elim) ?aF ?aB ?aS ?aL ?_
     (case aR => repeat (first | exact (rQ HO516.o).2.2 | (with_reducible refine qA ?_ _) | (with_reducible refine qN ?_ _) | (with_reducible refine qD ?_)))
     (case aB => exact (zB HB))
     (case aF => exact (fun k_ hk => Kd.fresh' (Kd.R_lt (zR HO516)) k_ hk))
     (case aO => exact (zR HO513))
     (case aS => exact (bZ (zB HB)))
     (case aL => have := LMc33.o; omega)
     intro v518 w46 ho hb hg hat
     rw [← Ny517.o] at ho
     replace HO516 := aM (Kd.R_after (ok := (fun _ => True)) (by (with_reducible repeat (first | apply rA | apply rN | apply rD)); exact rM HO516.o (fun _ hk => ⟨trivial, hk⟩)) hg hat)
     replace HB := aM (hb)
     have HO519 := aM (ho)
     clear HO513
     clear ho hb hg hat
     refine hK.out _ _ trivial (fun hK4 => ?_)
     clear hK K
     refine nU 42 ?_
     refine one_ (i := 11) (N := some 46) (bm 13 4095) rfl rfl (one_of HT_.o (by kernel_rfl)) (by decide) (fun K hK => ?_)
     refine Kd.R_append_rows_step (Kd.int .i64) (w0 := w) w.heap.size (by rfl) (.tmp 42) (.tmp 45) 31 3 (.int .i64 0) 8 rfl Try.underlying31 info3 rfl (by decide) (by omega) v518 y517 (l0.drop (x5_1 : Int).toNat) _ _ _ (fun k_ => some k_ ≠ (.slice Ao47 y514.length co47 : Value).ownBlock) (fun _ => False) rfl rfl ?aO ?aR (fun _ _ h => h) (fun _ h => h.elim) ?aF ?aB ?aS ?aL ?_
     (case aR => first | (have q_ := HR520.o; rw [show (l0.drop (x5_1 : Int).toNat).length = (l0.length - x5_1.toNat) from List.length_drop] at q_; repeat (first | exact (Kd.C_below q_ HB.o) | (with_reducible refine qA ?_ _) | (with_reducible refine qN ?_ _) | (with_reducible refine qD ?_)); done) | (rw [← show (l0.drop (x5_1 : Int).toNat).length = (l0.length - x5_1.toNat) from List.length_drop]; repeat (first | exact (Kd.C_below HR520.o HB.o) | (with_reducible refine qA ?_ _) | (with_reducible refine qN ?_ _) | (with_reducible refine qD ?_)); done) | (repeat (first | exact (Kd.C_below HR520.o HB.o) | (with_reducible refine qA ?_ _) | (with_reducible refine qN ?_ _) | (with_reducible refine qD ?_))))
     (case aB => exact (zB HB))
     (case aF => exact (fun k_ hk => Kd.fresh' (Kd.R_lt (zR HO516)) k_ hk))
     (case aO => exact (zR HO519))
     (case aS => exact (bZ (zB HB)))
     (case aL => have := LMc36.o; have hlx_ := (show (l0.drop (x5_1 : Int).toNat).length = (l0.length - x5_1.toNat) from List.length_drop); omega)
     intro v522 w48 ho hb hg hat
     rw [← Ny521.o] at ho
     replace HO516 := aM (Kd.R_after (ok := (fun _ => True)) (zR HO516) hg hat)
     replace HB := aM (hb)
     have HO523 := aM (ho)
     clear HO519
     clear ho hb hg hat
     refine hK.out _ _ trivial (fun hK4 => ?_)
     clear hK K
     refine nU 46 ?_
     refine pW 12 4 13 8191 HT_ rfl rfl ?_
     refine done_ (done_of HT_.o (by kernel_rfl)) ?_
     try clear hK4
     try go_wp2
     go_ret
     exact ⟨_, zE, by (with_reducible repeat (first | apply rA | apply rN | apply rD)); exact rM HO523.o (fun _ hk => trivial), zB HB⟩
    ·rw [if_neg c30] at H
     exact absurd H (by simp)

/-! ### spec_MovesFrom: function 25 -/
def spec_MovesFrom.l0 : Nat → Int → Bool → List Int → Int → Int → List Bool → List (S46) → Option (List Int)
 | 0, _, _, _, _, _, _, _ => none
 | k + 1, x1, x2, x7, x8, x525000, x525001, x525002 => if x8 < (x525002.length : Int) then (if 0 ≤ x8 then (if ((rd_T46 x525002 x8).f0) = x1 then (if (((rd_T46 x525002 x8).f1) == x2) = true then ((spec_l4Put.f k x7 ((rd_T46 x525002 x8).f2)).bind fun t531 => (spec_MovesFrom.l0 k x1 x2 t531 (wrap64 (x8 + 1)) x525000 x525001 x525002)) else (spec_MovesFrom.l0 k x1 x2 x7 (wrap64 (x8 + 1)) x525000 x525001 x525002)) else (spec_MovesFrom.l0 k x1 x2 x7 (wrap64 (x8 + 1)) x525000 x525001 x525002)) else (none)) else (some x7)
def spec_MovesFrom.f (k : Nat) (a0_0 : Int) (l0_1 : List Bool) (l0_2 : List (S46)) (a1 : Int) (a2 : Bool) : Option (List Int) := spec_MovesFrom.l0 k a1 a2 (([] : List Int)) 0 a0_0 l0_1 l0_2
theorem spec_MovesFrom.mono_l : ∀ k, (∀ y0 y1 y2 y3 y4 y5 y6, LeO (spec_MovesFrom.l0 k y0 y1 y2 y3 y4 y5 y6) (spec_MovesFrom.l0 (k + 1) y0 y1 y2 y3 y4 y5 y6))
 | 0 => fun _ _ _ _ _ _ _ r h => by simp [spec_MovesFrom.l0] at h
 | k + 1 => by
  have ih0 := spec_MovesFrom.mono_l k
  ·intro y0 y1 y2 y3 y4 y5 y6
   unfold spec_MovesFrom.l0
   repeat' first
   | (with_reducible first | exact ih0 _ _ _ _ _ _ _ | exact spec_l4Put.mono _ _ _ | exact LeO.refl _ | exact LeO.none _ | refine LeO.ite ?_ ?_ | refine LeO.bind ?_ (fun _ => ?_))
   | exact ih0 _ _ _ _ _ _ _
   | exact spec_l4Put.mono _ _ _
   | exact LeO.none _
   | refine LeO.ite ?_ ?_
   | refine LeO.bind ?_ (fun _ => ?_)
theorem spec_MovesFrom.mono : ∀ a0 a1 a2 a3 a4 k, LeO (spec_MovesFrom.f k a0 a1 a2 a3 a4) (spec_MovesFrom.f (k + 1) a0 a1 a2 a3 a4) := by
 intro a0 a1 a2 a3 a4 k
 have ih0 := spec_MovesFrom.mono_l k
 unfold spec_MovesFrom.f
 repeat' first
   | (with_reducible first | exact ih0 _ _ _ _ _ _ _ | exact spec_l4Put.mono _ _ _ | exact LeO.refl _ | exact LeO.none _ | refine LeO.ite ?_ ?_ | refine LeO.bind ?_ (fun _ => ?_))
   | exact ih0 _ _ _ _ _ _ _
   | exact spec_l4Put.mono _ _ _
   | exact LeO.none _
   | refine LeO.ite ?_ ?_
   | refine LeO.bind ?_ (fun _ => ?_)
set_option maxHeartbeats 8000000 in
set_option maxRecDepth 100000 in
theorem spec_MovesFrom.calls (k : Nat) (a0_0 : Int) (A0_1 : Option Addr) (c0_1 : Nat) (l0_1 : List Bool) (A0_2 : Option Addr) (c0_2 : Nat) (l0_2 : List (S46)) (a1 : Int) (a2 : Bool) (r : List Int) (w : World) (hr0_1 : Kd.C Kd.bool w A0_1 l0_1.length l0_1) (hc0_1 : l0_1.length ≤ c0_1) (hr0_2 : Kd.C k46 w A0_2 l0_2.length l0_2) (hc0_2 : l0_2.length ≤ c0_2) (h : spec_MovesFrom.f k a0_0 l0_1 l0_2 a1 a2 = some r) :
  Calls Try.prog 25 #[.agg #[.int .i64 a0_0, .slice A0_1 l0_1.length c0_1, .slice A0_2 l0_2.length c0_2], .int .i64 a1, .bool a2] w fun e w' => ∃ v0_ : Value, e = .returned (v0_) ∧ Kd.R (Kd.int .i64) 3 w' w.heap.size (fun _ => True) v0_ r ∧ Below w.heap.size w w' := by
 have hu27 := Try.underlying27
 have HR0_1 := aM hr0_1
 have HC0_1 := aM hc0_1
 clear hr0_1 hc0_1
 have HR0_2 := aM hr0_2
 have HC0_2 := aM hc0_2
 clear hr0_2 hc0_2
 have HB := aM (Below.refl w.heap.size w)
 have H : (spec_MovesFrom.l0 k a1 a2 (([] : List Int)) 0 a0_0 l0_1 l0_2) = some r := h
 clear h
 obtain ⟨y525, hy525⟩ : ∃ y_ : List Int, y_ = (([] : List Int)) := ⟨_, rfl⟩
 replace H : (spec_MovesFrom.l0 k a1 a2 y525 0 a0_0 l0_1 l0_2) = some r := by first | (rw [hy525]; with_reducible exact H) | (rw [hy525]; exact H) | exact H
 have Ny525 := aM hy525
 clear hy525
 have H' := aM H
 clear H
 go_enter Try.func25, Try.ntmps25
 go_wp2_with (first | ((with_reducible refine gD (N := 3) rfl ?_); refine box_event ?hg (N := 3) ?hd (cs := #[.int .i64 a0_0, .slice A0_1 l0_1.length c0_1, .slice A0_2 l0_2.length c0_2]) (t := 27) ?hr ?_; (case hd => rfl); (case hg => rfl); (case hr => first | (go_simp; done) | (go_simp; rfl)); intro gb524 hg w4 hbox hb; have BK524 := aM (hbox); have GW524 := gS HB hg; have GE524 := gS HB hg; replace HB := bS HB hb; clear hb hbox hg) | ((with_reducible refine gD (N := 9) rfl ?_); refine Kd.R_lit (Kd.int .i64) _ 3 ?hg (N := 9) ?hd (xs := ([] : List Int)) (inner := []) (ok := fun _ => True) (okp := fun _ => True) ?hr ?hp (fun _ hk => hk) trivial (Below.refl _ _) (Nat.le_refl _) (by simp) ?_; (case hd => rfl); (case hg => rfl); (case hr => first | (go_simp; done) | (go_simp; rfl)); (case hp => exact (Reps.none _ _)); intro v526 w5 ho6 hb hg_ hnew_; clear hg_ hnew_; (first | rw [← Ny525.o] at ho6 | (simp only [Int.reduceToNat] at ho6; rw [← Ny525.o] at ho6)); have HO527 := aM (rO ho6 (bZ (zB HB))); replace BK524 := kB BK524 hb; replace HB := bS HB hb; clear hb ho6))
 go_loopg [7, 8] k (fun kq v7 v8 w' => ∃ (x7_1 : List Int) (x8_1 : Int), v8 = .int .i64 x8_1 ∧ Aside0 (spec_MovesFrom.l0 kq a1 a2 x7_1 x8_1 a0_0 l0_1 l0_2 = some r) ∧ Aside0 (kq ≤ k) ∧ Aside0 (Kd.R (Kd.int .i64) 3 w' w.heap.size (fun _ => True) v7 x7_1) ∧ Aside0 (w'.heap[gb524]? = some (.cells #[.int .i64 a0_0, (.slice A0_1 l0_1.length c0_1), (.slice A0_2 l0_2.length c0_2)] 27 (0, 0))) ∧ Aside0 (Below w.heap.size w w'))
 case atStart => exact ⟨(y525), (0), zF, H', ⟨Nat.le_refl _⟩, ⟨zR HO527⟩, ⟨zK BK524⟩, ⟨zB HB⟩⟩
 case round =>
  clear H'
  try clear c2
  try clear p2
  obtain ⟨x7_1, x8_1, rfl, HA, HK1, HO_7, BK524, HB⟩ := hrel
  cases gk with
  | zero => exact absurd HA.o (by simp [spec_MovesFrom.l0])
  | succ k1 =>
   have H := HA.o
   clear HA
   simp only [spec_MovesFrom.l0] at H
   by_cases c7 : x8_1 < (l0_2.length : Int)
   ·rw [if_pos c7] at H
    have c7b0 : decide (x8_1 < (l0_2.length : Int)) = true := dT c7
    clear c7
    obtain ⟨c8, H⟩ := ifS H
    have c8b0 : decide (0 ≤ x8_1) = true := dT c8
    clear c8
    by_cases c9 : ((rd_T46 l0_2 x8_1).f0) = a1
    ·rw [if_pos c9] at H
     have c9b0 : (((rd_T46 l0_2 x8_1).f0) == a1) = true := beq_iff_eq.mpr c9
     have c9b1 : (((rd_T46 l0_2 x8_1).f0) != a1) = false := bne_eq_false_iff_eq.mpr c9
     clear c9
     by_cases c10 : (((rd_T46 l0_2 x8_1).f1) == a2) = true
     ·rw [if_pos c10] at H
      have c10b0 : (((rd_T46 l0_2 x8_1).f1) == a2) = true := c10
      (try (have c10b1 : decide (((rd_T46 l0_2 x8_1).f1) = a2) = true := by simpa using c10))
      (try (have c10b2 : (((rd_T46 l0_2 x8_1).f1) == a2) = true := by simpa using c10))
      clear c10
      obtain ⟨t531, A11, H⟩ := bindS H
      have H' := aM H
      clear H
      obtain ⟨z12_0, z12_1, z12_2, f12_0, f12_1, f12_2⟩ := bq3 BK524
      have p528 : 0 ≤ (x8_1 : Int) := zD
      have q528 : x8_1 < (l0_2.length : Int) := zD
      obtain ⟨ad528, e528, hx528_0, hx528_1, hx528_2, hx528_3⟩ := at_T46 HR0_2.o x8_1 p528 q528
      cases e528
      replace hx528_0 := hL HB hx528_0
      replace hx528_1 := hL HB hx528_1
      replace hx528_2 := hL HB hx528_2
      replace hx528_3 := hL HB hx528_3
      replace p528 := eq_true p528
      replace q528 := eq_true q528
      have p529 : 0 ≤ (x8_1 : Int) := zD
      have q529 : x8_1 < (l0_2.length : Int) := zD
      obtain ⟨ad529, e529, hx529_0, hx529_1, hx529_2, hx529_3⟩ := at_T46 HR0_2.o x8_1 p529 q529
      obtain rfl : ad528 = ad529 := (by injection e529)
      replace hx529_0 := hL HB hx529_0
      replace hx529_1 := hL HB hx529_1
      replace hx529_2 := hL HB hx529_2
      replace hx529_3 := hL HB hx529_3
      replace p529 := eq_true p529
      replace q529 := eq_true q529
      have p530 : 0 ≤ (x8_1 : Int) := zD
      have q530 : x8_1 < (l0_2.length : Int) := zD
      obtain ⟨ad530, e530, hx530_0, hx530_1, hx530_2, hx530_3⟩ := at_T46 HR0_2.o x8_1 p530 q530
      obtain rfl : ad528 = ad530 := (by injection e530)
      replace hx530_0 := hL HB hx530_0
      replace hx530_1 := hL HB hx530_1
      replace hx530_2 := hL HB hx530_2
      replace hx530_3 := hL HB hx530_3
      replace p530 := eq_true p530
      replace q530 := eq_true q530
      obtain ⟨Ao13, co13, eo13⟩ := rL HO_7.o
      subst eo13
      go_wp2_with (first | ((with_reducible refine gC (f := 42) rfl ?_); refine goesL_ (some 42) rfl rfl Try.func42 (by kernel_rfl) rfl #[.slice Ao13 x7_1.length co13, .int .i64 ((rd_T46 l0_2 x8_1).f2)] rfl zG ?_; (with_reducible refine (spec_l4Put.calls k1 _ _ x7_1 ((rd_T46 l0_2 x8_1).f2) t531 _ ?s1 ?s2 A11.o).mono ?_); (case s1 => exact cU (rQ HO_7.o).2.2); (case s2 => exact (rQ HO_7.o).2.1); rintro e w14 ⟨v532, rfl, ho0, hb⟩; refine ⟨_, rfl, ?_⟩; have HO533 := aM (rO (Kd.R_new' ho0 (Kd.R_lt (zR HO_7))) (bZ (zB HB))); replace HO_7 := aM (Kd.R_elder' (zR HO_7) (Kd.R_base ho0) hb); replace BK524 := kB BK524 hb; replace HB := bS HB hb; (try clear hb); (try clear ho0)))
      go_roundg k1
      case measure => have := HK1.o; omega
      case rel => exact ⟨(t531), (wrap64 (x8_1 + 1)), zF, H', ⟨by have := HK1.o; omega⟩, ⟨by (with_reducible repeat (first | apply rA | apply rN | apply rD)); exact rM HO533.o (fun _ hk => trivial)⟩, ⟨zK BK524⟩, ⟨zB HB⟩⟩
     ·rw [if_neg c10] at H
      have c10b0 : (((rd_T46 l0_2 x8_1).f1) == a2) = false := by simpa using c10
      (try (have c10b1 : decide (((rd_T46 l0_2 x8_1).f1) = a2) = false := by simpa using c10))
      (try (have c10b2 : (((rd_T46 l0_2 x8_1).f1) == a2) = false := by simpa using c10))
      (try (have c10b3 : ¬ (((rd_T46 l0_2 x8_1).f1) = a2) := by simpa using c10))
      clear c10
      have H' := aM H
      clear H
      obtain ⟨z15_0, z15_1, z15_2, f15_0, f15_1, f15_2⟩ := bq3 BK524
      have p528 : 0 ≤ (x8_1 : Int) := zD
      have q528 : x8_1 < (l0_2.length : Int) := zD
      obtain ⟨ad528, e528, hx528_0, hx528_1, hx528_2, hx528_3⟩ := at_T46 HR0_2.o x8_1 p528 q528
      cases e528
      replace hx528_0 := hL HB hx528_0
      replace hx528_1 := hL HB hx528_1
      replace hx528_2 := hL HB hx528_2
      replace hx528_3 := hL HB hx528_3
      replace p528 := eq_true p528
      replace q528 := eq_true q528
      have p529 : 0 ≤ (x8_1 : Int) := zD
      have q529 : x8_1 < (l0_2.length : Int) := zD
      obtain ⟨ad529, e529, hx529_0, hx529_1, hx529_2, hx529_3⟩ := at_T46 HR0_2.o x8_1 p529 q529
      obtain rfl : ad528 = ad529 := (by injection e529)
      replace hx529_0 := hL HB hx529_0
      replace hx529_1 := hL HB hx529_1
      replace hx529_2 := hL HB hx529_2
      replace hx529_3 := hL HB hx529_3
      replace p529 := eq_true p529
      replace q529 := eq_true q529
      go_wp2
      go_roundg k1
      case measure => have := HK1.o; omega
      case rel => exact ⟨(x7_1), (wrap64 (x8_1 + 1)), zF, H', ⟨by have := HK1.o; omega⟩, ⟨zR HO_7⟩, ⟨zK BK524⟩, ⟨zB HB⟩⟩
    ·rw [if_neg c9] at H
     have c9b0 : (((rd_T46 l0_2 x8_1).f0) == a1) = false := beq_eq_false_iff_ne.mpr c9
     have c9b1 : (((rd_T46 l0_2 x8_1).f0) != a1) = true := bne_iff_ne.mpr c9
     have H' := aM H
     clear H
     obtain ⟨z16_0, z16_1, z16_2, f16_0, f16_1, f16_2⟩ := bq3 BK524
     have p528 : 0 ≤ (x8_1 : Int) := zD
     have q528 : x8_1 < (l0_2.length : Int) := zD
     obtain ⟨ad528, e528, hx528_0, hx528_1, hx528_2, hx528_3⟩ := at_T46 HR0_2.o x8_1 p528 q528
     cases e528
     replace hx528_0 := hL HB hx528_0
     replace hx528_1 := hL HB hx528_1
     replace hx528_2 := hL HB hx528_2
     replace hx528_3 := hL HB hx528_3
     replace p528 := eq_true p528
     replace q528 := eq_true q528
     go_wp2
     go_roundg k1
     case measure => have := HK1.o; omega
     case rel => exact ⟨(x7_1), (wrap64 (x8_1 + 1)), zF, H', ⟨by have := HK1.o; omega⟩, ⟨zR HO_7⟩, ⟨zK BK524⟩, ⟨zB HB⟩⟩
   ·rw [if_neg c7] at H
    have c7b0 : decide (x8_1 < (l0_2.length : Int)) = false := decide_eq_false c7
    clear c7
    obtain rfl := oI H
    obtain ⟨z17_0, z17_1, z17_2, f17_0, f17_1, f17_2⟩ := bq3 BK524
    go_wp2
    go_ret
    exact ⟨_, zE, by (with_reducible repeat (first | apply rA | apply rN | apply rD)); exact HO_7.o, zB HB⟩

end Go.Proofs.Ytfibjclnaeocbaa.PFnPairs
