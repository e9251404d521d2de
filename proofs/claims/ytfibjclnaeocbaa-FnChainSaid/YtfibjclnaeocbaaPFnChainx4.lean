-- WRITTEN by pp.py, this session's own wrapper around the print; not trusted: Lean checks it
import Derived.Test.YtfibjclnaeocbaaPFnChainx0
namespace Go.Proofs.Ytfibjclnaeocbaa.PFnChain
open Go.RowKit Go.Proofs.Ytfibjclnaeocbaa.Hw Go.Proofs.YtfibjclnaeocbaaW.PrintWords Go.Proofs.YtfibjclnaeocbaaW.PrintLast Go.Proofs.YtfibjclnaeocbaaW.PrintMore
attribute [local go_sem] max2_int min2_int max_two min_two max_three min_three max_four min_four   -- for this text's walks alone
set_option linter.unusedVariables false
set_option linter.unusedSimpArgs false
set_option linter.unusedSectionVars false

/-! ### spec_l4Put: function 42 -/
def spec_l4Put.l0 : Nat → List Int → Int → Int → Option (List Int)
 | 0, _, _, _ => none
 | k + 1, x0, x1, x5 => if x5 < (x0.length : Int) then (if 0 ≤ x5 then (if (rd x0 x5) < x1 then (spec_l4Put.l0 k x0 x1 (wrap64 (x5 + 1))) else (if (rd x0 x5) = x1 then ((some (([] : List Int) : List Int)).bind fun y172 => (if y172.length + x0.length < 17592186044416 then (some (y172 ++ x0)) else (none))) else ((some (([] : List Int) : List Int)).bind fun y178 => (if x5 ≤ (x0.length : Int) then (if y178.length + (x0.take (x5 : Int).toNat).length < 17592186044416 then ((some (y178 ++ (x0.take (x5 : Int).toNat) : List Int)).bind fun y182 => ((some (([x1] : List Int) : List Int)).bind fun y185 => (if y182.length + y185.length < 17592186044416 then ((some (y182 ++ y185 : List Int)).bind fun y188 => (if y188.length + (x0.drop (x5 : Int).toNat).length < 17592186044416 then (some (y188 ++ (x0.drop (x5 : Int).toNat))) else (none))) else (none)))) else (none)) else (none))))) else (none)) else ((some (([] : List Int) : List Int)).bind fun y195 => (if 0 ≤ x5 then (if x5 ≤ (x0.length : Int) then (if y195.length + (x0.take (x5 : Int).toNat).length < 17592186044416 then ((some (y195 ++ (x0.take (x5 : Int).toNat) : List Int)).bind fun y199 => ((some (([x1] : List Int) : List Int)).bind fun y202 => (if y199.length + y202.length < 17592186044416 then ((some (y199 ++ y202 : List Int)).bind fun y205 => (if y205.length + (x0.drop (x5 : Int).toNat).length < 17592186044416 then (some (y205 ++ (x0.drop (x5 : Int).toNat))) else (none))) else (none)))) else (none)) else (none)) else (none)))
def spec_l4Put.f (k : Nat) (l0 : List Int) (a1 : Int) : Option (List Int) := spec_l4Put.l0 k l0 a1 0
theorem spec_l4Put.mono_l : ∀ k, (∀ y0 y1 y2, LeO (spec_l4Put.l0 k y0 y1 y2) (spec_l4Put.l0 (k + 1) y0 y1 y2))
 | 0 => fun _ _ _ r h => by simp [spec_l4Put.l0] at h
 | k + 1 => by
  have ih0 := spec_l4Put.mono_l k
  ·intro y0 y1 y2
   unfold spec_l4Put.l0
   repeat' first
   | (with_reducible exact ih0 _ _ _)
   | (with_reducible exact LeO.refl _)
   | (with_reducible exact LeO.none _)
   | (with_reducible refine LeO.ite ?_ ?_)
   | (with_reducible refine LeO.bind ?_ (fun _ => ?_))
   | exact ih0 _ _ _
   | exact LeO.none _
   | refine LeO.ite ?_ ?_
   | refine LeO.bind ?_ (fun _ => ?_)
theorem spec_l4Put.mono : ∀ a0 a1 k, LeO (spec_l4Put.f k a0 a1) (spec_l4Put.f (k + 1) a0 a1) := by
 intro a0 a1 k
 have ih0 := spec_l4Put.mono_l k
 unfold spec_l4Put.f
 repeat' first
   | (with_reducible exact ih0 _ _ _)
   | (with_reducible exact LeO.refl _)
   | (with_reducible exact LeO.none _)
   | (with_reducible refine LeO.ite ?_ ?_)
   | (with_reducible refine LeO.bind ?_ (fun _ => ?_))
   | exact ih0 _ _ _
   | exact LeO.none _
   | refine LeO.ite ?_ ?_
   | refine LeO.bind ?_ (fun _ => ?_)
def spec_l4Put.T6 : Bool × List (List Nat × List Nat) := (true, [([], []), ([], []), ([], []), ([1, 2], [1, 2]), ([0, 3], [0, 3]), ([], []), ([5], [5]), ([4, 6, 4], [4, 6]), ([], []), ([], []), ([8, 9], [8, 9]), ([7, 10, 7], [7, 10]), ([11, 11, 0, 1, 2, 3, 4, 5, 6, 7, 8, 9, 10, 11], [11])])
def spec_l4Put.B6 : List Nat := [0, 0, 0, 6, 15, 0, 32, 127, 0, 0, 768, 2047, 4095]
theorem spec_l4Put.tab6 : rtab .any (opsOf Try.f42 6) = spec_l4Put.T6 := by kernel_rfl
theorem spec_l4Put.bits6 : waitsOk spec_l4Put.T6.2 spec_l4Put.B6 = true := by kernel_rfl
set_option maxHeartbeats 8000000 in
set_option maxRecDepth 100000 in
theorem spec_l4Put.calls (k : Nat) (A0 : Option Addr) (c0 : Nat) (l0 : List Int) (a1 : Int) (r : List Int) (w : World) (hr0 : Kd.C (Kd.int .i64) w A0 l0.length l0) (hc0 : l0.length ≤ c0) (h : spec_l4Put.f k l0 a1 = some r) :
  Calls Try.prog 42 #[.slice A0 l0.length c0, .int .i64 a1] w fun e w' => ∃ v0_ : Value, e = .returned (v0_) ∧ Kd.R (Kd.int .i64) 3 w' w.heap.size (fun _ => True) v0_ r ∧ Below w.heap.size w w' := by
 have HR0 := Aside0.mk hr0
 have HC0 := Aside0.mk hc0
 clear hr0 hc0
 have HB := Aside0.mk (Below.refl w.heap.size w)
 have H : (spec_l4Put.l0 k l0 a1 0) = some r := h
 clear h
 have H' := Aside0.mk H
 clear H
 go_enter Try.func42, Try.ntmps42
 go_wp2
 go_loopg [5] k (fun kq v5 w' => ∃ (x5_1 : Int), v5 = .int .i64 x5_1 ∧ Aside0 (spec_l4Put.l0 kq l0 a1 x5_1 = some r) ∧ Aside0 (kq ≤ k) ∧ Aside0 (Below w.heap.size w w'))
 case atStart => exact ⟨(0), zF, H', ⟨Nat.le_refl _⟩, ⟨zB HB⟩⟩
 case round =>
  clear H'
  try clear p2
  obtain ⟨x5_1, rfl, HA, HK1, HB⟩ := hrel
  cases gk with
  | zero => exact absurd HA.out (by simp [spec_l4Put.l0])
  | succ k1 =>
   have H := HA.out
   clear HA
   simp only [spec_l4Put.l0] at H
   by_cases c3 : x5_1 < (l0.length : Int)
   ·rw [if_pos c3] at H
    have c3b0 : decide (x5_1 < (l0.length : Int)) = true := decide_eq_true c3
    clear c3
    obtain ⟨c4, H⟩ := ifS H
    have c4b0 : decide (0 ≤ x5_1) = true := decide_eq_true c4
    clear c4
    by_cases c5 : (rd l0 x5_1) < a1
    ·rw [if_pos c5] at H
     have c5b0 : decide ((rd l0 x5_1) < a1) = true := decide_eq_true c5
     clear c5
     have H' := Aside0.mk H
     clear H
     have p170 : 0 ≤ (x5_1 : Int) := zD
     have q170 : x5_1 < (l0.length : Int) := zD
     obtain ⟨ad170, e170, hx170_0⟩ := Kd.at_int HR0.out x5_1 p170 q170
     cases e170
     replace hx170_0 := hL HB hx170_0
     replace p170 := eq_true p170
     replace q170 := eq_true q170
     go_wp2
     go_roundg k1
     case measure => have := HK1.out; omega
     case rel => exact ⟨(wrap64 (x5_1 + 1)), zF, H', ⟨by have := HK1.out; omega⟩, ⟨zB HB⟩⟩
    ·rw [if_neg c5] at H
     have c5b0 : decide ((rd l0 x5_1) < a1) = false := decide_eq_false c5
     clear c5
     by_cases c6 : (rd l0 x5_1) = a1
     ·rw [if_pos c6] at H
      have c6b0 : ((rd l0 x5_1) == a1) = true := beq_iff_eq.mpr c6
      have c6b1 : ((rd l0 x5_1) != a1) = false := bne_eq_false_iff_eq.mpr c6
      clear c6
      obtain ⟨y172, hy172⟩ : ∃ y_ : List Int, y_ = (([] : List Int)) := ⟨_, rfl⟩
      replace H : (if y172.length + l0.length < 17592186044416 then (some (y172 ++ l0)) else (none)) = some r := by first | (rw [hy172]; with_reducible exact H) | (rw [hy172]; exact H) | exact H
      have Ny172 := Aside0.mk hy172
      clear hy172
      obtain ⟨c7, H⟩ := ifS H
      have LMc7 := Aside0.mk c7
      clear c7
      obtain ⟨y175, hy175⟩ : ∃ y_ : List Int, y_ = (y172 ++ l0) := ⟨_, rfl⟩
      replace H : (some y175) = some r := by first | (rw [hy175]; with_reducible exact H) | (rw [hy175]; exact H) | exact H
      have Ny175 := Aside0.mk hy175
      clear hy175
      obtain rfl := Option.some.inj H
      have p170 : 0 ≤ (x5_1 : Int) := zD
      have q170 : x5_1 < (l0.length : Int) := zD
      obtain ⟨ad170, e170, hx170_0⟩ := Kd.at_int HR0.out x5_1 p170 q170
      cases e170
      replace hx170_0 := hL HB hx170_0
      replace p170 := eq_true p170
      replace q170 := eq_true q170
      have p171 : 0 ≤ (x5_1 : Int) := zD
      have q171 : x5_1 < (l0.length : Int) := zD
      obtain ⟨ad171, e171, hx171_0⟩ := Kd.at_int HR0.out x5_1 p171 q171
      obtain rfl : ad170 = ad171 := (by injection e171)
      replace hx171_0 := hL HB hx171_0
      replace p171 := eq_true p171
      replace q171 := eq_true q171
      go_wp2_with (first | ((with_reducible refine gate_dst (N := 32) rfl ?_); refine Kd.R_lit (Kd.int .i64) _ 3 ?hg (N := 32) ?hd (xs := ([] : List Int)) (inner := []) (ok := fun _ => True) (okp := fun _ => True) ?hr ?hp (fun _ hk => hk) trivial (Below.refl _ _) (Nat.le_refl _) (by simp) ?_; (case hd => rfl); (case hg => rfl); (case hr => first | (go_simp; done) | (go_simp; rfl)); (case hp => exact (Reps.none _ _)); intro v173 w8 ho9 hb hg_ hnew_; clear hg_ hnew_; (first | rw [← Ny172.out] at ho9 | (simp only [Int.reduceToNat] at ho9; rw [← Ny172.out] at ho9)); have HO174 := Aside0.mk (Kd.R_lower ho9 (below_size (zB HB))); replace HB := bS HB hb; clear hb ho9) | ((with_reducible refine gate_builtin (b := .append) (xs := #[.tmp 32, .tmp 33]) rfl ?_); at_builtin; refine Kd.R_append_rows (Kd.int .i64) (w0 := w) w.heap.size rfl (.tmp 32) (.tmp 33) 31 3 (.int .i64 0) 8 rfl Try.underlying31 info3 rfl (by decide) (by omega) v173 y172 l0 _ _ _ (fun _ => True) (fun _ => False) rfl rfl ?aO ?aR (fun _ _ h => h) (fun _ h => h.elim) ?aF ?aB ?aS ?aL ?_; (case aR => repeat (first | exact (Kd.C_below HR0.out HB.out) | (with_reducible refine Kd.C_alloc ?_ _) | (with_reducible refine Kd.C_drewN ?_ _) | (with_reducible refine Kd.C_drew ?_))); (case aB => exact (zB HB)); (case aF => exact (fun _ _ => trivial)); (case aO => exact (zR HO174)); (case aS => exact (below_size (zB HB))); (case aL => have := LMc7.out; omega); intro v176 w10 ho hb hg hat; rw [← Ny175.out] at ho; replace HB := Aside0.mk (hb); have HO177 := Aside0.mk (ho); clear HO174; clear ho hb hg hat))
      go_ret
      exact ⟨_, zE, by (with_reducible repeat (first | apply Kd.R_alloc | apply Kd.R_drewN | apply Kd.R_drew)); exact HO177.out, zB HB⟩
     ·rw [if_neg c6] at H
      have c6b0 : ((rd l0 x5_1) == a1) = false := beq_eq_false_iff_ne.mpr c6
      have c6b1 : ((rd l0 x5_1) != a1) = true := bne_iff_ne.mpr c6
      obtain ⟨y178, hy178⟩ : ∃ y_ : List Int, y_ = (([] : List Int)) := ⟨_, rfl⟩
      replace H : (if x5_1 ≤ (l0.length : Int) then (if y178.length + (l0.take (x5_1 : Int).toNat).length < 17592186044416 then ((some (y178 ++ (l0.take (x5_1 : Int).toNat) : List Int)).bind fun y182 => ((some (([a1] : List Int) : List Int)).bind fun y185 => (if y182.length + y185.length < 17592186044416 then ((some (y182 ++ y185 : List Int)).bind fun y188 => (if y188.length + (l0.drop (x5_1 : Int).toNat).length < 17592186044416 then (some (y188 ++ (l0.drop (x5_1 : Int).toNat))) else (none))) else (none)))) else (none)) else (none)) = some r := by first | (rw [hy178]; with_reducible exact H) | (rw [hy178]; exact H) | exact H
      have Ny178 := Aside0.mk hy178
      clear hy178
      have c11b0 := eq_true (zD : 0 ≤ x5_1)
      obtain ⟨c12, H⟩ := ifS H
      have c12b0 := eq_true c12
      have c12b1 : decide (x5_1 ≤ (l0.length : Int)) = true := decide_eq_true c12
      clear c12
      obtain ⟨c13, H⟩ := ifS H
      have LMc13 := Aside0.mk c13
      clear c13
      obtain ⟨y182, hy182⟩ : ∃ y_ : List Int, y_ = (y178 ++ (l0.take (x5_1 : Int).toNat)) := ⟨_, rfl⟩
      replace H : ((some (([a1] : List Int) : List Int)).bind fun y185 => (if y182.length + y185.length < 17592186044416 then ((some (y182 ++ y185 : List Int)).bind fun y188 => (if y188.length + (l0.drop (x5_1 : Int).toNat).length < 17592186044416 then (some (y188 ++ (l0.drop (x5_1 : Int).toNat))) else (none))) else (none))) = some r := by first | (rw [hy182]; with_reducible exact H) | (rw [hy182]; exact H) | exact H
      have Ny182 := Aside0.mk hy182
      clear hy182
      obtain ⟨y185, hy185⟩ : ∃ y_ : List Int, y_ = (([a1] : List Int)) := ⟨_, rfl⟩
      replace H : (if y182.length + y185.length < 17592186044416 then ((some (y182 ++ y185 : List Int)).bind fun y188 => (if y188.length + (l0.drop (x5_1 : Int).toNat).length < 17592186044416 then (some (y188 ++ (l0.drop (x5_1 : Int).toNat))) else (none))) else (none)) = some r := by first | (rw [hy185]; with_reducible exact H) | (rw [hy185]; exact H) | exact H
      have Ny185 := Aside0.mk hy185
      clear hy185
      obtain ⟨c14, H⟩ := ifS H
      have LMc14 := Aside0.mk c14
      clear c14
      obtain ⟨y188, hy188⟩ : ∃ y_ : List Int, y_ = (y182 ++ y185) := ⟨_, rfl⟩
      replace H : (if y188.length + (l0.drop (x5_1 : Int).toNat).length < 17592186044416 then (some (y188 ++ (l0.drop (x5_1 : Int).toNat))) else (none)) = some r := by first | (rw [hy188]; with_reducible exact H) | (rw [hy188]; exact H) | exact H
      have Ny188 := Aside0.mk hy188
      clear hy188
      have c15b0 := eq_true (zD : 0 ≤ x5_1)
      have c16b0 := eq_true (zD : x5_1 ≤ (l0.length : Int))
      obtain ⟨c17, H⟩ := ifS H
      have LMc17 := Aside0.mk c17
      clear c17
      obtain ⟨y192, hy192⟩ : ∃ y_ : List Int, y_ = (y188 ++ (l0.drop (x5_1 : Int).toNat)) := ⟨_, rfl⟩
      replace H : (some y192) = some r := by first | (rw [hy192]; with_reducible exact H) | (rw [hy192]; exact H) | exact H
      have Ny192 := Aside0.mk hy192
      clear hy192
      obtain rfl := Option.some.inj H
      have p170 : 0 ≤ (x5_1 : Int) := zD
      have q170 : x5_1 < (l0.length : Int) := zD
      obtain ⟨ad170, e170, hx170_0⟩ := Kd.at_int HR0.out x5_1 p170 q170
      cases e170
      replace hx170_0 := hL HB hx170_0
      replace p170 := eq_true p170
      replace q170 := eq_true q170
      have p171 : 0 ≤ (x5_1 : Int) := zD
      have q171 : x5_1 < (l0.length : Int) := zD
      obtain ⟨ad171, e171, hx171_0⟩ := Kd.at_int HR0.out x5_1 p171 q171
      obtain rfl : ad170 = ad171 := (by injection e171)
      replace hx171_0 := hL HB hx171_0
      replace p171 := eq_true p171
      replace q171 := eq_true q171
      try go_wp2
      replace HB := Aside0.mk (below_drew1 HB.out)
      obtain ⟨i019, hi019, _, hsz19, _⟩ := info_parts info3
      obtain ⟨hcut19, hA19, hC19⟩ := print_take_of (P := Try.prog) (Value.int .i64) 0 31 3 .i64 Try.underlying31 hi019 hsz19 (some ad170) c0 l0 x5_1 (zD) (zD) HC0.out
      have HR181 := Aside0.mk (Kd.C_of_reads (h1 := fun _ => rfl) (hA19 _ (Kd.reads_of_C HR0.out)))
      have HC181 := Aside0.mk hC19
      clear hA19 hC19 hi019 hsz19
      obtain ⟨i020, hi020, _, hsz20, _⟩ := info_parts info3
      obtain ⟨A20, hcut20, hA20, hC20⟩ := print_drop_of (P := Try.prog) (Value.int .i64) 0 31 3 .i64 Try.underlying31 hi020 hsz20 (some ad170) c0 l0 x5_1 (zD) (zD) HC0.out
      have HR191 := Aside0.mk (Kd.C_of_reads (h1 := fun _ => rfl) (hA20 _ (Kd.reads_of_C HR0.out)))
      have HC191 := Aside0.mk hC20
      clear hA20 hC20 hi020 hsz20
      refine start_ (n := 13) (S := fun w' => True) (ds := []) (bm 13 0) (by kernel_rfl) rfl (bm0 _) trivial (fun hHeld => ?_); refine with_tabW spec_l4Put.tab6 spec_l4Put.bits6 (fun HT_ HW_ => ?_)
      generalize wr.drew = w18 at HB HR181 HR191 hHeld ⊢
      refine pU 1 (some 36) (bm 13 2) HT_ rfl rfl ?_
      refine pU 2 (some 37) (bm 13 6) HT_ rfl rfl ?_
      refine pU 3 (some 38) (bm 13 14) HT_ rfl rfl ?_
      refine pU 5 (some 40) (bm 13 46) HT_ rfl rfl ?_
      refine pU 8 (some 43) (bm 13 302) HT_ rfl rfl ?_
      refine pU 9 (some 44) (bm 13 814) HT_ rfl rfl ?_
      refine pU 10 (some 45) (bm 13 1838) HT_ rfl rfl ?_
      refine join_ (σ := Value × Value × Value) 3 (bm 13 1919) (fun s_ => [(35, s_.1), (39, s_.2.1), (41, s_.2.2)]) (fun s_ w' => (Kd.R (Kd.int .i64) 3 w' w.heap.size (fun k_ => some k_ ≠ (s_.2.2 : Value).ownBlock) s_.2.1 y182) ∧ (Kd.R (Kd.int .i64) 3 w' w.heap.size (fun k_ => some k_ ≠ (s_.2.1 : Value).ownBlock) s_.2.2 y185) ∧ (Below w.heap.size w w')) ?_ ?_
      rotate_left
      ·intro hCont
       refine two_ (i := 0) (j := 6) (Ni := some 35) (Nj := some 41) (bm 13 1839) (bm 13 1902) rfl rfl rfl rfl (two_of HT_.out (by kernel_rfl)) (by decide) (by decide) (fun K hK => ?_) (fun K hK => ?_)
       ·skip
        refine Kd.R_lit_step (Kd.int .i64) _ 3 ?hg (N := 35) ?hd (xs := ([] : List Int)) (inner := []) (ok := fun _ => True) (okp := fun _ => True) ?hr ?hp (fun _ hk => hk) trivial (Below.refl _ _) (Nat.le_refl _) (by simp) ?_; (case hd => rfl); (case hg => rfl); (case hr => first | (go_simp; done) | (go_simp; rfl)); (case hp => exact (Reps.none _ _))
        intro v179 w21 ho22 hb hg_ hnew_
        clear hg_ hnew_
        (first | rw [← Ny178.out] at ho22 | (simp only [Int.reduceToNat] at ho22; rw [← Ny178.out] at ho22))
        have HO180 := Aside0.mk (Kd.R_lower ho22 (below_size (zB HB)))
        replace HB := bS HB hb
        clear hb ho22
        refine hK.out _ _ trivial (fun hHeld => ?_)
        clear hK K
        refine nU 35 ?_
        refine two_ (i := 4) (j := 6) (Ni := some 39) (Nj := some 41) (bm 13 1855) (bm 13 1903) rfl rfl rfl rfl (two_of HT_.out (by kernel_rfl)) (by decide) (by decide) (fun K hK => ?_) (fun K hK => ?_)
        ·skip
         refine Kd.R_append_rows_step (Kd.int .i64) (w0 := w) w.heap.size (by rfl) (.tmp 35) (.tmp 38) 31 3 (.int .i64 0) 8 rfl Try.underlying31 info3 rfl (by decide) (by omega) v179 y178 (l0.take (x5_1 : Int).toNat) _ _ _ (fun _ => True) (fun _ => False) rfl rfl ?aO ?aR (fun _ _ h => h) (fun _ h => h.elim) ?aF ?aB ?aS ?aL ?_
         (case aR => first | (have q_ := HR181.out; rw [show (l0.take (x5_1 : Int).toNat).length = x5_1.toNat from (by rw [List.length_take]; have h_ : (x5_1 : Int) ≤ (l0.length : Int) := zD; omega)] at q_; repeat (first | exact (Kd.C_below q_ HB.out) | (with_reducible refine Kd.C_alloc ?_ _) | (with_reducible refine Kd.C_drewN ?_ _) | (with_reducible refine Kd.C_drew ?_)); done) | (rw [← show (l0.take (x5_1 : Int).toNat).length = x5_1.toNat from (by rw [List.length_take]; have h_ : (x5_1 : Int) ≤ (l0.length : Int) := zD; omega)]; repeat (first | exact (Kd.C_below HR181.out HB.out) | (with_reducible refine Kd.C_alloc ?_ _) | (with_reducible refine Kd.C_drewN ?_ _) | (with_reducible refine Kd.C_drew ?_)); done) | (repeat (first | exact (Kd.C_below HR181.out HB.out) | (with_reducible refine Kd.C_alloc ?_ _) | (with_reducible refine Kd.C_drewN ?_ _) | (with_reducible refine Kd.C_drew ?_))))
         (case aB => exact (zB HB))
         (case aF => exact (fun _ _ => trivial))
         (case aO => exact (zR HO180))
         (case aS => exact (below_size (zB HB)))
         (case aL => have := LMc13.out; have hlx_ := (show (l0.take (x5_1 : Int).toNat).length = x5_1.toNat from (by rw [List.length_take]; have h_ : (x5_1 : Int) ≤ (l0.length : Int) := zD; omega)); omega)
         intro v183 w23 ho hb hg hat
         rw [← Ny182.out] at ho
         replace HB := Aside0.mk (hb)
         have HO184 := Aside0.mk (ho)
         clear HO180
         clear ho hb hg hat
         refine hK.out _ _ trivial (fun hHeld => ?_)
         clear hK K
         refine nU 39 ?_
         refine one_ (i := 6) (N := some 41) (bm 13 1919) rfl rfl (one_of HT_.out (by kernel_rfl)) (by decide) (fun K hK => ?_)
         refine Kd.R_lit_step (Kd.int .i64) _ 3 ?hg (N := 41) ?hd (xs := ([a1] : List Int)) (inner := [.int .i64 a1]) (ok := fun _ => True) (okp := fun _ => True) ?hr ?hp (fun _ hk => hk) trivial (Below.refl _ _) (Nat.le_refl _) (by simp) ?_; (case hd => rfl); (case hg => rfl); (case hr => first | (go_simp; done) | (go_simp; rfl)); (case hp => exact (Reps.one (show Kd.M (Kd.int .i64) _ _ _ a1 [.int .i64 a1] from rfl) (Reps.none _ _)))
         intro v186 w24 ho25 hb hg_ hnew_
         clear hg_ hnew_
         (first | rw [← Ny185.out] at ho25 | (simp only [Int.reduceToNat] at ho25; rw [← Ny185.out] at ho25))
         have HO187 := Aside0.mk (Kd.R_lower (Kd.R_new' ho25 (Kd.R_lt (zR HO184))) (below_size (zB HB)))
         replace HO184 := Aside0.mk (Kd.R_elder' (zR HO184) (Kd.R_base ho25) hb)
         replace HB := bS HB hb
         clear hb ho25
         refine hK.out _ _ trivial (fun hHeld => ?_)
         clear hK K
         refine nU 41 ?_
         exact norm_ (by simp only [putAll, Act.put, List.setIfInBounds_toArray, List.set_cons_zero, List.set_cons_succ]) (hCont (v179, v183, v186) _ ⟨(by (with_reducible repeat (first | apply Kd.R_alloc | apply Kd.R_drewN | apply Kd.R_drew)); exact Kd.R_mono HO184.out (fun _ hk => hk.2)), (by (with_reducible repeat (first | apply Kd.R_alloc | apply Kd.R_drewN | apply Kd.R_drew)); exact Kd.R_mono HO187.out (fun _ hk => hk.2)), (zB HB)⟩)
        ·skip
         refine Kd.R_lit_step (Kd.int .i64) _ 3 ?hg (N := 41) ?hd (xs := ([a1] : List Int)) (inner := [.int .i64 a1]) (ok := fun _ => True) (okp := fun _ => True) ?hr ?hp (fun _ hk => hk) trivial (Below.refl _ _) (Nat.le_refl _) (by simp) ?_; (case hd => rfl); (case hg => rfl); (case hr => first | (go_simp; done) | (go_simp; rfl)); (case hp => exact (Reps.one (show Kd.M (Kd.int .i64) _ _ _ a1 [.int .i64 a1] from rfl) (Reps.none _ _)))
         intro v186 w23 ho24 hb hg_ hnew_
         clear hg_ hnew_
         (first | rw [← Ny185.out] at ho24 | (simp only [Int.reduceToNat] at ho24; rw [← Ny185.out] at ho24))
         have HO187 := Aside0.mk (Kd.R_lower (Kd.R_new' ho24 (Kd.R_lt (zR HO180))) (below_size (zB HB)))
         replace HO180 := Aside0.mk (Kd.R_elder' (zR HO180) (Kd.R_base ho24) hb)
         replace HB := bS HB hb
         clear hb ho24
         refine hK.out _ _ trivial (fun hHeld => ?_)
         clear hK K
         refine nU 41 ?_
         refine one_ (i := 4) (N := some 39) (bm 13 1919) rfl rfl (one_of HT_.out (by kernel_rfl)) (by decide) (fun K hK => ?_)
         refine Kd.R_append_rows_step (Kd.int .i64) (w0 := w) w.heap.size (by rfl) (.tmp 35) (.tmp 38) 31 3 (.int .i64 0) 8 rfl Try.underlying31 info3 rfl (by decide) (by omega) v179 y178 (l0.take (x5_1 : Int).toNat) _ _ _ (fun k_ => some k_ ≠ (v186 : Value).ownBlock) (fun _ => False) rfl rfl ?aO ?aR (fun _ _ h => h) (fun _ h => h.elim) ?aF ?aB ?aS ?aL ?_
         (case aR => first | (have q_ := HR181.out; rw [show (l0.take (x5_1 : Int).toNat).length = x5_1.toNat from (by rw [List.length_take]; have h_ : (x5_1 : Int) ≤ (l0.length : Int) := zD; omega)] at q_; repeat (first | exact (Kd.C_below q_ HB.out) | (with_reducible refine Kd.C_alloc ?_ _) | (with_reducible refine Kd.C_drewN ?_ _) | (with_reducible refine Kd.C_drew ?_)); done) | (rw [← show (l0.take (x5_1 : Int).toNat).length = x5_1.toNat from (by rw [List.length_take]; have h_ : (x5_1 : Int) ≤ (l0.length : Int) := zD; omega)]; repeat (first | exact (Kd.C_below HR181.out HB.out) | (with_reducible refine Kd.C_alloc ?_ _) | (with_reducible refine Kd.C_drewN ?_ _) | (with_reducible refine Kd.C_drew ?_)); done) | (repeat (first | exact (Kd.C_below HR181.out HB.out) | (with_reducible refine Kd.C_alloc ?_ _) | (with_reducible refine Kd.C_drewN ?_ _) | (with_reducible refine Kd.C_drew ?_))))
         (case aB => exact (zB HB))
         (case aF => exact (fun k_ hk => Kd.fresh' (Kd.R_lt (zR HO187)) k_ hk))
         (case aO => exact (by (with_reducible repeat (first | apply Kd.R_alloc | apply Kd.R_drewN | apply Kd.R_drew)); exact Kd.R_mono HO180.out (fun _ hk => hk.2)))
         (case aS => exact (below_size (zB HB)))
         (case aL => have := LMc13.out; have hlx_ := (show (l0.take (x5_1 : Int).toNat).length = x5_1.toNat from (by rw [List.length_take]; have h_ : (x5_1 : Int) ≤ (l0.length : Int) := zD; omega)); omega)
         intro v183 w25 ho hb hg hat
         rw [← Ny182.out] at ho
         replace HO187 := Aside0.mk (Kd.R_after (ok := (fun _ => True)) (zR HO187) hg hat)
         replace HB := Aside0.mk (hb)
         have HO184 := Aside0.mk (ho)
         clear HO180
         clear ho hb hg hat
         refine hK.out _ _ trivial (fun hHeld => ?_)
         clear hK K
         refine nU 39 ?_
         exact norm_ (by simp only [putAll, Act.put, List.setIfInBounds_toArray, List.set_cons_zero, List.set_cons_succ]) (hCont (v179, v183, v186) _ ⟨(zR HO184), (by (with_reducible repeat (first | apply Kd.R_alloc | apply Kd.R_drewN | apply Kd.R_drew)); exact Kd.R_mono HO187.out (fun _ hk => hk.2)), (zB HB)⟩)
       ·skip
        refine Kd.R_lit_step (Kd.int .i64) _ 3 ?hg (N := 41) ?hd (xs := ([a1] : List Int)) (inner := [.int .i64 a1]) (ok := fun _ => True) (okp := fun _ => True) ?hr ?hp (fun _ hk => hk) trivial (Below.refl _ _) (Nat.le_refl _) (by simp) ?_; (case hd => rfl); (case hg => rfl); (case hr => first | (go_simp; done) | (go_simp; rfl)); (case hp => exact (Reps.one (show Kd.M (Kd.int .i64) _ _ _ a1 [.int .i64 a1] from rfl) (Reps.none _ _)))
        intro v186 w21 ho22 hb hg_ hnew_
        clear hg_ hnew_
        (first | rw [← Ny185.out] at ho22 | (simp only [Int.reduceToNat] at ho22; rw [← Ny185.out] at ho22))
        have HO187 := Aside0.mk (Kd.R_lower ho22 (below_size (zB HB)))
        replace HB := bS HB hb
        clear hb ho22
        refine hK.out _ _ trivial (fun hHeld => ?_)
        clear hK K
        refine nU 41 ?_
        refine one_ (i := 0) (N := some 35) (bm 13 1903) rfl rfl (one_of HT_.out (by kernel_rfl)) (by decide) (fun K hK => ?_)
        refine Kd.R_lit_step (Kd.int .i64) _ 3 ?hg (N := 35) ?hd (xs := ([] : List Int)) (inner := []) (ok := fun _ => True) (okp := fun _ => True) ?hr ?hp (fun _ hk => hk) trivial (Below.refl _ _) (Nat.le_refl _) (by simp) ?_; (case hd => rfl); (case hg => rfl); (case hr => first | (go_simp; done) | (go_simp; rfl)); (case hp => exact (Reps.none _ _))
        intro v179 w23 ho24 hb hg_ hnew_
        clear hg_ hnew_
        (first | rw [← Ny178.out] at ho24 | (simp only [Int.reduceToNat] at ho24; rw [← Ny178.out] at ho24))
        have HO180 := Aside0.mk (Kd.R_lower (Kd.R_new' ho24 (Kd.R_lt (zR HO187))) (below_size (zB HB)))
        replace HO187 := Aside0.mk (Kd.R_elder' (zR HO187) (Kd.R_base ho24) hb)
        replace HB := bS HB hb
        clear hb ho24
        refine hK.out _ _ trivial (fun hHeld => ?_)
        clear hK K
        refine nU 35 ?_
        refine one_ (i := 4) (N := some 39) (bm 13 1919) rfl rfl (one_of HT_.out (by kernel_rfl)) (by decide) (fun K hK => ?_)
        refine Kd.R_append_rows_step (Kd.int .i64) (w0 := w) w.heap.size (by rfl) (.tmp 35) (.tmp 38) 31 3 (.int .i64 0) 8 rfl Try.underlying31 info3 rfl (by decide) (by omega) v179 y178 (l0.take (x5_1 : Int).toNat) _ _ _ (fun k_ => some k_ ≠ (v186 : Value).ownBlock) (fun _ => False) rfl rfl ?aO ?aR (fun _ _ h => h) (fun _ h => h.elim) ?aF ?aB ?aS ?aL ?_
        (case aR => first | (have q_ := HR181.out; rw [show (l0.take (x5_1 : Int).toNat).length = x5_1.toNat from (by rw [List.length_take]; have h_ : (x5_1 : Int) ≤ (l0.length : Int) := zD; omega)] at q_; repeat (first | exact (Kd.C_below q_ HB.out) | (with_reducible refine Kd.C_alloc ?_ _) | (with_reducible refine Kd.C_drewN ?_ _) | (with_reducible refine Kd.C_drew ?_)); done) | (rw [← show (l0.take (x5_1 : Int).toNat).length = x5_1.toNat from (by rw [List.length_take]; have h_ : (x5_1 : Int) ≤ (l0.length : Int) := zD; omega)]; repeat (first | exact (Kd.C_below HR181.out HB.out) | (with_reducible refine Kd.C_alloc ?_ _) | (with_reducible refine Kd.C_drewN ?_ _) | (with_reducible refine Kd.C_drew ?_)); done) | (repeat (first | exact (Kd.C_below HR181.out HB.out) | (with_reducible refine Kd.C_alloc ?_ _) | (with_reducible refine Kd.C_drewN ?_ _) | (with_reducible refine Kd.C_drew ?_))))
        (case aB => exact (zB HB))
        (case aF => exact (fun k_ hk => Kd.fresh' (Kd.R_lt (zR HO187)) k_ hk))
        (case aO => exact (by (with_reducible repeat (first | apply Kd.R_alloc | apply Kd.R_drewN | apply Kd.R_drew)); exact Kd.R_mono HO180.out (fun _ hk => hk.2)))
        (case aS => exact (below_size (zB HB)))
        (case aL => have := LMc13.out; have hlx_ := (show (l0.take (x5_1 : Int).toNat).length = x5_1.toNat from (by rw [List.length_take]; have h_ : (x5_1 : Int) ≤ (l0.length : Int) := zD; omega)); omega)
        intro v183 w25 ho hb hg hat
        rw [← Ny182.out] at ho
        replace HO187 := Aside0.mk (Kd.R_after (ok := (fun _ => True)) (zR HO187) hg hat)
        replace HB := Aside0.mk (hb)
        have HO184 := Aside0.mk (ho)
        clear HO180
        clear ho hb hg hat
        refine hK.out _ _ trivial (fun hHeld => ?_)
        clear hK K
        refine nU 39 ?_
        exact norm_ (by simp only [putAll, Act.put, List.setIfInBounds_toArray, List.set_cons_zero, List.set_cons_succ]) (hCont (v179, v183, v186) _ ⟨(zR HO184), (by (with_reducible repeat (first | apply Kd.R_alloc | apply Kd.R_drewN | apply Kd.R_drew)); exact Kd.R_mono HO187.out (fun _ hk => hk.2)), (zB HB)⟩)
      rintro ⟨v179, v183, v186⟩ w26 ⟨h0_, h1_, h2_⟩
      have HO184 : Aside0 (Kd.R (Kd.int .i64) 3 w26 w.heap.size (fun k_ => some k_ ≠ (v186 : Value).ownBlock) v183 y182) := ⟨h0_⟩
      have HO187 : Aside0 (Kd.R (Kd.int .i64) 3 w26 w.heap.size (fun k_ => some k_ ≠ (v183 : Value).ownBlock) v186 y185) := ⟨h1_⟩
      replace HB : Aside0 (Below w.heap.size w w26) := ⟨h2_⟩
      clear h0_ h1_ h2_
      have hHeld := trivial
      obtain ⟨Ao28, co28, eo28⟩ := Kd.R_slice HO187.out
      (first | subst eo28 | (obtain ⟨f4_, f5_⟩ := slI eo28; subst f4_; subst f5_))
      refine norm_ (a' := ?_) ?_ ?_
      rotate_left
      ·simp only [putAll, Act.put, List.setIfInBounds_toArray, List.set_cons_zero, List.set_cons_succ]
       rfl
      refine one_ (i := 7) (N := some 42) (bm 13 2047) rfl rfl (one_of HT_.out (by kernel_rfl)) (by decide) (fun K hK => ?_)
      refine Kd.R_append_rows_step (Kd.int .i64) (w0 := w) w.heap.size (by rfl) (.tmp 39) (.tmp 41) 31 3 (.int .i64 0) 8 rfl Try.underlying31 info3 rfl (by decide) (by omega) v183 y182 y185 _ _ _ (fun k_ => some k_ ≠ (.slice Ao28 y185.length co28 : Value).ownBlock) (fun _ => False) rfl rfl ?aO ?aR (fun _ _ h => h) (fun _ h => h.elim) ?aF ?aB ?aS ?aL ?_
      (case aR => repeat (first | exact (Kd.R_reads' HO187.out).2.2 | (with_reducible refine Kd.C_alloc ?_ _) | (with_reducible refine Kd.C_drewN ?_ _) | (with_reducible refine Kd.C_drew ?_)))
      (case aB => exact (zB HB))
      (case aF => exact (fun k_ hk => Kd.fresh' (Kd.R_lt (zR HO187)) k_ hk))
      (case aO => exact (zR HO184))
      (case aS => exact (below_size (zB HB)))
      (case aL => have := LMc14.out; omega)
      intro v189 w27 ho hb hg hat
      rw [← Ny188.out] at ho
      replace HO187 := Aside0.mk (Kd.R_after (ok := (fun _ => True)) (by (with_reducible repeat (first | apply Kd.R_alloc | apply Kd.R_drewN | apply Kd.R_drew)); exact Kd.R_mono HO187.out (fun _ hk => ⟨trivial, hk⟩)) hg hat)
      replace HB := Aside0.mk (hb)
      have HO190 := Aside0.mk (ho)
      clear HO184
      clear ho hb hg hat
      refine hK.out _ _ trivial (fun hHeld => ?_)
      clear hK K
      refine nU 42 ?_
      refine one_ (i := 11) (N := some 46) (bm 13 4095) rfl rfl (one_of HT_.out (by kernel_rfl)) (by decide) (fun K hK => ?_)
      refine Kd.R_append_rows_step (Kd.int .i64) (w0 := w) w.heap.size (by rfl) (.tmp 42) (.tmp 45) 31 3 (.int .i64 0) 8 rfl Try.underlying31 info3 rfl (by decide) (by omega) v189 y188 (l0.drop (x5_1 : Int).toNat) _ _ _ (fun k_ => some k_ ≠ (.slice Ao28 y185.length co28 : Value).ownBlock) (fun _ => False) rfl rfl ?aO ?aR (fun _ _ h => h) (fun _ h => h.elim) ?aF ?aB ?aS ?aL ?_
      (case aR => first | (have q_ := HR191.out; rw [show (l0.drop (x5_1 : Int).toNat).length = (l0.length - x5_1.toNat) from List.length_drop] at q_; repeat (first | exact (Kd.C_below q_ HB.out) | (with_reducible refine Kd.C_alloc ?_ _) | (with_reducible refine Kd.C_drewN ?_ _) | (with_reducible refine Kd.C_drew ?_)); done) | (rw [← show (l0.drop (x5_1 : Int).toNat).length = (l0.length - x5_1.toNat) from List.length_drop]; repeat (first | exact (Kd.C_below HR191.out HB.out) | (with_reducible refine Kd.C_alloc ?_ _) | (with_reducible refine Kd.C_drewN ?_ _) | (with_reducible refine Kd.C_drew ?_)); done) | (repeat (first | exact (Kd.C_below HR191.out HB.out) | (with_reducible refine Kd.C_alloc ?_ _) | (with_reducible refine Kd.C_drewN ?_ _) | (with_reducible refine Kd.C_drew ?_))))
      (case aB => exact (zB HB))
      (case aF => exact (fun k_ hk => Kd.fresh' (Kd.R_lt (zR HO187)) k_ hk))
      (case aO => exact (zR HO190))
      (case aS => exact (below_size (zB HB)))
      (case aL => have := LMc17.out; have hlx_ := (show (l0.drop (x5_1 : Int).toNat).length = (l0.length - x5_1.toNat) from List.length_drop); omega)
      intro v193 w29 ho hb hg hat
      rw [← Ny192.out] at ho
      replace HO187 := Aside0.mk (Kd.R_after (ok := (fun _ => True)) (zR HO187) hg hat)
      replace HB := Aside0.mk (hb)
      have HO194 := Aside0.mk (ho)
      clear HO190
      clear ho hb hg hat
      refine hK.out _ _ trivial (fun hHeld => ?_)
      clear hK K
      refine nU 46 ?_
      refine pU 12 (some 4) (bm 13 8191) HT_ rfl rfl ?_
      refine done_ (done_of HT_.out (by kernel_rfl)) ?_
      try clear hHeld
      try go_wp2
      go_ret
      exact ⟨_, zE, by (with_reducible repeat (first | apply Kd.R_alloc | apply Kd.R_drewN | apply Kd.R_drew)); exact Kd.R_mono HO194.out (fun _ hk => trivial), zB HB⟩
   ·rw [if_neg c3] at H
    have c3b0 : decide (x5_1 < (l0.length : Int)) = false := decide_eq_false c3
    clear c3
    obtain ⟨y195, hy195⟩ : ∃ y_ : List Int, y_ = (([] : List Int)) := ⟨_, rfl⟩
    replace H : (if 0 ≤ x5_1 then (if x5_1 ≤ (l0.length : Int) then (if y195.length + (l0.take (x5_1 : Int).toNat).length < 17592186044416 then ((some (y195 ++ (l0.take (x5_1 : Int).toNat) : List Int)).bind fun y199 => ((some (([a1] : List Int) : List Int)).bind fun y202 => (if y199.length + y202.length < 17592186044416 then ((some (y199 ++ y202 : List Int)).bind fun y205 => (if y205.length + (l0.drop (x5_1 : Int).toNat).length < 17592186044416 then (some (y205 ++ (l0.drop (x5_1 : Int).toNat))) else (none))) else (none)))) else (none)) else (none)) else (none)) = some r := by first | (rw [hy195]; with_reducible exact H) | (rw [hy195]; exact H) | exact H
    have Ny195 := Aside0.mk hy195
    clear hy195
    by_cases c30 : 0 ≤ x5_1
    ·rw [if_pos c30] at H
     have c30b0 := eq_true c30
     have c30b1 : decide (0 ≤ x5_1) = true := decide_eq_true c30
     clear c30
     obtain ⟨c31, H⟩ := ifS H
     have c31b0 := eq_true c31
     have c31b1 : decide (x5_1 ≤ (l0.length : Int)) = true := decide_eq_true c31
     clear c31
     obtain ⟨c32, H⟩ := ifS H
     have LMc32 := Aside0.mk c32
     clear c32
     obtain ⟨y199, hy199⟩ : ∃ y_ : List Int, y_ = (y195 ++ (l0.take (x5_1 : Int).toNat)) := ⟨_, rfl⟩
     replace H : ((some (([a1] : List Int) : List Int)).bind fun y202 => (if y199.length + y202.length < 17592186044416 then ((some (y199 ++ y202 : List Int)).bind fun y205 => (if y205.length + (l0.drop (x5_1 : Int).toNat).length < 17592186044416 then (some (y205 ++ (l0.drop (x5_1 : Int).toNat))) else (none))) else (none))) = some r := by first | (rw [hy199]; with_reducible exact H) | (rw [hy199]; exact H) | exact H
     have Ny199 := Aside0.mk hy199
     clear hy199
     obtain ⟨y202, hy202⟩ : ∃ y_ : List Int, y_ = (([a1] : List Int)) := ⟨_, rfl⟩
     replace H : (if y199.length + y202.length < 17592186044416 then ((some (y199 ++ y202 : List Int)).bind fun y205 => (if y205.length + (l0.drop (x5_1 : Int).toNat).length < 17592186044416 then (some (y205 ++ (l0.drop (x5_1 : Int).toNat))) else (none))) else (none)) = some r := by first | (rw [hy202]; with_reducible exact H) | (rw [hy202]; exact H) | exact H
     have Ny202 := Aside0.mk hy202
     clear hy202
     obtain ⟨c33, H⟩ := ifS H
     have LMc33 := Aside0.mk c33
     clear c33
     obtain ⟨y205, hy205⟩ : ∃ y_ : List Int, y_ = (y199 ++ y202) := ⟨_, rfl⟩
     replace H : (if y205.length + (l0.drop (x5_1 : Int).toNat).length < 17592186044416 then (some (y205 ++ (l0.drop (x5_1 : Int).toNat))) else (none)) = some r := by first | (rw [hy205]; with_reducible exact H) | (rw [hy205]; exact H) | exact H
     have Ny205 := Aside0.mk hy205
     clear hy205
     have c34b0 := eq_true (zD : 0 ≤ x5_1)
     have c35b0 := eq_true (zD : x5_1 ≤ (l0.length : Int))
     obtain ⟨c36, H⟩ := ifS H
     have LMc36 := Aside0.mk c36
     clear c36
     obtain ⟨y209, hy209⟩ : ∃ y_ : List Int, y_ = (y205 ++ (l0.drop (x5_1 : Int).toNat)) := ⟨_, rfl⟩
     replace H : (some y209) = some r := by first | (rw [hy209]; with_reducible exact H) | (rw [hy209]; exact H) | exact H
     have Ny209 := Aside0.mk hy209
     clear hy209
     obtain rfl := Option.some.inj H
     try go_wp2
     replace HB := Aside0.mk (below_drew1 HB.out)
     obtain ⟨i038, hi038, _, hsz38, _⟩ := info_parts info3
     obtain ⟨hcut38, hA38, hC38⟩ := print_take_of (P := Try.prog) (Value.int .i64) 0 31 3 .i64 Try.underlying31 hi038 hsz38 A0 c0 l0 x5_1 (zD) (zD) HC0.out
     have HR198 := Aside0.mk (Kd.C_of_reads (h1 := fun _ => rfl) (hA38 _ (Kd.reads_of_C HR0.out)))
     have HC198 := Aside0.mk hC38
     clear hA38 hC38 hi038 hsz38
     obtain ⟨i039, hi039, _, hsz39, _⟩ := info_parts info3
     obtain ⟨A39, hcut39, hA39, hC39⟩ := print_drop_of (P := Try.prog) (Value.int .i64) 0 31 3 .i64 Try.underlying31 hi039 hsz39 A0 c0 l0 x5_1 (zD) (zD) HC0.out
     have HR208 := Aside0.mk (Kd.C_of_reads (h1 := fun _ => rfl) (hA39 _ (Kd.reads_of_C HR0.out)))
     have HC208 := Aside0.mk hC39
     clear hA39 hC39 hi039 hsz39
     refine start_ (n := 13) (S := fun w' => True) (ds := []) (bm 13 0) (by kernel_rfl) rfl (bm0 _) trivial (fun hHeld => ?_); refine with_tabW spec_l4Put.tab6 spec_l4Put.bits6 (fun HT_ HW_ => ?_)
     generalize wr.drew = w37 at HB HR198 HR208 hHeld ⊢
     refine pU 1 (some 36) (bm 13 2) HT_ rfl rfl ?_
     refine pU 2 (some 37) (bm 13 6) HT_ rfl rfl ?_
     refine pU 3 (some 38) (bm 13 14) HT_ rfl rfl ?_
     refine pU 5 (some 40) (bm 13 46) HT_ rfl rfl ?_
     refine pU 8 (some 43) (bm 13 302) HT_ rfl rfl ?_
     refine pU 9 (some 44) (bm 13 814) HT_ rfl rfl ?_
     refine pU 10 (some 45) (bm 13 1838) HT_ rfl rfl ?_
     refine join_ (σ := Value × Value × Value) 3 (bm 13 1919) (fun s_ => [(35, s_.1), (39, s_.2.1), (41, s_.2.2)]) (fun s_ w' => (Kd.R (Kd.int .i64) 3 w' w.heap.size (fun k_ => some k_ ≠ (s_.2.2 : Value).ownBlock) s_.2.1 y199) ∧ (Kd.R (Kd.int .i64) 3 w' w.heap.size (fun k_ => some k_ ≠ (s_.2.1 : Value).ownBlock) s_.2.2 y202) ∧ (Below w.heap.size w w')) ?_ ?_
     rotate_left
     ·intro hCont
      refine two_ (i := 0) (j := 6) (Ni := some 35) (Nj := some 41) (bm 13 1839) (bm 13 1902) rfl rfl rfl rfl (two_of HT_.out (by kernel_rfl)) (by decide) (by decide) (fun K hK => ?_) (fun K hK => ?_)
      ·skip
       refine Kd.R_lit_step (Kd.int .i64) _ 3 ?hg (N := 35) ?hd (xs := ([] : List Int)) (inner := []) (ok := fun _ => True) (okp := fun _ => True) ?hr ?hp (fun _ hk => hk) trivial (Below.refl _ _) (Nat.le_refl _) (by simp) ?_; (case hd => rfl); (case hg => rfl); (case hr => first | (go_simp; done) | (go_simp; rfl)); (case hp => exact (Reps.none _ _))
       intro v196 w40 ho41 hb hg_ hnew_
       clear hg_ hnew_
       (first | rw [← Ny195.out] at ho41 | (simp only [Int.reduceToNat] at ho41; rw [← Ny195.out] at ho41))
       have HO197 := Aside0.mk (Kd.R_lower ho41 (below_size (zB HB)))
       replace HB := bS HB hb
       clear hb ho41
       refine hK.out _ _ trivial (fun hHeld => ?_)
       clear hK K
       refine nU 35 ?_
       refine two_ (i := 4) (j := 6) (Ni := some 39) (Nj := some 41) (bm 13 1855) (bm 13 1903) rfl rfl rfl rfl (two_of HT_.out (by kernel_rfl)) (by decide) (by decide) (fun K hK => ?_) (fun K hK => ?_)
       ·skip
        refine Kd.R_append_rows_step (Kd.int .i64) (w0 := w) w.heap.size (by rfl) (.tmp 35) (.tmp 38) 31 3 (.int .i64 0) 8 rfl Try.underlying31 info3 rfl (by decide) (by omega) v196 y195 (l0.take (x5_1 : Int).toNat) _ _ _ (fun _ => True) (fun _ => False) rfl rfl ?aO ?aR (fun _ _ h => h) (fun _ h => h.elim) ?aF ?aB ?aS ?aL ?_
        (case aR => first | (have q_ := HR198.out; rw [show (l0.take (x5_1 : Int).toNat).length = x5_1.toNat from (by rw [List.length_take]; have h_ : (x5_1 : Int) ≤ (l0.length : Int) := zD; omega)] at q_; repeat (first | exact (Kd.C_below q_ HB.out) | (with_reducible refine Kd.C_alloc ?_ _) | (with_reducible refine Kd.C_drewN ?_ _) | (with_reducible refine Kd.C_drew ?_)); done) | (rw [← show (l0.take (x5_1 : Int).toNat).length = x5_1.toNat from (by rw [List.length_take]; have h_ : (x5_1 : Int) ≤ (l0.length : Int) := zD; omega)]; repeat (first | exact (Kd.C_below HR198.out HB.out) | (with_reducible refine Kd.C_alloc ?_ _) | (with_reducible refine Kd.C_drewN ?_ _) | (with_reducible refine Kd.C_drew ?_)); done) | (repeat (first | exact (Kd.C_below HR198.out HB.out) | (with_reducible refine Kd.C_alloc ?_ _) | (with_reducible refine Kd.C_drewN ?_ _) | (with_reducible refine Kd.C_drew ?_))))
        (case aB => exact (zB HB))
        (case aF => exact (fun _ _ => trivial))
        (case aO => exact (zR HO197))
        (case aS => exact (below_size (zB HB)))
        (case aL => have := LMc32.out; have hlx_ := (show (l0.take (x5_1 : Int).toNat).length = x5_1.toNat from (by rw [List.length_take]; have h_ : (x5_1 : Int) ≤ (l0.length : Int) := zD; omega)); omega)
        intro v200 w42 ho hb hg hat
        rw [← Ny199.out] at ho
        replace HB := Aside0.mk (hb)
        have HO201 := Aside0.mk (ho)
        clear HO197
        clear ho hb hg hat
        refine hK.out _ _ trivial (fun hHeld => ?_)
        clear hK K
        refine nU 39 ?_
        refine one_ (i := 6) (N := some 41) (bm 13 1919) rfl rfl (one_of HT_.out (by kernel_rfl)) (by decide) (fun K hK => ?_)
        refine Kd.R_lit_step (Kd.int .i64) _ 3 ?hg (N := 41) ?hd (xs := ([a1] : List Int)) (inner := [.int .i64 a1]) (ok := fun _ => True) (okp := fun _ => True) ?hr ?hp (fun _ hk => hk) trivial (Below.refl _ _) (Nat.le_refl _) (by simp) ?_; (case hd => rfl); (case hg => rfl); (case hr => first | (go_simp; done) | (go_simp; rfl)); (case hp => exact (Reps.one (show Kd.M (Kd.int .i64) _ _ _ a1 [.int .i64 a1] from rfl) (Reps.none _ _)))
        intro v203 w43 ho44 hb hg_ hnew_
        clear hg_ hnew_
        (first | rw [← Ny202.out] at ho44 | (simp only [Int.reduceToNat] at ho44; rw [← Ny202.out] at ho44))
        have HO204 := Aside0.mk (Kd.R_lower (Kd.R_new' ho44 (Kd.R_lt (zR HO201))) (below_size (zB HB)))
        replace HO201 := Aside0.mk (Kd.R_elder' (zR HO201) (Kd.R_base ho44) hb)
        replace HB := bS HB hb
        clear hb ho44
        refine hK.out _ _ trivial (fun hHeld => ?_)
        clear hK K
        refine nU 41 ?_
        exact norm_ (by simp only [putAll, Act.put, List.setIfInBounds_toArray, List.set_cons_zero, List.set_cons_succ]) (hCont (v196, v200, v203) _ ⟨(by (with_reducible repeat (first | apply Kd.R_alloc | apply Kd.R_drewN | apply Kd.R_drew)); exact Kd.R_mono HO201.out (fun _ hk => hk.2)), (by (with_reducible repeat (first | apply Kd.R_alloc | apply Kd.R_drewN | apply Kd.R_drew)); exact Kd.R_mono HO204.out (fun _ hk => hk.2)), (zB HB)⟩)
       ·skip
        refine Kd.R_lit_step (Kd.int .i64) _ 3 ?hg (N := 41) ?hd (xs := ([a1] : List Int)) (inner := [.int .i64 a1]) (ok := fun _ => True) (okp := fun _ => True) ?hr ?hp (fun _ hk => hk) trivial (Below.refl _ _) (Nat.le_refl _) (by simp) ?_; (case hd => rfl); (case hg => rfl); (case hr => first | (go_simp; done) | (go_simp; rfl)); (case hp => exact (Reps.one (show Kd.M (Kd.int .i64) _ _ _ a1 [.int .i64 a1] from rfl) (Reps.none _ _)))
        intro v203 w42 ho43 hb hg_ hnew_
        clear hg_ hnew_
        (first | rw [← Ny202.out] at ho43 | (simp only [Int.reduceToNat] at ho43; rw [← Ny202.out] at ho43))
        have HO204 := Aside0.mk (Kd.R_lower (Kd.R_new' ho43 (Kd.R_lt (zR HO197))) (below_size (zB HB)))
        replace HO197 := Aside0.mk (Kd.R_elder' (zR HO197) (Kd.R_base ho43) hb)
        replace HB := bS HB hb
        clear hb ho43
        refine hK.out _ _ trivial (fun hHeld => ?_)
        clear hK K
        refine nU 41 ?_
        refine one_ (i := 4) (N := some 39) (bm 13 1919) rfl rfl (one_of HT_.out (by kernel_rfl)) (by decide) (fun K hK => ?_)
        refine Kd.R_append_rows_step (Kd.int .i64) (w0 := w) w.heap.size (by rfl) (.tmp 35) (.tmp 38) 31 3 (.int .i64 0) 8 rfl Try.underlying31 info3 rfl (by decide) (by omega) v196 y195 (l0.take (x5_1 : Int).toNat) _ _ _ (fun k_ => some k_ ≠ (v203 : Value).ownBlock) (fun _ => False) rfl rfl ?aO ?aR (fun _ _ h => h) (fun _ h => h.elim) ?aF ?aB ?aS ?aL ?_
        (case aR => first | (have q_ := HR198.out; rw [show (l0.take (x5_1 : Int).toNat).length = x5_1.toNat from (by rw [List.length_take]; have h_ : (x5_1 : Int) ≤ (l0.length : Int) := zD; omega)] at q_; repeat (first | exact (Kd.C_below q_ HB.out) | (with_reducible refine Kd.C_alloc ?_ _) | (with_reducible refine Kd.C_drewN ?_ _) | (with_reducible refine Kd.C_drew ?_)); done) | (rw [← show (l0.take (x5_1 : Int).toNat).length = x5_1.toNat from (by rw [List.length_take]; have h_ : (x5_1 : Int) ≤ (l0.length : Int) := zD; omega)]; repeat (first | exact (Kd.C_below HR198.out HB.out) | (with_reducible refine Kd.C_alloc ?_ _) | (with_reducible refine Kd.C_drewN ?_ _) | (with_reducible refine Kd.C_drew ?_)); done) | (repeat (first | exact (Kd.C_below HR198.out HB.out) | (with_reducible refine Kd.C_alloc ?_ _) | (with_reducible refine Kd.C_drewN ?_ _) | (with_reducible refine Kd.C_drew ?_))))
        (case aB => exact (zB HB))
        (case aF => exact (fun k_ hk => Kd.fresh' (Kd.R_lt (zR HO204)) k_ hk))
        (case aO => exact (by (with_reducible repeat (first | apply Kd.R_alloc | apply Kd.R_drewN | apply Kd.R_drew)); exact Kd.R_mono HO197.out (fun _ hk => hk.2)))
        (case aS => exact (below_size (zB HB)))
        (case aL => have := LMc32.out; have hlx_ := (show (l0.take (x5_1 : Int).toNat).length = x5_1.toNat from (by rw [List.length_take]; have h_ : (x5_1 : Int) ≤ (l0.length : Int) := zD; omega)); omega)
        intro v200 w44 ho hb hg hat
        rw [← Ny199.out] at ho
        replace HO204 := Aside0.mk (Kd.R_after (ok := (fun _ => True)) (zR HO204) hg hat)
        replace HB := Aside0.mk (hb)
        have HO201 := Aside0.mk (ho)
        clear HO197
        clear ho hb hg hat
        refine hK.out _ _ trivial (fun hHeld => ?_)
        clear hK K
        refine nU 39 ?_
        exact norm_ (by simp only [putAll, Act.put, List.setIfInBounds_toArray, List.set_cons_zero, List.set_cons_succ]) (hCont (v196, v200, v203) _ ⟨(zR HO201), (by (with_reducible repeat (first | apply Kd.R_alloc | apply Kd.R_drewN | apply Kd.R_drew)); exact Kd.R_mono HO204.out (fun _ hk => hk.2)), (zB HB)⟩)
      ·skip
       refine Kd.R_lit_step (Kd.int .i64) _ 3 ?hg (N := 41) ?hd (xs := ([a1] : List Int)) (inner := [.int .i64 a1]) (ok := fun _ => True) (okp := fun _ => True) ?hr ?hp (fun _ hk => hk) trivial (Below.refl _ _) (Nat.le_refl _) (by simp) ?_; (case hd => rfl); (case hg => rfl); (case hr => first | (go_simp; done) | (go_simp; rfl)); (case hp => exact (Reps.one (show Kd.M (Kd.int .i64) _ _ _ a1 [.int .i64 a1] from rfl) (Reps.none _ _)))
       intro v203 w40 ho41 hb hg_ hnew_
       clear hg_ hnew_
       (first | rw [← Ny202.out] at ho41 | (simp only [Int.reduceToNat] at ho41; rw [← Ny202.out] at ho41))
       have HO204 := Aside0.mk (Kd.R_lower ho41 (below_size (zB HB)))
       replace HB := bS HB hb
       clear hb ho41
       refine hK.out _ _ trivial (fun hHeld => ?_)
       clear hK K
       refine nU 41 ?_
       refine one_ (i := 0) (N := some 35) (bm 13 1903) rfl rfl (one_of HT_.out (by kernel_rfl)) (by decide) (fun K hK => ?_)
       refine Kd.R_lit_step (Kd.int .i64) _ 3 ?hg (N := 35) ?hd (xs := ([] : List Int)) (inner := []) (ok := fun _ => True) (okp := fun _ => True) ?hr ?hp (fun _ hk => hk) trivial (Below.refl _ _) (Nat.le_refl _) (by simp) ?_; (case hd => rfl); (case hg => rfl); (case hr => first | (go_simp; done) | (go_simp; rfl)); (case hp => exact (Reps.none _ _))
       intro v196 w42 ho43 hb hg_ hnew_
       clear hg_ hnew_
       (first | rw [← Ny195.out] at ho43 | (simp only [Int.reduceToNat] at ho43; rw [← Ny195.out] at ho43))
       have HO197 := Aside0.mk (Kd.R_lower (Kd.R_new' ho43 (Kd.R_lt (zR HO204))) (below_size (zB HB)))
       replace HO204 := Aside0.mk (Kd.R_elder' (zR HO204) (Kd.R_base ho43) hb)
       replace HB := bS HB hb
       clear hb ho43
       refine hK.out _ _ trivial (fun hHeld => ?_)
       clear hK K
       refine nU 35 ?_
       refine one_ (i := 4) (N := some 39) (bm 13 1919) rfl rfl (one_of HT_.out (by kernel_rfl)) (by decide) (fun K hK => ?_)
       refine Kd.R_append_rows_step (Kd.int .i64) (w0 := w) w.heap.size (by rfl) (.tmp 35) (.tmp 38) 31 3 (.int .i64 0) 8 rfl Try.underlying31 info3 rfl (by decide) (by omega) v196 y195 (l0.take (x5_1 : Int).toNat) _ _ _ (fun k_ => some k_ ≠ (v203 : Value).ownBlock) (fun _ => False) rfl rfl ?aO ?aR (fun _ _ h => h) (fun _ h => h.elim) ?aF ?aB ?aS ?aL ?_
       (case aR => first | (have q_ := HR198.out; rw [show (l0.take (x5_1 : Int).toNat).length = x5_1.toNat from (by rw [List.length_take]; have h_ : (x5_1 : Int) ≤ (l0.length : Int) := zD; omega)] at q_; repeat (first | exact (Kd.C_below q_ HB.out) | (with_reducible refine Kd.C_alloc ?_ _) | (with_reducible refine Kd.C_drewN ?_ _) | (with_reducible refine Kd.C_drew ?_)); done) | (rw [← show (l0.take (x5_1 : Int).toNat).length = x5_1.toNat from (by rw [List.length_take]; have h_ : (x5_1 : Int) ≤ (l0.length : Int) := zD; omega)]; repeat (first | exact (Kd.C_below HR198.out HB.out) | (with_reducible refine Kd.C_alloc ?_ _) | (with_reducible refine Kd.C_drewN ?_ _) | (with_reducible refine Kd.C_drew ?_)); done) | (repeat (first | exact (Kd.C_below HR198.out HB.out) | (with_reducible refine Kd.C_alloc ?_ _) | (with_reducible refine Kd.C_drewN ?_ _) | (with_reducible refine Kd.C_drew ?_))))
       (case aB => exact (zB HB))
       (case aF => exact (fun k_ hk => Kd.fresh' (Kd.R_lt (zR HO204)) k_ hk))
       (case aO => exact (by (with_reducible repeat (first | apply Kd.R_alloc | apply Kd.R_drewN | apply Kd.R_drew)); exact Kd.R_mono HO197.out (fun _ hk => hk.2)))
       (case aS => exact (below_size (zB HB)))
       (case aL => have := LMc32.out; have hlx_ := (show (l0.take (x5_1 : Int).toNat).length = x5_1.toNat from (by rw [List.length_take]; have h_ : (x5_1 : Int) ≤ (l0.length : Int) := zD; omega)); omega)
       intro v200 w44 ho hb hg hat
       rw [← Ny199.out] at ho
       replace HO204 := Aside0.mk (Kd.R_after (ok := (fun _ => True)) (zR HO204) hg hat)
       replace HB := Aside0.mk (hb)
       have HO201 := Aside0.mk (ho)
       clear HO197
       clear ho hb hg hat
       refine hK.out _ _ trivial (fun hHeld => ?_)
       clear hK K
       refine nU 39 ?_
       exact norm_ (by simp only [putAll, Act.put, List.setIfInBounds_toArray, List.set_cons_zero, List.set_cons_succ]) (hCont (v196, v200, v203) _ ⟨(zR HO201), (by (with_reducible repeat (first | apply Kd.R_alloc | apply Kd.R_drewN | apply Kd.R_drew)); exact Kd.R_mono HO204.out (fun _ hk => hk.2)), (zB HB)⟩)
     rintro ⟨v196, v200, v203⟩ w45 ⟨h0_, h1_, h2_⟩
     have HO201 : Aside0 (Kd.R (Kd.int .i64) 3 w45 w.heap.size (fun k_ => some k_ ≠ (v203 : Value).ownBlock) v200 y199) := ⟨h0_⟩
     have HO204 : Aside0 (Kd.R (Kd.int .i64) 3 w45 w.heap.size (fun k_ => some k_ ≠ (v200 : Value).ownBlock) v203 y202) := ⟨h1_⟩
     replace HB : Aside0 (Below w.heap.size w w45) := ⟨h2_⟩
     clear h0_ h1_ h2_
     have hHeld := trivial
     obtain ⟨Ao47, co47, eo47⟩ := Kd.R_slice HO204.out
     (first | subst eo47 | (obtain ⟨f4_, f5_⟩ := slI eo47; subst f4_; subst f5_))
     refine norm_ (a' := ?_) ?_ ?_
     rotate_left
     ·simp only [putAll, Act.put, List.setIfInBounds_toArray, List.set_cons_zero, List.set_cons_succ]
      rfl
     refine one_ (i := 7) (N := some 42) (bm 13 2047) rfl rfl (one_of HT_.out (by kernel_rfl)) (by decide) (fun K hK => ?_)
     refine Kd.R_append_rows_step (Kd.int .i64) (w0 := w) w.heap.size (by rfl) (.tmp 39) (.tmp 41) 31 3 (.int .i64 0) 8 rfl Try.underlying31 info3 rfl (by decide) (by omega) v200 y199 y202 _ _ _ (fun k_ => some k_ ≠ (.slice Ao47 y202.length co47 : Value).ownBlock) (fun _ => False) rfl rfl ?aO ?aR (fun _ _ h => h) (fun _ h => h.elim) ?aF ?aB ?aS ?aL ?_
     (case aR => repeat (first | exact (Kd.R_reads' HO204.out).2.2 | (with_reducible refine Kd.C_alloc ?_ _) | (with_reducible refine Kd.C_drewN ?_ _) | (with_reducible refine Kd.C_drew ?_)))
     (case aB => exact (zB HB))
     (case aF => exact (fun k_ hk => Kd.fresh' (Kd.R_lt (zR HO204)) k_ hk))
     (case aO => exact (zR HO201))
     (case aS => exact (below_size (zB HB)))
     (case aL => have := LMc33.out; omega)
     intro v206 w46 ho hb hg hat
     rw [← Ny205.out] at ho
     replace HO204 := Aside0.mk (Kd.R_after (ok := (fun _ => True)) (by (with_reducible repeat (first | apply Kd.R_alloc | apply Kd.R_drewN | apply Kd.R_drew)); exact Kd.R_mono HO204.out (fun _ hk => ⟨trivial, hk⟩)) hg hat)
     replace HB := Aside0.mk (hb)
     have HO207 := Aside0.mk (ho)
     clear HO201
     clear ho hb hg hat
     refine hK.out _ _ trivial (fun hHeld => ?_)
     clear hK K
     refine nU 42 ?_
     refine one_ (i := 11) (N := some 46) (bm 13 4095) rfl rfl (one_of HT_.out (by kernel_rfl)) (by decide) (fun K hK => ?_)
     refine Kd.R_append_rows_step (Kd.int .i64) (w0 := w) w.heap.size (by rfl) (.tmp 42) (.tmp 45) 31 3 (.int .i64 0) 8 rfl Try.underlying31 info3 rfl (by decide) (by omega) v206 y205 (l0.drop (x5_1 : Int).toNat) _ _ _ (fun k_ => some k_ ≠ (.slice Ao47 y202.length co47 : Value).ownBlock) (fun _ => False) rfl rfl ?aO ?aR (fun _ _ h => h) (fun _ h => h.elim) ?aF ?aB ?aS ?aL ?_
     (case aR => first | (have q_ := HR208.out; rw [show (l0.drop (x5_1 : Int).toNat).length = (l0.length - x5_1.toNat) from List.length_drop] at q_; repeat (first | exact (Kd.C_below q_ HB.out) | (with_reducible refine Kd.C_alloc ?_ _) | (with_reducible refine Kd.C_drewN ?_ _) | (with_reducible refine Kd.C_drew ?_)); done) | (rw [← show (l0.drop (x5_1 : Int).toNat).length = (l0.length - x5_1.toNat) from List.length_drop]; repeat (first | exact (Kd.C_below HR208.out HB.out) | (with_reducible refine Kd.C_alloc ?_ _) | (with_reducible refine Kd.C_drewN ?_ _) | (with_reducible refine Kd.C_drew ?_)); done) | (repeat (first | exact (Kd.C_below HR208.out HB.out) | (with_reducible refine Kd.C_alloc ?_ _) | (with_reducible refine Kd.C_drewN ?_ _) | (with_reducible refine Kd.C_drew ?_))))
     (case aB => exact (zB HB))
     (case aF => exact (fun k_ hk => Kd.fresh' (Kd.R_lt (zR HO204)) k_ hk))
     (case aO => exact (zR HO207))
     (case aS => exact (below_size (zB HB)))
     (case aL => have := LMc36.out; have hlx_ := (show (l0.drop (x5_1 : Int).toNat).length = (l0.length - x5_1.toNat) from List.length_drop); omega)
     intro v210 w48 ho hb hg hat
     rw [← Ny209.out] at ho
     replace HO204 := Aside0.mk (Kd.R_after (ok := (fun _ => True)) (zR HO204) hg hat)
     replace HB := Aside0.mk (hb)
     have HO211 := Aside0.mk (ho)
     clear HO207
     clear ho hb hg hat
     refine hK.out _ _ trivial (fun hHeld => ?_)
     clear hK K
     refine nU 46 ?_
     refine pU 12 (some 4) (bm 13 8191) HT_ rfl rfl ?_
     refine done_ (done_of HT_.out (by kernel_rfl)) ?_
     try clear hHeld
     try go_wp2
     go_ret
     exact ⟨_, zE, by (with_reducible repeat (first | apply Kd.R_alloc | apply Kd.R_drewN | apply Kd.R_drew)); exact Kd.R_mono HO211.out (fun _ hk => trivial), zB HB⟩
    ·rw [if_neg c30] at H
     exact absurd H (by simp)

/-! ### spec_MovesFrom: function 25 -/
def spec_MovesFrom.l0 : Nat → Int → Bool → List Int → Int → Int → List Bool → List (S46) → Option (List Int)
 | 0, _, _, _, _, _, _, _ => none
 | k + 1, x1, x2, x7, x8, x213000, x213001, x213002 => if x8 < (x213002.length : Int) then (if 0 ≤ x8 then (if ((rd_T46 x213002 x8).f0) = x1 then (if (((rd_T46 x213002 x8).f1) == x2) = true then ((spec_l4Put.f k x7 ((rd_T46 x213002 x8).f2)).bind fun t219 => (spec_MovesFrom.l0 k x1 x2 t219 (wrap64 (x8 + 1)) x213000 x213001 x213002)) else (spec_MovesFrom.l0 k x1 x2 x7 (wrap64 (x8 + 1)) x213000 x213001 x213002)) else (spec_MovesFrom.l0 k x1 x2 x7 (wrap64 (x8 + 1)) x213000 x213001 x213002)) else (none)) else (some x7)
def spec_MovesFrom.f (k : Nat) (a0_0 : Int) (l0_1 : List Bool) (l0_2 : List (S46)) (a1 : Int) (a2 : Bool) : Option (List Int) := spec_MovesFrom.l0 k a1 a2 (([] : List Int)) 0 a0_0 l0_1 l0_2
theorem spec_MovesFrom.mono_l : ∀ k, (∀ y0 y1 y2 y3 y4 y5 y6, LeO (spec_MovesFrom.l0 k y0 y1 y2 y3 y4 y5 y6) (spec_MovesFrom.l0 (k + 1) y0 y1 y2 y3 y4 y5 y6))
 | 0 => fun _ _ _ _ _ _ _ r h => by simp [spec_MovesFrom.l0] at h
 | k + 1 => by
  have ih0 := spec_MovesFrom.mono_l k
  ·intro y0 y1 y2 y3 y4 y5 y6
   unfold spec_MovesFrom.l0
   repeat' first
   | (with_reducible exact ih0 _ _ _ _ _ _ _)
   | (with_reducible exact spec_l4Put.mono _ _ _)
   | (with_reducible exact LeO.refl _)
   | (with_reducible exact LeO.none _)
   | (with_reducible refine LeO.ite ?_ ?_)
   | (with_reducible refine LeO.bind ?_ (fun _ => ?_))
   | exact ih0 _ _ _ _ _ _ _
   | exact spec_l4Put.mono _ _ _
   | exact LeO.none _
   | refine LeO.ite ?_ ?_
   | refine LeO.bind ?_ (fun _ => ?_)
theorem spec_MovesFrom.mono : ∀ a0 a1 a2 a3 a4 k, LeO (spec_MovesFrom.f k a0 a1 a2 a3 a4) (spec_MovesFrom.f (k + 1) a0 a1 a2 a3 a4) := by
 intro a0 a1 a2 a3 a4 k
 have ih0 := spec_MovesFrom.mono_l k
 unfold spec_MovesFrom.f
 repeat' first
   | (with_reducible exact ih0 _ _ _ _ _ _ _)
   | (with_reducible exact spec_l4Put.mono _ _ _)
   | (with_reducible exact LeO.refl _)
   | (with_reducible exact LeO.none _)
   | (with_reducible refine LeO.ite ?_ ?_)
   | (with_reducible refine LeO.bind ?_ (fun _ => ?_))
   | exact ih0 _ _ _ _ _ _ _
   | exact spec_l4Put.mono _ _ _
   | exact LeO.none _
   | refine LeO.ite ?_ ?_
   | refine LeO.bind ?_ (fun _ => ?_)
set_option maxHeartbeats 8000000 in
set_option maxRecDepth 100000 in
theorem spec_MovesFrom.calls (k : Nat) (a0_0 : Int) (A0_1 : Option Addr) (c0_1 : Nat) (l0_1 : List Bool) (A0_2 : Option Addr) (c0_2 : Nat) (l0_2 : List (S46)) (a1 : Int) (a2 : Bool) (r : List Int) (w : World) (hr0_1 : Kd.C Kd.bool w A0_1 l0_1.length l0_1) (hc0_1 : l0_1.length ≤ c0_1) (hr0_2 : Kd.C k46 w A0_2 l0_2.length l0_2) (hc0_2 : l0_2.length ≤ c0_2) (h : spec_MovesFrom.f k a0_0 l0_1 l0_2 a1 a2 = some r) :
  Calls Try.prog 25 #[.agg #[.int .i64 a0_0, .slice A0_1 l0_1.length c0_1, .slice A0_2 l0_2.length c0_2], .int .i64 a1, .bool a2] w fun e w' => ∃ v0_ : Value, e = .returned (v0_) ∧ Kd.R (Kd.int .i64) 3 w' w.heap.size (fun _ => True) v0_ r ∧ Below w.heap.size w w' := by
 have hu27 := Try.underlying27
 have HR0_1 := Aside0.mk hr0_1
 have HC0_1 := Aside0.mk hc0_1
 clear hr0_1 hc0_1
 have HR0_2 := Aside0.mk hr0_2
 have HC0_2 := Aside0.mk hc0_2
 clear hr0_2 hc0_2
 have HB := Aside0.mk (Below.refl w.heap.size w)
 have H : (spec_MovesFrom.l0 k a1 a2 (([] : List Int)) 0 a0_0 l0_1 l0_2) = some r := h
 clear h
 obtain ⟨y213, hy213⟩ : ∃ y_ : List Int, y_ = (([] : List Int)) := ⟨_, rfl⟩
 replace H : (spec_MovesFrom.l0 k a1 a2 y213 0 a0_0 l0_1 l0_2) = some r := by first | (rw [hy213]; with_reducible exact H) | (rw [hy213]; exact H) | exact H
 have Ny213 := Aside0.mk hy213
 clear hy213
 have H' := Aside0.mk H
 clear H
 go_enter Try.func25, Try.ntmps25
 go_wp2_with (first | ((with_reducible refine gate_dst (N := 3) rfl ?_); refine box_event ?hg (N := 3) ?hd (cs := #[.int .i64 a0_0, .slice A0_1 l0_1.length c0_1, .slice A0_2 l0_2.length c0_2]) (t := 27) ?hr ?_; (case hd => rfl); (case hg => rfl); (case hr => first | (go_simp; done) | (go_simp; rfl)); intro gb212 hg w4 hbox hb; have BK212 := Aside0.mk (hbox); have GW212 := gS HB hg; have GE212 := gS HB hg; replace HB := bS HB hb; clear hb hbox hg) | ((with_reducible refine gate_dst (N := 9) rfl ?_); refine Kd.R_lit (Kd.int .i64) _ 3 ?hg (N := 9) ?hd (xs := ([] : List Int)) (inner := []) (ok := fun _ => True) (okp := fun _ => True) ?hr ?hp (fun _ hk => hk) trivial (Below.refl _ _) (Nat.le_refl _) (by simp) ?_; (case hd => rfl); (case hg => rfl); (case hr => first | (go_simp; done) | (go_simp; rfl)); (case hp => exact (Reps.none _ _)); intro v214 w5 ho6 hb hg_ hnew_; clear hg_ hnew_; (first | rw [← Ny213.out] at ho6 | (simp only [Int.reduceToNat] at ho6; rw [← Ny213.out] at ho6)); have HO215 := Aside0.mk (Kd.R_lower ho6 (below_size (zB HB))); replace BK212 := kB BK212 hb; replace HB := bS HB hb; clear hb ho6))
 go_loopg [7, 8] k (fun kq v7 v8 w' => ∃ (x7_1 : List Int) (x8_1 : Int), v8 = .int .i64 x8_1 ∧ Aside0 (spec_MovesFrom.l0 kq a1 a2 x7_1 x8_1 a0_0 l0_1 l0_2 = some r) ∧ Aside0 (kq ≤ k) ∧ Aside0 (Kd.R (Kd.int .i64) 3 w' w.heap.size (fun _ => True) v7 x7_1) ∧ Aside0 (w'.heap[gb212]? = some (.cells #[.int .i64 a0_0, (.slice A0_1 l0_1.length c0_1), (.slice A0_2 l0_2.length c0_2)] 27 (0, 0))) ∧ Aside0 (Below w.heap.size w w'))
 case atStart => exact ⟨(y213), (0), zF, H', ⟨Nat.le_refl _⟩, ⟨zR HO215⟩, ⟨zK BK212⟩, ⟨zB HB⟩⟩
 case round =>
  clear H'
  try clear c2
  try clear p2
  obtain ⟨x7_1, x8_1, rfl, HA, HK1, HO_7, BK212, HB⟩ := hrel
  cases gk with
  | zero => exact absurd HA.out (by simp [spec_MovesFrom.l0])
  | succ k1 =>
   have H := HA.out
   clear HA
   simp only [spec_MovesFrom.l0] at H
   by_cases c7 : x8_1 < (l0_2.length : Int)
   ·rw [if_pos c7] at H
    have c7b0 : decide (x8_1 < (l0_2.length : Int)) = true := decide_eq_true c7
    clear c7
    obtain ⟨c8, H⟩ := ifS H
    have c8b0 : decide (0 ≤ x8_1) = true := decide_eq_true c8
    clear c8
    by_cases c9 : ((rd_T46 l0_2 x8_1).f0) = a1
    ·rw [if_pos c9] at H
     have c9b0 : (((rd_T46 l0_2 x8_1).f0) == a1) = true := beq_iff_eq.mpr c9
     have c9b1 : (((rd_T46 l0_2 x8_1).f0) != a1) = false := bne_eq_false_iff_eq.mpr c9
     clear c9
     by_cases c10 : (((rd_T46 l0_2 x8_1).f1) == a2) = true
     ·rw [if_pos c10] at H
      have c10b0 : (((rd_T46 l0_2 x8_1).f1) == a2) = true := c10
      (try (have c10b1 : decide (((rd_T46 l0_2 x8_1).f1) = a2) = true := by simpa using c10))
      (try (have c10b2 : (((rd_T46 l0_2 x8_1).f1) == a2) = true := by simpa using c10))
      clear c10
      obtain ⟨t219, A11, H⟩ := bindS H
      have H' := Aside0.mk H
      clear H
      obtain ⟨hcz12_0, hcz12_1, hcz12_2, hfz12_0, hfz12_1, hfz12_2⟩ := bq3 BK212
      have p216 : 0 ≤ (x8_1 : Int) := zD
      have q216 : x8_1 < (l0_2.length : Int) := zD
      obtain ⟨ad216, e216, hx216_0, hx216_1, hx216_2, hx216_3⟩ := at_T46 HR0_2.out x8_1 p216 q216
      cases e216
      replace hx216_0 := hL HB hx216_0
      replace hx216_1 := hL HB hx216_1
      replace hx216_2 := hL HB hx216_2
      replace hx216_3 := hL HB hx216_3
      replace p216 := eq_true p216
      replace q216 := eq_true q216
      have p217 : 0 ≤ (x8_1 : Int) := zD
      have q217 : x8_1 < (l0_2.length : Int) := zD
      obtain ⟨ad217, e217, hx217_0, hx217_1, hx217_2, hx217_3⟩ := at_T46 HR0_2.out x8_1 p217 q217
      obtain rfl : ad216 = ad217 := (by injection e217)
      replace hx217_0 := hL HB hx217_0
      replace hx217_1 := hL HB hx217_1
      replace hx217_2 := hL HB hx217_2
      replace hx217_3 := hL HB hx217_3
      replace p217 := eq_true p217
      replace q217 := eq_true q217
      have p218 : 0 ≤ (x8_1 : Int) := zD
      have q218 : x8_1 < (l0_2.length : Int) := zD
      obtain ⟨ad218, e218, hx218_0, hx218_1, hx218_2, hx218_3⟩ := at_T46 HR0_2.out x8_1 p218 q218
      obtain rfl : ad216 = ad218 := (by injection e218)
      replace hx218_0 := hL HB hx218_0
      replace hx218_1 := hL HB hx218_1
      replace hx218_2 := hL HB hx218_2
      replace hx218_3 := hL HB hx218_3
      replace p218 := eq_true p218
      replace q218 := eq_true q218
      obtain ⟨Ao13, co13, eo13⟩ := Kd.R_slice HO_7.out
      subst eo13
      go_wp2_with (first | ((with_reducible refine gate_callee (f := 42) rfl ?_); refine goesL_ (some 42) rfl rfl Try.func42 (by kernel_rfl) rfl #[.slice Ao13 x7_1.length co13, .int .i64 ((rd_T46 l0_2 x8_1).f2)] rfl zG ?_; (with_reducible refine (spec_l4Put.calls k1 _ _ x7_1 ((rd_T46 l0_2 x8_1).f2) t219 _ ?side1 ?side2 A11.out).mono ?_); (case side1 => exact cU (Kd.R_reads' HO_7.out).2.2); (case side2 => exact (Kd.R_reads' HO_7.out).2.1); rintro e w14 ⟨v220, rfl, ho0, hb⟩; refine ⟨_, rfl, ?_⟩; have HO221 := Aside0.mk (Kd.R_lower (Kd.R_new' ho0 (Kd.R_lt (zR HO_7))) (below_size (zB HB))); replace HO_7 := Aside0.mk (Kd.R_elder' (zR HO_7) (Kd.R_base ho0) hb); replace BK212 := kB BK212 hb; replace HB := bS HB hb; (try clear hb); (try clear ho0)))
      go_roundg k1
      case measure => have := HK1.out; omega
      case rel => exact ⟨(t219), (wrap64 (x8_1 + 1)), zF, H', ⟨by have := HK1.out; omega⟩, ⟨by (with_reducible repeat (first | apply Kd.R_alloc | apply Kd.R_drewN | apply Kd.R_drew)); exact Kd.R_mono HO221.out (fun _ hk => trivial)⟩, ⟨zK BK212⟩, ⟨zB HB⟩⟩
     ·rw [if_neg c10] at H
      have c10b0 : (((rd_T46 l0_2 x8_1).f1) == a2) = false := by simpa using c10
      (try (have c10b1 : decide (((rd_T46 l0_2 x8_1).f1) = a2) = false := by simpa using c10))
      (try (have c10b2 : (((rd_T46 l0_2 x8_1).f1) == a2) = false := by simpa using c10))
      (try (have c10b3 : ¬ (((rd_T46 l0_2 x8_1).f1) = a2) := by simpa using c10))
      clear c10
      have H' := Aside0.mk H
      clear H
      obtain ⟨hcz15_0, hcz15_1, hcz15_2, hfz15_0, hfz15_1, hfz15_2⟩ := bq3 BK212
      have p216 : 0 ≤ (x8_1 : Int) := zD
      have q216 : x8_1 < (l0_2.length : Int) := zD
      obtain ⟨ad216, e216, hx216_0, hx216_1, hx216_2, hx216_3⟩ := at_T46 HR0_2.out x8_1 p216 q216
      cases e216
      replace hx216_0 := hL HB hx216_0
      replace hx216_1 := hL HB hx216_1
      replace hx216_2 := hL HB hx216_2
      replace hx216_3 := hL HB hx216_3
      replace p216 := eq_true p216
      replace q216 := eq_true q216
      have p217 : 0 ≤ (x8_1 : Int) := zD
      have q217 : x8_1 < (l0_2.length : Int) := zD
      obtain ⟨ad217, e217, hx217_0, hx217_1, hx217_2, hx217_3⟩ := at_T46 HR0_2.out x8_1 p217 q217
      obtain rfl : ad216 = ad217 := (by injection e217)
      replace hx217_0 := hL HB hx217_0
      replace hx217_1 := hL HB hx217_1
      replace hx217_2 := hL HB hx217_2
      replace hx217_3 := hL HB hx217_3
      replace p217 := eq_true p217
      replace q217 := eq_true q217
      go_wp2
      go_roundg k1
      case measure => have := HK1.out; omega
      case rel => exact ⟨(x7_1), (wrap64 (x8_1 + 1)), zF, H', ⟨by have := HK1.out; omega⟩, ⟨zR HO_7⟩, ⟨zK BK212⟩, ⟨zB HB⟩⟩
    ·rw [if_neg c9] at H
     have c9b0 : (((rd_T46 l0_2 x8_1).f0) == a1) = false := beq_eq_false_iff_ne.mpr c9
     have c9b1 : (((rd_T46 l0_2 x8_1).f0) != a1) = true := bne_iff_ne.mpr c9
     have H' := Aside0.mk H
     clear H
     obtain ⟨hcz16_0, hcz16_1, hcz16_2, hfz16_0, hfz16_1, hfz16_2⟩ := bq3 BK212
     have p216 : 0 ≤ (x8_1 : Int) := zD
     have q216 : x8_1 < (l0_2.length : Int) := zD
     obtain ⟨ad216, e216, hx216_0, hx216_1, hx216_2, hx216_3⟩ := at_T46 HR0_2.out x8_1 p216 q216
     cases e216
     replace hx216_0 := hL HB hx216_0
     replace hx216_1 := hL HB hx216_1
     replace hx216_2 := hL HB hx216_2
     replace hx216_3 := hL HB hx216_3
     replace p216 := eq_true p216
     replace q216 := eq_true q216
     go_wp2
     go_roundg k1
     case measure => have := HK1.out; omega
     case rel => exact ⟨(x7_1), (wrap64 (x8_1 + 1)), zF, H', ⟨by have := HK1.out; omega⟩, ⟨zR HO_7⟩, ⟨zK BK212⟩, ⟨zB HB⟩⟩
   ·rw [if_neg c7] at H
    have c7b0 : decide (x8_1 < (l0_2.length : Int)) = false := decide_eq_false c7
    clear c7
    obtain rfl := Option.some.inj H
    obtain ⟨hcz17_0, hcz17_1, hcz17_2, hfz17_0, hfz17_1, hfz17_2⟩ := bq3 BK212
    go_wp2
    go_ret
    exact ⟨_, zE, by (with_reducible repeat (first | apply Kd.R_alloc | apply Kd.R_drewN | apply Kd.R_drew)); exact HO_7.out, zB HB⟩

end Go.Proofs.Ytfibjclnaeocbaa.PFnChain
