-- WRITTEN by pp.py, this session's own wrapper around the print; not trusted: Lean checks it
import Derived.Test.YtfibjclnaeocbaaPFnPairsx0
import Derived.Test.YtfibjclnaeocbaaPFnPairsx6
import Derived.Test.YtfibjclnaeocbaaPFnPairsx7
import Derived.Test.YtfibjclnaeocbaaPFnPairsx8
namespace Go.Proofs.Ytfibjclnaeocbaa.PFnPairs
open Go.RowKit Go.Proofs.Ytfibjclnaeocbaa.Hw Go.Proofs.YtfibjclnaeocbaaW.PrintWords Go.Proofs.YtfibjclnaeocbaaW.PrintLast Go.Proofs.YtfibjclnaeocbaaW.PrintMore
attribute [local go_sem] max2_int min2_int max_two min_two max_three min_three max_four min_four   -- for this text's walks alone
set_option linter.unusedVariables false
set_option linter.unusedSimpArgs false
set_option linter.unusedSectionVars false

theorem impl_reached_any.eq0 (a b : List Int) (hl : a.length ≤ 9223372036854775807) (he : b.length = a.length) : ∀ (d k i : Nat), i + d = a.length → d < k → slices_Equal_int_int.l0 k a b (a.length : Int) (i : Int) = some (decide (a.drop i = b.drop i)) := by
 intro d
 induction d with
 | zero =>
  intro k i h hk
  obtain ⟨k, rfl⟩ : ∃ m, k = m + 1 := ⟨k - 1, by omega⟩
  obtain rfl : i = a.length := by omega
  simp only [slices_Equal_int_int.l0]; rw [if_neg (by omega), List.drop_length, ← he, List.drop_length]; rfl
 | succ d ih =>
  intro k i h hk
  obtain ⟨k, rfl⟩ : ∃ m, k = m + 1 := ⟨k - 1, by omega⟩
  simp only [slices_Equal_int_int.l0]
  have hw : wrap64 ((i : Int) + 1) = ((i + 1 : Nat) : Int) := by unfold wrap64; omega
  have ha : i < a.length := by omega
  have hb : i < b.length := by omega
  rw [if_pos (by omega), if_pos (by omega), if_pos (by omega), if_pos (by omega), hw, ih k (i + 1) (by omega) (by omega), List.drop_eq_getElem_cons ha, List.drop_eq_getElem_cons hb]
  have ea : rd a (i : Int) = a[i] := by simp [rd, ha]
  have eb : rd b (i : Int) = b[i] := by simp [rd, hb]
  rw [ea, eb]
  by_cases q : a[i] = b[i]
  ·rw [if_pos q]; exact congrArg some (decide_eq_decide.2 ⟨fun h_ => by rw [q, h_], fun h_ => (List.cons.inj h_).2⟩)
  ·rw [if_neg q, decide_eq_false (fun h_ => q (List.cons.inj h_).1)]
theorem impl_reached_any.eq (x l1 : List Int) (hl : x.length ≤ 9223372036854775807) : slices_Equal_int_int.f (x.length + 1) x l1 = some (decide (x = l1)) := by
 unfold slices_Equal_int_int.f
 by_cases e : x.length = l1.length
 ·rw [if_pos (by omega)]
  exact impl_reached_any.eq0 x l1 hl e.symm x.length _ 0 (by omega) (by omega)
 ·rw [if_neg (by omega), decide_eq_false (fun h => e (by rw [h]))]
/-! ### impl_reached_any: functions 39 and 40 (by hand) -/
theorem impl_reached_any.lit (x : List Int) (A0_ : Option Addr) (c0_ : Nat) (A1 : Option Addr) (c1 : Nat) (l1 : List Int) (W : World) (hl0_ : x.length ≤ c0_) (hr0_ : Kd.C (Kd.int .i64) W A0_ x.length x) (hr1 : Kd.C (Kd.int .i64) W A1 l1.length l1) (hc1 : l1.length ≤ c1) {B1_ : Nat} (hB1_ : W.heap[B1_]? = some (.cells #[.slice A1 l1.length c1] 31 (0, 0))) :
  Calls Try.prog 40 #[.slice A0_ x.length c0_, .pointer (some ⟨B1_, 0, none⟩)] W fun e w' => e = .returned (.bool (decide (x = l1))) ∧ Below W.heap.size W w' := by
 have hcl1_0 : W.cell? ⟨B1_, 0, none⟩ = some (.slice A1 l1.length c1) := (blk_cell hB1_ 0).trans rfl
 have hbk1_ := blk_lt hB1_
 have HX := aM (fun W_ h0_ h1_ => slices_Equal_int_int.calls (x.length + 1) A0_ c0_ x A1 c1 l1 (decide (x = l1)) W_ h0_ hl0_ h1_ hc1 (impl_reached_any.eq x l1 hr0_.2.1))
 obtain ⟨b, hb⟩ : ∃ b : Bool, b = decide (x = l1) := ⟨_, rfl⟩
 rw [← hb] at HX ⊢
 have HR0 := aM hr0_
 have HR1 := aM hr1
 clear hb hr0_ hr1
 go_enter Try.func40, Try.ntmps40
 go_wp2_with (go_at_call 41; refine (HX.o _ ?_ ?_).mono ?_; (first | exact HR0.o | (with_reducible refine qN ?_ _; exact HR0.o) | (with_reducible refine qD ?_; exact HR0.o)); (first | exact HR1.o | (with_reducible refine qN ?_ _; exact HR1.o) | (with_reducible refine qD ?_; exact HR1.o)); rintro e w' ⟨rfl, ⟨nd, rfl⟩⟩)
 go_ret
 exact ⟨rfl, by repeat (first | exact Below.refl _ _ | apply below_alloc | apply pw_below_drewN | apply below_drew1)⟩
set_option maxHeartbeats 4000000 in
set_option maxRecDepth 100000 in
theorem impl_reached_any.idx (A0 : Option Addr) (c0 : Nat) (l0 : List (List Int)) (A1 : Option Addr) (c1 : Nat) (l1 : List Int) (w : World) (hr0 : Kd.C (Kd.slice 3 (Kd.int .i64)) w A0 l0.length l0) (hc0 : l0.length ≤ c0) (hr1 : Kd.C (Kd.int .i64) w A1 l1.length l1) (hc1 : l1.length ≤ c1) {B1_ : Nat} (hB1_ : w.heap[B1_]? = some (.cells #[.slice A1 l1.length c1] 31 (0, 0))) :
  Calls Try.prog 56 #[.slice A0 l0.length c0, .func (.func 40) #[] #[.pointer (some ⟨B1_, 0, none⟩)]] w fun e w' => e = .returned (.int .i64 (idxOf (fun x => decide (x = l1)) l0)) ∧ Below w.heap.size w w' := by
 have HL_ := aM hr0.2.1
 have HR0 := aM hr0
 have Hhr1 := aM hr1
 have Hhc1 := aM hc1
 have HhB1_ := aM hB1_
 obtain ⟨m_, hm_⟩ : ∃ m_ : Int, m_ = idxOf (fun x => decide (x = l1)) l0 := ⟨_, rfl⟩
 rw [← hm_]
 have HM_ := aM hm_
 clear hr0 hc0 hm_ hr1 hc1 hB1_
 go_enter Try.func56, Try.ntmps56
 go_wp2
 go_loopg [5, 8] l0.length (fun gg _ s8 wr => ∃ kk : Int, 0 ≤ kk ∧ kk ≤ l0.length ∧ l0.length - kk.toNat ≤ gg ∧ s8 = .int .i64 kk ∧ Aside0 (Below w.heap.size w wr) ∧ Aside0 (m_ = idxAt (fun x => decide (x = l1)) l0 kk))
 case atStart => exact ⟨0, by omega, by omega, by omega, rfl, ⟨Below.refl _ w⟩, ⟨by rw [HM_.o, idxAt_zero]⟩⟩
 case round =>
  obtain ⟨kk, h0, hkk, hg, rfl, BW, A_⟩ := hrel
  by_cases hlt : kk < (l0.length : Int)
  ·obtain ⟨ad, A0_, c0_, e_, hx0, ⟨hl0_, hr0_⟩⟩ := at_L4 HR0.o kk h0 hlt
   cases e_
   replace hx0 := cell_later BW.o hx0
   have hlit := impl_reached_any.lit (rd_L4 l0 kk) A0_ c0_ A1 c1 l1 wr hl0_ (Kd.C_below hr0_ BW.o) (Kd.C_below Hhr1.o BW.o) Hhc1.o (blk_below HhB1_.o BW.o)
   have HLIT := aM hlit
   clear hlit hl0_ hr0_
   obtain ⟨b, hb⟩ : ∃ b : Bool, b = (fun x : List Int => decide (x = l1)) (rd_L4 l0 kk) := ⟨_, rfl⟩
   have HQ := aM hb
   replace HLIT : Aside0 (Calls Try.prog 40 #[.slice A0_ (rd_L4 l0 kk).length c0_, .pointer (some ⟨B1_, 0, none⟩)] wr fun e w' => e = .returned (.bool b) ∧ Below wr.heap.size wr w') := by rw [hb]; exact HLIT
   clear hb
   cases b with
   | true =>
    go_wp2_with (go_at_call 40; refine HLIT.o.mono ?_; rintro e w' ⟨rfl, hb'⟩)
    go_ret
    exact ⟨ret_int (by rw [A_.o]; exact (idxAt_hit (fun x => decide (x = l1)) l0 ([] : List Int) kk h0 hlt HQ.o.symm).symm), below_trans BW.o hb'⟩
   | false =>
    go_wp2_with (go_at_call 40; refine HLIT.o.mono ?_; rintro e w' ⟨rfl, hb'⟩)
    have hw1 := wrap_kk h0 hlt HL_.o
    go_roundg (l0.length - (kk.toNat + 1))
    case measure => omega
    case rel => exact ⟨kk + 1, by omega, by omega, by omega, by first | rfl | (rw [hw1]) | (simp only [hw1]), ⟨below_trans BW.o hb'⟩, ⟨by rw [A_.o]; exact idxAt_go (fun x => decide (x = l1)) l0 ([] : List Int) kk h0 hlt HQ.o.symm⟩⟩
  ·go_wp2
   go_ret
   exact ⟨ret_int (by rw [A_.o]; exact (idxAt_end _ _ _ (by omega)).symm), BW.o⟩
def impl_reached_any.f (l0 : List (List Int)) (l1 : List Int) : Option (Bool) := some (l0.any (fun x => decide (x = l1)))
theorem impl_reached_any.calls (A0 : Option Addr) (c0 : Nat) (l0 : List (List Int)) (A1 : Option Addr) (c1 : Nat) (l1 : List Int) (r : Bool) (w : World) (hr0 : Kd.C (Kd.slice 3 (Kd.int .i64)) w A0 l0.length l0) (hc0 : l0.length ≤ c0) (hr1 : Kd.C (Kd.int .i64) w A1 l1.length l1) (hc1 : l1.length ≤ c1) {B1_ : Nat} (hB1_ : w.heap[B1_]? = some (.cells #[.slice A1 l1.length c1] 31 (0, 0))) (h : impl_reached_any.f l0 l1 = some r) :
  Calls Try.prog 39 #[.slice A0 l0.length c0, .func (.func 40) #[] #[.pointer (some ⟨B1_, 0, none⟩)]] w fun e w' => e = .returned (.bool r) ∧ Below w.heap.size w w' := by
 obtain rfl := oI h
 have HX := aM (impl_reached_any.idx A0 c0 l0 A1 c1 l1 w hr0 hc0 hr1 hc1 hB1_)
 obtain ⟨m_, hm_⟩ : ∃ m_ : Int, m_ = idxOf (fun x => decide (x = l1)) l0 := ⟨_, rfl⟩
 rw [← hm_] at HX
 have HM_ := aM hm_
 clear h hr0 hc0 hm_ hr1 hc1 hB1_
 go_enter Try.func39, Try.ntmps39
 go_wp2_with (go_at_call 56; refine HX.o.mono ?_; rintro e w' ⟨rfl, hb⟩)
 go_ret
 exact ⟨by rw [← idxOf_any, ← HM_.o]; rfl, hb⟩
/-- What impl_reached is handed. -/
class KEEP_impl_reached where
 f : Nat → Int → Int → Option (List (List Int))
 mono : ∀ x0 x1 k, LeO (f k x0 x1) (f (k + 1) x0 x1)
section
variable [inst_ : KEEP_impl_reached]
/-! ### impl_reached: function 20 -/
mutual
def impl_reached.l0 : Nat → List (List Int) → Int → Option ((List (List Int)))
 | 0, _, _ => none
 | k + 1, x3, x4 => if x4 < (x3.length : Int) then (if 0 ≤ x4 then (if 0 < ((rd_L4 x3 x4).length : Int) then (if 1 < ((rd_L4 x3 x4).length : Int) then ((KEEP_impl_reached.f k (rd (rd_L4 x3 x4) 0) (rd (rd_L4 x3 x4) 1)).bind fun t378 => (impl_reached.l1 k x3 x4 t378 (t378.length : Int) 0)) else (none)) else (none)) else (none)) else (some x3)
def impl_reached.l1 : Nat → List (List Int) → Int → List (List Int) → Int → Int → Option ((List (List Int)))
 | 0, _, _, _, _, _ => none
 | k + 1, x3, x4, x28, x29, x30 => if x30 < x29 then (if 0 ≤ x30 then (if x30 < (x28.length : Int) then ((impl_reached_any.f x3 (rd_L4 x28 x30)).bind fun t383 => (if t383 = true then (impl_reached.l1 k x3 x4 x28 x29 (wrap64 (x30 + 1))) else (if x3.length < 5864062014805 then (impl_reached.l1 k (x3 ++ [rd_L4 x28 x30]) x4 x28 x29 (wrap64 (x30 + 1))) else (none)))) else (none)) else (none)) else (impl_reached.l0 k x3 (wrap64 (x4 + 1)))
end
def impl_reached.f (k : Nat)  : Option ((List (List Int))) := impl_reached.l0 k (([(([0, 0] : List Int))] : List (List Int))) 0
theorem impl_reached.mono_l : ∀ k, (∀ y0 y1, LeO (impl_reached.l0 k y0 y1) (impl_reached.l0 (k + 1) y0 y1)) ∧ (∀ y0 y1 y2 y3 y4, LeO (impl_reached.l1 k y0 y1 y2 y3 y4) (impl_reached.l1 (k + 1) y0 y1 y2 y3 y4))
 | 0 => ⟨fun _ _ r h => by simp [impl_reached.l0] at h, fun _ _ _ _ _ r h => by simp [impl_reached.l1] at h⟩
 | k + 1 => by
  obtain ⟨ih0, ih1⟩ := impl_reached.mono_l k
  refine ⟨?a0, ?a1⟩
  case' a0 => intros; unfold impl_reached.l0
  case' a1 => intros; unfold impl_reached.l1
  all_goals repeat' first
  | (with_reducible first | exact ih0 _ _ | exact ih1 _ _ _ _ _ | exact KEEP_impl_reached.mono _ _ _ | exact LeO.refl _ | exact LeO.none _ | refine LeO.ite ?_ ?_ | refine LeO.bind ?_ (fun _ => ?_))
  | exact ih0 _ _
  | exact ih1 _ _ _ _ _
  | exact KEEP_impl_reached.mono _ _ _
  | exact LeO.none _
  | refine LeO.ite ?_ ?_
  | refine LeO.bind ?_ (fun _ => ?_)
theorem impl_reached.mono : ∀ k, LeO (impl_reached.f k ) (impl_reached.f (k + 1) ) := by
 intro  k
 obtain ⟨ih0, ih1⟩ := impl_reached.mono_l k
 unfold impl_reached.f
 repeat' first
   | (with_reducible first | exact ih0 _ _ | exact ih1 _ _ _ _ _ | exact KEEP_impl_reached.mono _ _ _ | exact LeO.refl _ | exact LeO.none _ | refine LeO.ite ?_ ?_ | refine LeO.bind ?_ (fun _ => ?_))
   | exact ih0 _ _
   | exact ih1 _ _ _ _ _
   | exact KEEP_impl_reached.mono _ _ _
   | exact LeO.none _
   | refine LeO.ite ?_ ?_
   | refine LeO.bind ?_ (fun _ => ?_)
def impl_reached.T5 : Bool × List (List Nat × List Nat) := (true, [([], []), ([], []), ([], []), ([1, 2], [1, 2]), ([3], [3]), ([4], [4]), ([5], [5]), ([], []), ([], []), ([7, 8], [7, 8]), ([9], [9]), ([10], [10]), ([11], [11]), ([0, 6, 12], [0, 6, 12]), ([13], [13]), ([], [])])
def impl_reached.B5 : List Nat := [0, 0, 0, 6, 14, 30, 62, 0, 0, 384, 896, 1920, 3968, 8191, 16383, 0]
theorem impl_reached.tab5 : rtab .any (opsOf Try.f20 5) = impl_reached.T5 := by kernel_rfl
theorem impl_reached.bits5 : waitsOk impl_reached.T5.2 impl_reached.B5 = true := by kernel_rfl
/-- An element of a row whose elements' blocks are told by f. -/
theorem impl_reached.elem {f : Nat → Nat} {w : World} {base n cap : Nat} {ok : Nat → Prop} {ad : Addr} {xs : List (List Int)} (h : (Kd.tag f (Kd.slice 3 (Kd.int .i64))).R 31 w base ok (.slice (some ad) n cap) xs.zipIdx) (i : Int) (h0 : 0 ≤ i) (h1 : i < n) {A : Option Addr} {c : Nat} (hx : w.cell? (ad.add i.toNat) = some (.slice A (rd_L4 xs i).length c)) :
  Kd.R (Kd.int .i64) 3 w base (fun k => (ok k ∧ some k ≠ (Value.slice (some ad) n cap).ownBlock) ∧ f k = i.toNat) (.slice A (rd_L4 xs i).length c) (rd_L4 xs i) := by
 have hn : n = xs.length := by have h2 := (rQ h).1; rw [List.length_zipIdx] at h2; exact h2
 obtain ⟨cs, hcl, hM, hcc⟩ := Kd.R_getA h ([], 0) i h0 h1
 have hil : i.toNat < xs.length := by omega
 have he : xs.zipIdx.getD i.toNat ([], 0) = (rd_L4 xs i, i.toNat) := by
  rw [List.getD_eq_getElem?_getD, List.getElem?_zipIdx, List.getElem?_eq_getElem hil]
  simp [rd_L4, hil]
 rw [he] at hM
 obtain ⟨v, hv, hR⟩ := (show Kd.M (Kd.slice 3 (Kd.int .i64)) w base (fun k => (ok k ∧ some k ≠ (Value.slice (some ad) n cap).ownBlock) ∧ f k = i.toNat) (rd_L4 xs i) cs from hM)
 subst hv
 have h3 := hcc 0 v rfl
 rw [show (Kd.tag f (Kd.slice 3 (Kd.int .i64))).sz = 1 from rfl, Nat.mul_one, Nat.add_zero] at h3
 obtain rfl := oI (h3.symm.trans hx)
 exact hR
set_option maxHeartbeats 8000000 in
set_option maxRecDepth 100000 in
theorem impl_reached.calls (k : Nat)  (r : List (List Int)) (w : World) {g_ : Nat} {fn_ : Func} {lb_ : Array Value} (hf_ : Try.prog.funcs[g_]? = some fn_) (hn_ : (fn_.name == "runtime.NumGoroutine") = false) (hbo_ : fn_.body.isSome = true) (hK_ : ∀ (k : Nat) (a0 : Int) (a1 : Int) (r : (List (List Int))) (W : World), Below w.heap.size w W → KEEP_impl_reached.f k a0 a1 = some r → Calls Try.prog g_ (#[.int .i64 a0, .int .i64 a1] ++ lb_) W fun e w' => ∃ v0_ : Value, e = .returned (v0_) ∧ Kd.S (Kd.slice 3 (Kd.int .i64)) 31 w' W.heap.size (fun _ => True) v0_ r ∧ Below W.heap.size W w') (h : impl_reached.f k  = some r) :
  Calls Try.prog 20 #[.func (.func g_) #[] lb_] w fun e w' => ∃ v0_ : Value, e = .returned (v0_) ∧ Kd.S (Kd.slice 3 (Kd.int .i64)) 31 w' w.heap.size (fun _ => True) v0_ r ∧ Below w.heap.size w w' := by
 have HF_ := aM hf_
 have HN_ := aM hn_
 have HBO_ := aM hbo_
 have HKEEP_ := aM hK_
 clear hf_ hn_ hbo_ hK_
 have HB := aM (Below.refl w.heap.size w)
 have H : (impl_reached.l0 k (([(([0, 0] : List Int))] : List (List Int))) 0) = some r := h
 clear h
 obtain ⟨y368, hy368⟩ : ∃ y_ : List Int, y_ = (([0, 0] : List Int)) := ⟨_, rfl⟩
 replace H : (impl_reached.l0 k (([y368] : List (List Int))) 0) = some r := by first | (rw [hy368]; with_reducible exact H) | (rw [hy368]; exact H) | exact H
 have Ny368 := aM hy368
 clear hy368
 obtain ⟨y371, hy371⟩ : ∃ y_ : List (List Int), y_ = (([y368] : List (List Int))) := ⟨_, rfl⟩
 replace H : (impl_reached.l0 k y371 0) = some r := by first | (rw [hy371]; with_reducible exact H) | (rw [hy371]; exact H) | exact H
 have Ny371 := aM hy371
 clear hy371
 have H' := aM H
 clear H
 go_enter Try.func20, Try.ntmps20
 go_wp2_with (first | ((with_reducible refine gD (N := 7) rfl ?_); refine Kd.R_lit (Kd.int .i64) _ 3 ?hg (N := 7) ?hd (xs := ([0, 0] : List Int)) (inner := [.int .i64 0, .int .i64 0]) (ok := fun _ => True) (okp := fun _ => True) ?hr ?hp (fun _ hk => hk) trivial (Below.refl _ _) (Nat.le_refl _) (by simp) ?_; (case hd => rfl); (case hg => rfl); (case hr => first | (go_simp; done) | (go_simp; rfl)); (case hp => exact (Reps.one (show Kd.M (Kd.int .i64) _ _ _ 0 [.int .i64 0] from rfl) (Reps.one (show Kd.M (Kd.int .i64) _ _ _ 0 [.int .i64 0] from rfl) (Reps.none _ _)))); intro v369 w1 ho2 hb hg_ hnew_; clear hg_ hnew_; (first | rw [← Ny368.o] at ho2 | (simp only [Int.reduceToNat] at ho2; rw [← Ny368.o] at ho2)); have HO370 := aM (rO (Kd.R_newM (M := fun k_ => (w.heap.size ≤ k_)) ho2 (bZ (zB HB)) (fun k_ h_ => h_)) (bZ (zB HB))); replace HB := bS HB hb; clear hb ho2; obtain ⟨Ao3, co3, eo3⟩ := rL HO370.o; subst eo3) | ((with_reducible refine gD (N := 8) rfl ?_); refine Kd.S_lits (Kd.slice 3 (Kd.int .i64)) (w0 := w) w.heap.size 31 ?hg (N := 8) ?hd (xs := ([y368] : List (List Int))) (inner := [.slice Ao3 y368.length co3]) (ok := fun _ => True) (fun j_ k_ => j_ = 0 ∧ w.heap.size ≤ k_) ?hr ?hl ?hp ?ha (fun _ _ _ => trivial) trivial (zB HB) (bZ (zB HB)) (by simp) ?_; (case hd => rfl); (case hg => rfl); (case hr => first | (go_simp; done) | (go_simp; rfl)); (case hl => rfl); (case hp => intro j_ x_ hj_; cases j_ with | zero => (obtain rfl := oI hj_; exact ⟨_, rfl, (rM HO370.o (fun k_ hk_ => ⟨rfl, hk_.1⟩))⟩) | succ j_ => (exact absurd hj_ (by simp))); (case ha => exact fun i_ j_ k_ h1_ h2_ => h1_.1.trans h2_.1.symm); intro v372 w4 ho5 hb hg_ hnew_; clear hg_ hnew_; (first | rw [← Ny371.o] at ho5 | (simp only [Int.reduceToNat] at ho5; rw [← Ny371.o] at ho5)); have HO373 := aM ho5; replace HB := aM hb; clear HO370; clear hb ho5))
 go_loopg [3, 4] k (fun kq v3 v4 w' => ∃ (x3_1 : List (List Int)) (x4_1 : Int), v4 = .int .i64 x4_1 ∧ Aside0 (impl_reached.l0 kq x3_1 x4_1 = some r) ∧ Aside0 (kq ≤ k) ∧ Aside0 (Kd.S (Kd.slice 3 (Kd.int .i64)) 31 w' w.heap.size (fun _ => True) v3 x3_1) ∧ Aside0 (Below w.heap.size w w'))
 case atStart => exact ⟨(y371), (0), zF, H', ⟨Nat.le_refl _⟩, ⟨zS HO373⟩, ⟨zB HB⟩⟩
 case round =>
  clear H'
  try clear p2
  try clear c4
  obtain ⟨x3_1, x4_1, rfl, HA, HK1, HO_3, HB⟩ := hrel
  cases gk with
  | zero => exact absurd HA.o (by simp [impl_reached.l0])
  | succ k1 =>
   have H := HA.o
   clear HA
   simp only [impl_reached.l0] at H
   by_cases c6 : x4_1 < (x3_1.length : Int)
   ·rw [if_pos c6] at H
    have c6b0 : decide (x4_1 < (x3_1.length : Int)) = true := dT c6
    clear c6
    obtain ⟨c7, H⟩ := ifS H
    have c7b0 : decide (0 ≤ x4_1) = true := dT c7
    clear c7
    obtain ⟨c8, H⟩ := ifS H
    have c8b0 : decide (0 < ((rd_L4 x3_1 x4_1).length : Int)) = true := dT c8
    have c8b1 : decide (0 < (rd_L4 x3_1 x4_1).length) = true := dT (by omega)
    clear c8
    obtain ⟨c9, H⟩ := ifS H
    have c9b0 : decide (1 < ((rd_L4 x3_1 x4_1).length : Int)) = true := dT c9
    have c9b1 : decide (1 < (rd_L4 x3_1 x4_1).length) = true := dT (by omega)
    clear c9
    obtain ⟨t378, A10, H⟩ := bindS H
    have H' := aM H
    clear H
    obtain ⟨Ao11, co11, eo11⟩ := Kd.S_slice HO_3.o
    subst eo11
    try go_wp2
    replace HO_3 := aM (Kd.S_drew HO_3.o)
    replace HB := aM (below_drew1 HB.o)
    have p374 : 0 ≤ (x4_1 : Int) := zD
    have q374 : x4_1 < (x3_1.length : Int) := zD
    obtain ⟨ad374, A374_0, c374_0, e374, hx374_0, hl374_0, hi374_0⟩ := at_L4 (Kd.S_reads' HO_3.o).2.2 x4_1 p374 q374
    cases e374
    have HR374_0 := aM hi374_0
    have HC374_0 := aM hl374_0
    clear hi374_0 hl374_0
    replace p374 := eq_true p374
    replace q374 := eq_true q374
    have p375 : 0 ≤ (0 : Int) := (by omega)
    have q375 : 0 < ((rd_L4 x3_1 x4_1).length : Int) := zD
    obtain ⟨ad375, e375, hx375_0⟩ := Kd.at_int (by repeat (first | (with_reducible exact HR374_0.o) | (with_reducible refine qA ?_ _) | (with_reducible refine qN ?_ _) | (with_reducible refine qD ?_) | exact HR374_0.o)) 0 p375 q375
    cases e375
    have qi375 : (0 < (rd_L4 x3_1 x4_1).length) = True := eq_true (by omega)
    (try rw [show ((0 : Int)).toNat = 0 from rfl] at hx375_0)
    (try rw [Addr.add_zero'] at hx375_0)
    replace p375 := eq_true p375
    replace q375 := eq_true q375
    have p376 : 0 ≤ (x4_1 : Int) := zD
    have q376 : x4_1 < (x3_1.length : Int) := zD
    obtain ⟨ad376, A376_0, c376_0, e376, hx376_0, hl376_0, hi376_0⟩ := at_L4 (Kd.S_reads' HO_3.o).2.2 x4_1 p376 q376
    obtain rfl : ad374 = ad376 := (by injection e376)
    have HR376_0 := aM hi376_0
    have HC376_0 := aM hl376_0
    clear hi376_0 hl376_0
    replace p376 := eq_true p376
    replace q376 := eq_true q376
    have ea_ := oI (hx374_0.symm.trans hx376_0)
    injection ea_ with ea_ en_ ec_
    subst ea_
    subst ec_
    clear en_
    have p377 : 0 ≤ (1 : Int) := (by omega)
    have q377 : 1 < ((rd_L4 x3_1 x4_1).length : Int) := zD
    obtain ⟨ad377, e377, hx377_0⟩ := Kd.at_int (by repeat (first | (with_reducible exact HR376_0.o) | (with_reducible refine qA ?_ _) | (with_reducible refine qN ?_ _) | (with_reducible refine qD ?_) | exact HR376_0.o)) 1 p377 q377
    cases e377
    (try simp only [show (1 : Int).toNat = 1 from rfl, Nat.reduceMul, Nat.reduceEqDiff, Go.Addr.add, ↓reduceIte] at hx377_0)
    have qi377 : (1 < (rd_L4 x3_1 x4_1).length) = True := eq_true (by omega)
    (try rw [show ((1 : Int)).toNat = 1 from rfl] at hx377_0)
    replace p377 := eq_true p377
    replace q377 := eq_true q377
    refine start_ (n := 16) (S := fun w' => w'.cell? (ad374.add (x4_1).toNat) = some (.slice (some ad375) (rd_L4 x3_1 x4_1).length c374_0) ∧ w'.cell? ad375 = some (.int .i64 (rd (rd_L4 x3_1 x4_1) 0)) ∧ w'.cell? (ad374.add (x4_1).toNat) = some (.slice (some ad375) (rd_L4 x3_1 x4_1).length c374_0) ∧ w'.cell? ⟨ad375.block, ad375.off + 1, none⟩ = some (.int .i64 (rd (rd_L4 x3_1 x4_1) 1))) (ds := []) (bm 16 0) (by kernel_rfl) rfl (bm0 _) ⟨hx374_0, hx375_0, hx376_0, hx377_0⟩ (fun hK4 => ?_); refine with_tabW impl_reached.tab5 impl_reached.bits5 (fun HT_ HW_ => ?_)
    generalize wr.drew = w12 at HO_3 HB HR374_0 HR376_0 hx374_0 hx375_0 hx376_0 hx377_0 hK4 ⊢
    refine pW 0 15 16 1 HT_ rfl rfl ?_
    refine pW 1 16 16 3 HT_ rfl rfl ?_
    refine pW 2 17 16 7 HT_ rfl rfl ?_
    refine pW 3 18 16 15 HT_ rfl rfl ?_
    refine pW 7 22 16 143 HT_ rfl rfl ?_
    refine pW 8 23 16 399 HT_ rfl rfl ?_
    refine pW 9 24 16 911 HT_ rfl rfl ?_
    refine pW 15 30 16 33679 HT_ rfl rfl ?_
    refine tW 4 19 16 33695 HT_ HW_ rfl rfl hK4 ?_
    refine pW 5 20 16 33727 HT_ rfl rfl ?_
    refine tW 6 21 16 33791 HT_ HW_ rfl rfl hK4 ?_
    refine tW 10 25 16 34815 HT_ HW_ rfl rfl hK4 ?_
    refine pW 11 26 16 36863 HT_ rfl rfl ?_
    refine tW 12 27 16 40959 HT_ HW_ rfl rfl hK4 ?_
    refine one_ (i := 13) (N := some 28) (bm 16 49151) rfl rfl (one_of HT_.o (by kernel_rfl)) (by decide) (fun K hK => ?_)
    refine goesVs_ HF_.o HN_.o HBO_.o #[.int .i64 (rd (rd_L4 x3_1 x4_1) 0), .int .i64 (rd (rd_L4 x3_1 x4_1) 1)] (by rfl) rfl rfl rfl zG ?_
    with_reducible refine (HKEEP_.o k1 (rd (rd_L4 x3_1 x4_1) 0) (rd (rd_L4 x3_1 x4_1) 1) t378 _ ?sideK_ A10.o).mono ?_
    (case sideK_ => repeat (first | (with_reducible first | exact HB.o | apply below_alloc | apply pw_below_drewN | apply below_drew1 | (refine below_set ?_ GE382.o)) | exact HB.o))
    rintro e w13 ⟨v379, rfl, ho0, hb⟩
    have HS0_ := (hb.cell (wL _ _ (hK4.1))).trans (hK4.1)
    have HS1_ := (hb.cell (wL _ _ (hK4.2.1))).trans (hK4.2.1)
    have HS2_ := (hb.cell (wL _ _ (hK4.2.2.1))).trans (hK4.2.2.1)
    have HS3_ := (hb.cell (wL _ _ (hK4.2.2.2))).trans (hK4.2.2.2)
    refine ⟨_, rfl, ?_⟩
    obtain ⟨Ao14, co14, eo14⟩ := Kd.S_slice ho0
    subst eo14
    obtain ⟨f_, hR_⟩ := Kd.S_bound ho0
    obtain ⟨N1, hN1⟩ : ∃ N1 : Nat, N1 = w12.heap.size := ⟨_, rfl⟩
    obtain ⟨N2, hN2⟩ : ∃ N2 : Nat, N2 = w13.heap.size := ⟨_, rfl⟩
    have HOW : Aside0 (∀ k_, (.slice (some ad374) x3_1.length co11 : Value).ownBlock = some k_ → ¬ (N1 ≤ k_ ∧ k_ < N2)) := aM (fun k_ hk_ => by have h1_ := Kd.S_lt HO_3.o k_ hk_; rw [hN1]; omega)
    replace HO_3 := aM (Kd.S_mono (ok' := fun k_ => ¬ ((N1 ≤ k_ ∧ k_ < N2) ∧ (some k_ = (.slice Ao14 t378.length co14 : Value).ownBlock ∨ (0 : Int) ≤ (f_ k_ : Int)))) (Kd.S_old HO_3.o hb) (fun k_ hk_ => by have h1_ := hk_.2; rw [hN1]; omega))
    have HQ := aM (rO (rM (ok' := fun k_ => N1 ≤ k_ ∧ k_ < N2) hR_ (fun k_ hk_ => by have h1_ := hk_.2.1; have h2_ := hk_.2.2.1; rw [hN1, hN2]; exact ⟨h1_, h2_⟩)) (bZ (zB HB)))
    replace HR374_0 := aM (Kd.C_below (by repeat (first | (with_reducible exact HR374_0.o) | (with_reducible refine qA ?_ _) | (with_reducible refine qN ?_ _) | (with_reducible refine qD ?_) | exact HR374_0.o)) hb)
    replace HR376_0 := aM (Kd.C_below (by repeat (first | (with_reducible exact HR376_0.o) | (with_reducible refine qA ?_ _) | (with_reducible refine qN ?_ _) | (with_reducible refine qD ?_) | exact HR376_0.o)) hb)
    replace HB := bS HB hb
    have HN2 := aM (Nat.le_of_eq hN2)
    clear hb ho0 hR_ hN1 hN2
    refine hK.out _ _ ⟨HS0_, HS1_, HS2_, HS3_⟩ (fun hK4 => ?_)
    clear hK K
    refine nU 28 ?_
    refine pW 14 29 16 65535 HT_ rfl rfl ?_
    refine done_ (done_of HT_.o (by kernel_rfl)) ?_
    try clear hK4
    try clear hK4
    try go_wp2
    go_loopg [3, 30] k1 (fun kq v3 v30 w' => ∃ (x3_2 : List (List Int)) (x30_2 : Int), v30 = .int .i64 x30_2 ∧ Aside0 (impl_reached.l1 kq x3_2 x4_1 t378 (t378.length : Int) x30_2 = some r) ∧ Aside0 (kq ≤ k1) ∧ Aside0 (Kd.S (Kd.slice 3 (Kd.int .i64)) 31 w' w.heap.size (fun k_ => ¬ ((N1 ≤ k_ ∧ k_ < N2) ∧ (some k_ = (.slice Ao14 t378.length co14 : Value).ownBlock ∨ x30_2 ≤ (f_ k_ : Int)))) v3 x3_2) ∧ Aside0 (∀ k_, (v3 : Value).ownBlock = some k_ → ¬ (N1 ≤ k_ ∧ k_ < N2)) ∧ Aside0 ((Kd.tag f_ (Kd.slice 3 (Kd.int .i64))).R 31 w' w.heap.size (fun k_ => N1 ≤ k_ ∧ k_ < N2) (.slice Ao14 t378.length co14) t378.zipIdx) ∧ Aside0 (N2 ≤ w'.heap.size) ∧ Aside0 (Below w.heap.size w w'))
    case atStart => exact ⟨(x3_1), (0), zF, H', ⟨Nat.le_refl _⟩, ⟨zS HO_3⟩, HOW, ⟨zR HQ⟩, HN2, ⟨zB HB⟩⟩
    case round =>
     clear H'
     try clear c1
     try clear p2
     try clear c3
     try clear p3
     try clear q3
     try clear hx3
     try clear qi3
     try clear c4
     try clear c6
     try clear c6b0
     try clear c7
     try clear c7b0
     try clear c8
     try clear c8b0
     try clear c8b1
     try clear c9
     try clear c9b0
     try clear c9b1
     try clear c10
     try clear hx374_0
     try clear hx375_0
     try clear hx376_0
     try clear hx377_0
     try clear p2
     try clear p374
     try clear p375
     try clear p376
     try clear p377
     try clear q374
     try clear q375
     try clear q376
     try clear q377
     obtain ⟨x3_2, x30_2, rfl, HA, HK2, HO_3, HOW, HQ, HN2, HB⟩ := hrel
     cases gk with
     | zero => exact absurd HA.o (by simp [impl_reached.l1])
     | succ k2 =>
      have H := HA.o
      clear HA
      simp only [impl_reached.l1] at H
      by_cases c15 : x30_2 < (t378.length : Int)
      ·rw [if_pos c15] at H
       have c15b0 : decide (x30_2 < (t378.length : Int)) = true := dT c15
       clear c15
       obtain ⟨c16, H⟩ := ifS H
       have c16b0 : decide (0 ≤ x30_2) = true := dT c16
       clear c16
       obtain ⟨c17, H⟩ := ifS H
       have c17b0 : decide (x30_2 < (t378.length : Int)) = true := dT c17
       clear c17
       obtain ⟨t383, A18, H⟩ := bindS H
       by_cases c19 : t383 = true
       ·subst c19
        have H1 : (impl_reached.l1 k2 x3_2 x4_1 t378 (t378.length : Int) (wrap64 (x30_2 + 1))) = some r := by rw [if_pos rfl] at H; exact H
        clear H
        have H := H1
        clear H1
        have H' := aM H
        clear H
        have hLT_ : Aside0 (x30_2 < (t378.length : Int) ∧ t378.length ≤ 9223372036854775807 ∧ 0 ≤ x30_2) := aM ⟨zD, by have h1_ := (rQ HQ.o).2.2.2.1; rw [List.length_zipIdx] at h1_; exact h1_, zD⟩
        have p381 : 0 ≤ (x30_2 : Int) := zD
        have q381 : x30_2 < (t378.length : Int) := zD
        obtain ⟨ad381, A381_0, c381_0, e381, hx381_0, hl381_0, hi381_0⟩ := at_L4 (Kd.S_reads' (show Kd.S _ _ _ _ _ _ _ from ⟨f_, HQ.o⟩)).2.2 x30_2 p381 q381
        cases e381
        have hE_ := impl_reached.elem HQ.o x30_2 p381 (by first | exact q381 | (have e_ := (rQ HQ.o).1; rw [List.length_zipIdx] at e_; omega)) hx381_0
        have HE := aM hE_
        clear hE_
        have P0_ := aM p381
        have hw_ : wrap64 (x30_2 + 1) = x30_2 + 1 := by have h1_ := hLT_.o; unfold wrap64; omega
        rw [hw_] at H'
        clear hw_
        have HR381_0 := aM hi381_0
        have HC381_0 := aM hl381_0
        clear hi381_0 hl381_0
        replace p381 := eq_true p381
        replace q381 := eq_true q381
        go_wp2_with (first | ((with_reducible refine gD (N := 6) rfl ?_); refine box_event ?hg (N := 6) ?hd (cs := #[.slice none 0 0]) (t := 31) ?hr ?_; (case hd => rfl); (case hg => rfl); (case hr => first | (go_simp; done) | (go_simp; rfl)); intro gb382 hg w20 hbox hb; replace HO_3 := aM (Kd.S_below (Kd.S_elderB (zS HO_3) gb382 (Nat.le_of_eq hg.symm)) hb); replace HQ := aM (rW (Kd.R_elderB (zR HQ) gb382 (Nat.le_of_eq hg.symm)) hb); replace HE := aM (rW (Kd.R_elderB (zR HE) gb382 (Nat.le_of_eq hg.symm)) hb); replace HN2 := aM (Nat.le_trans HN2.o hb.size); have BK382 := aM (hbox); have GE382 := gS HB hg; replace HB := bS HB hb; clear hb hbox hg; obtain ⟨z21_0, f21_0⟩ := bq1 BK382) | ((with_reducible refine gate_store (t := 31) (p := 6) rfl ?_); refine store_event (t := 31) (p := 6) (v := ?vo_w22) (w1 := (w20.setCell ⟨gb382, 0, none⟩ (.slice A381_0 (rd_L4 t378 x30_2).length c381_0))) ?hg ?ho ?hn ?hr ?_; (case ho => rfl); (case hg => rfl); (case hn => rfl); (case hr => first | (go_simp; done) | (go_simp; rfl)); intro w22 hw; replace HO_3 : Aside0 (Kd.S (Kd.slice 3 (Kd.int .i64)) 31 w22 w.heap.size (fun k_ => ¬ ((N1 ≤ k_ ∧ k_ < N2) ∧ (some k_ = (.slice (some ad381) t378.length co14 : Value).ownBlock ∨ x30_2 ≤ (f_ k_ : Int)))) u3 x3_2) := ⟨(by rw [hw]; exact (Kd.S_mono (Kd.S_far (p := ⟨gb382, 0, none⟩) HO_3.o (fun _ hk => hk.2) (.slice A381_0 (rd_L4 t378 x30_2).length c381_0)) (fun _ hk => hk.1)))⟩; replace HQ : Aside0 ((Kd.tag f_ (Kd.slice 3 (Kd.int .i64))).R 31 w22 w.heap.size (fun k_ => N1 ≤ k_ ∧ k_ < N2) (.slice (some ad381) t378.length co14) t378.zipIdx) := ⟨(by rw [hw]; exact (rM (Kd.R_far (p := ⟨gb382, 0, none⟩) HQ.o (fun _ hk => hk.2) (.slice A381_0 (rd_L4 t378 x30_2).length c381_0)) (fun _ hk => hk.1)))⟩; replace HE : Aside0 (Kd.R (Kd.int .i64) 3 w22 w.heap.size (fun k_ => ((N1 ≤ k_ ∧ k_ < N2) ∧ some k_ ≠ (.slice (some ad381) t378.length co14 : Value).ownBlock) ∧ f_ k_ = x30_2.toNat) (.slice A381_0 (rd_L4 t378 x30_2).length c381_0) (rd_L4 t378 x30_2)) := ⟨(by rw [hw]; exact (rM (Kd.R_far (p := ⟨gb382, 0, none⟩) HE.o (fun _ hk => hk.2) (.slice A381_0 (rd_L4 t378 x30_2).length c381_0)) (fun _ hk => hk.1)))⟩; replace BK382 : Aside0 (w22.heap[gb382]? = some (.cells #[.slice A381_0 (rd_L4 t378 x30_2).length c381_0] 31 (0, 0))) := ⟨(by rw [hw]; refine bP (cs := #[.slice none 0 0]) ?_ 0 _ rfl; exact BK382.o)⟩; replace HB : Aside0 (Below w.heap.size w w22) := ⟨(by rw [hw]; exact (zB HB))⟩; replace HN2 : Aside0 (N2 ≤ w22.heap.size) := ⟨(by rw [hw, World.size_setCell]; exact HN2.o)⟩; clear hw; obtain ⟨Ao23, co23, eo23⟩ := Kd.S_slice HO_3.o; subst eo23) | ((with_reducible refine gC (f := 39) rfl ?_); refine goesL_ (some 36) rfl rfl Try.func39 (by kernel_rfl) rfl #[.slice Ao23 x3_2.length co23, .func (.func 40) #[] #[.pointer (some ⟨gb382, 0, none⟩)]] rfl zG ?_; (with_reducible refine (impl_reached_any.calls _ _ x3_2 A381_0 c381_0 (rd_L4 t378 x30_2) true _ ?s1 ?s2 ?s3 ?s4 ?s5 A18.o).mono ?_); (case s1 => exact (Kd.S_reads' (zS HO_3)).2.2); (case s2 => exact (Kd.S_reads' HO_3.o).2.1); (case s3 => exact (rQ (zR HE)).2.2); (case s4 => exact HC381_0.o); (case s5 => exact (fun h_ => h_) (zK BK382)); rintro e w24 ⟨rfl, hb⟩; refine ⟨_, rfl, ?_⟩; replace HO_3 := aM (Kd.S_below (zS HO_3) hb); replace HQ := aM (rW (zR HQ) hb); replace HE := aM (rW (zR HE) hb); replace BK382 := kB BK382 hb; replace HB := bS HB hb; replace HN2 := aM (Nat.le_trans HN2.o hb.size); (try clear hb); obtain ⟨z31_0, f31_0⟩ := bq1 BK382))
        go_roundg k2
        case measure => have := HK1.o; have := HK2.o; omega
        case rel => exact ⟨(x3_2), (x30_2 + 1), (by have h1_ := hLT_.o; rw [show wrap64 (x30_2 + 1) = x30_2 + 1 from by unfold wrap64; omega]), H', ⟨by have := HK1.o; have := HK2.o; omega⟩, ⟨Kd.S_mono HO_3.o (fun k_ hk_ hn_ => hk_ ⟨hn_.1, hn_.2.elim .inl (fun h_ => .inr (by omega))⟩)⟩, HOW, ⟨zR HQ⟩, HN2, ⟨zB HB⟩⟩
       ·replace c19 := Bool.eq_false_iff.mpr c19
        subst c19
        have H1 : (if x3_2.length < 5864062014805 then (impl_reached.l1 k2 (x3_2 ++ [rd_L4 t378 x30_2]) x4_1 t378 (t378.length : Int) (wrap64 (x30_2 + 1))) else (none)) = some r := by rw [if_neg (show ¬ (false = true) by decide)] at H; exact H
        clear H
        have H := H1
        clear H1
        obtain ⟨c25, H⟩ := ifS H
        have LMc25 := aM c25
        clear c25
        obtain ⟨y384, hy384⟩ : ∃ y_ : List (List Int), y_ = (x3_2 ++ [rd_L4 t378 x30_2]) := ⟨_, rfl⟩
        replace H : (impl_reached.l1 k2 y384 x4_1 t378 (t378.length : Int) (wrap64 (x30_2 + 1))) = some r := by first | (rw [hy384]; with_reducible exact H) | (rw [hy384]; exact H) | exact H
        have Ny384 := aM hy384
        clear hy384
        have H' := aM H
        clear H
        have hLT_ : Aside0 (x30_2 < (t378.length : Int) ∧ t378.length ≤ 9223372036854775807 ∧ 0 ≤ x30_2) := aM ⟨zD, by have h1_ := (rQ HQ.o).2.2.2.1; rw [List.length_zipIdx] at h1_; exact h1_, zD⟩
        have p381 : 0 ≤ (x30_2 : Int) := zD
        have q381 : x30_2 < (t378.length : Int) := zD
        obtain ⟨ad381, A381_0, c381_0, e381, hx381_0, hl381_0, hi381_0⟩ := at_L4 (Kd.S_reads' (show Kd.S _ _ _ _ _ _ _ from ⟨f_, HQ.o⟩)).2.2 x30_2 p381 q381
        cases e381
        have hE_ := impl_reached.elem HQ.o x30_2 p381 (by first | exact q381 | (have e_ := (rQ HQ.o).1; rw [List.length_zipIdx] at e_; omega)) hx381_0
        have HE := aM hE_
        clear hE_
        have P0_ := aM p381
        have hw_ : wrap64 (x30_2 + 1) = x30_2 + 1 := by have h1_ := hLT_.o; unfold wrap64; omega
        rw [hw_] at H'
        clear hw_
        have HR381_0 := aM hi381_0
        have HC381_0 := aM hl381_0
        clear hi381_0 hl381_0
        replace p381 := eq_true p381
        replace q381 := eq_true q381
        go_wp2_with (first | ((with_reducible refine gD (N := 6) rfl ?_); refine box_event ?hg (N := 6) ?hd (cs := #[.slice none 0 0]) (t := 31) ?hr ?_; (case hd => rfl); (case hg => rfl); (case hr => first | (go_simp; done) | (go_simp; rfl)); intro gb382 hg w20 hbox hb; replace HO_3 := aM (Kd.S_below (Kd.S_elderB (zS HO_3) gb382 (Nat.le_of_eq hg.symm)) hb); replace HQ := aM (rW (Kd.R_elderB (zR HQ) gb382 (Nat.le_of_eq hg.symm)) hb); replace HE := aM (rW (Kd.R_elderB (zR HE) gb382 (Nat.le_of_eq hg.symm)) hb); replace HN2 := aM (Nat.le_trans HN2.o hb.size); have BK382 := aM (hbox); have GE382 := gS HB hg; replace HB := bS HB hb; clear hb hbox hg; obtain ⟨z21_0, f21_0⟩ := bq1 BK382) | ((with_reducible refine gate_store (t := 31) (p := 6) rfl ?_); refine store_event (t := 31) (p := 6) (v := ?vo_w22) (w1 := (w20.setCell ⟨gb382, 0, none⟩ (.slice A381_0 (rd_L4 t378 x30_2).length c381_0))) ?hg ?ho ?hn ?hr ?_; (case ho => rfl); (case hg => rfl); (case hn => rfl); (case hr => first | (go_simp; done) | (go_simp; rfl)); intro w22 hw; replace HO_3 : Aside0 (Kd.S (Kd.slice 3 (Kd.int .i64)) 31 w22 w.heap.size (fun k_ => ¬ ((N1 ≤ k_ ∧ k_ < N2) ∧ (some k_ = (.slice (some ad381) t378.length co14 : Value).ownBlock ∨ x30_2 ≤ (f_ k_ : Int)))) u3 x3_2) := ⟨(by rw [hw]; exact (Kd.S_mono (Kd.S_far (p := ⟨gb382, 0, none⟩) HO_3.o (fun _ hk => hk.2) (.slice A381_0 (rd_L4 t378 x30_2).length c381_0)) (fun _ hk => hk.1)))⟩; replace HQ : Aside0 ((Kd.tag f_ (Kd.slice 3 (Kd.int .i64))).R 31 w22 w.heap.size (fun k_ => N1 ≤ k_ ∧ k_ < N2) (.slice (some ad381) t378.length co14) t378.zipIdx) := ⟨(by rw [hw]; exact (rM (Kd.R_far (p := ⟨gb382, 0, none⟩) HQ.o (fun _ hk => hk.2) (.slice A381_0 (rd_L4 t378 x30_2).length c381_0)) (fun _ hk => hk.1)))⟩; replace HE : Aside0 (Kd.R (Kd.int .i64) 3 w22 w.heap.size (fun k_ => ((N1 ≤ k_ ∧ k_ < N2) ∧ some k_ ≠ (.slice (some ad381) t378.length co14 : Value).ownBlock) ∧ f_ k_ = x30_2.toNat) (.slice A381_0 (rd_L4 t378 x30_2).length c381_0) (rd_L4 t378 x30_2)) := ⟨(by rw [hw]; exact (rM (Kd.R_far (p := ⟨gb382, 0, none⟩) HE.o (fun _ hk => hk.2) (.slice A381_0 (rd_L4 t378 x30_2).length c381_0)) (fun _ hk => hk.1)))⟩; replace BK382 : Aside0 (w22.heap[gb382]? = some (.cells #[.slice A381_0 (rd_L4 t378 x30_2).length c381_0] 31 (0, 0))) := ⟨(by rw [hw]; refine bP (cs := #[.slice none 0 0]) ?_ 0 _ rfl; exact BK382.o)⟩; replace HB : Aside0 (Below w.heap.size w w22) := ⟨(by rw [hw]; exact (zB HB))⟩; replace HN2 : Aside0 (N2 ≤ w22.heap.size) := ⟨(by rw [hw, World.size_setCell]; exact HN2.o)⟩; clear hw; obtain ⟨Ao23, co23, eo23⟩ := Kd.S_slice HO_3.o; subst eo23) | ((with_reducible refine gC (f := 39) rfl ?_); refine goesL_ (some 36) rfl rfl Try.func39 (by kernel_rfl) rfl #[.slice Ao23 x3_2.length co23, .func (.func 40) #[] #[.pointer (some ⟨gb382, 0, none⟩)]] rfl zG ?_; (with_reducible refine (impl_reached_any.calls _ _ x3_2 A381_0 c381_0 (rd_L4 t378 x30_2) false _ ?s1 ?s2 ?s3 ?s4 ?s5 A18.o).mono ?_); (case s1 => exact (Kd.S_reads' (zS HO_3)).2.2); (case s2 => exact (Kd.S_reads' HO_3.o).2.1); (case s3 => exact (rQ (zR HE)).2.2); (case s4 => exact HC381_0.o); (case s5 => exact (fun h_ => h_) (zK BK382)); rintro e w24 ⟨rfl, hb⟩; refine ⟨_, rfl, ?_⟩; replace HO_3 := aM (Kd.S_below (zS HO_3) hb); replace HQ := aM (rW (zR HQ) hb); replace HE := aM (rW (zR HE) hb); replace BK382 := kB BK382 hb; replace HB := bS HB hb; replace HN2 := aM (Nat.le_trans HN2.o hb.size); (try clear hb); obtain ⟨z31_0, f31_0⟩ := bq1 BK382) | ((with_reducible refine gate_builtin (b := .append) (xs := #[.tmp 38, .tmp 40]) rfl ?_); at_builtin; refine Kd.S_append (Kd.slice 3 (Kd.int .i64)) (w0 := w) w.heap.size rfl (.tmp 38) (.tmp 40) 33 31 (.slice none 0 0) 24 rfl Try.underlying33 info31 rfl (by decide) (by omega) (.slice Ao23 x3_2.length co23) x3_2 (rd_L4 t378 x30_2) [.slice A381_0 (rd_L4 t378 x30_2).length c381_0] (fun k_ => ¬ ((N1 ≤ k_ ∧ k_ < N2) ∧ (some k_ = (.slice (some ad381) t378.length co14 : Value).ownBlock ∨ x30_2 + 1 ≤ (f_ k_ : Int)))) (fun k_ => ((N1 ≤ k_ ∧ k_ < N2) ∧ some k_ ≠ (.slice (some ad381) t378.length co14 : Value).ownBlock) ∧ f_ k_ = x30_2.toNat) rfl rfl ?aP ?aK ?aF ?aO ?aB ?aS ?aL ?_; (case aP => exact ⟨_, rfl, zR HE⟩); (case aK => exact fun k_ hk_ => ⟨fun hn_ => hn_.2.elim (fun e_ => hk_.1.2 e_) (fun h_ => by have h2_ := hk_.2; have h3_ := P0_.o; omega), fun e_ => HOW.o k_ e_.symm hk_.1.1⟩); (case aF => exact fun k_ hk_ hn_ => by have h1_ := hn_.1.2; have h2_ := HN2.o; omega); (case aO => exact Kd.S_mono HO_3.o (fun k_ hk_ => ⟨fun hn_ => hk_ ⟨hn_.1, hn_.2.elim .inl (fun h_ => .inr (by omega))⟩, fun he_ => hk_ ⟨he_.1.1, .inr (by have h2_ := he_.2; have h3_ := P0_.o; omega)⟩⟩)); (case aB => exact (zB HB)); (case aS => exact (bZ (zB HB))); (case aL => have := LMc25.o; omega); intro v385 w32 ho hb hg hat; rw [← Ny384.o] at ho; replace HQ := aM (Kd.R_grown HQ.o hg (fun k_ hk_ e_ => HOW.o k_ e_.symm hk_)); replace HOW : Aside0 (∀ k_, (v385 : Value).ownBlock = some k_ → ¬ (N1 ≤ k_ ∧ k_ < N2)) := aM (fun k_ hk_ => Or.elim hat (fun h_ => HOW.o k_ (h_.symm.trans hk_)) (fun h_ => by (obtain ⟨b_, hb_, hle_⟩ := h_; rw [hb_] at hk_; have h1_ := oI hk_; have h2_ := HN2.o; omega))); replace HB := aM (hb); have HO386 := aM (ho); replace HN2 : Aside0 (N2 ≤ w32.heap.size) := aM (Nat.le_trans HN2.o hg.size); clear HE BK382 HO_3; clear ho hb hg hat))
        go_roundg k2
        case measure => have := HK1.o; have := HK2.o; omega
        case rel => exact ⟨(y384), (x30_2 + 1), (by have h1_ := hLT_.o; rw [show wrap64 (x30_2 + 1) = x30_2 + 1 from by unfold wrap64; omega]), H', ⟨by have := HK1.o; have := HK2.o; omega⟩, ⟨zS HO386⟩, HOW, ⟨zR HQ⟩, HN2, ⟨zB HB⟩⟩
      ·rw [if_neg c15] at H
       have c15b0 : decide (x30_2 < (t378.length : Int)) = false := decide_eq_false c15
       clear c15
       have H' := aM H
       clear H
       go_wp2
       go_roundg k2
       case measure => have := HK1.o; have := HK2.o; omega
       case rel => exact ⟨(x3_2), (wrap64 (x4_1 + 1)), zF, H', ⟨by have := HK1.o; have := HK2.o; omega⟩, ⟨Kd.S_mono HO_3.o (fun _ _ => trivial)⟩, ⟨zB HB⟩⟩
   ·rw [if_neg c6] at H
    have c6b0 : decide (x4_1 < (x3_1.length : Int)) = false := decide_eq_false c6
    clear c6
    obtain rfl := oI H
    obtain ⟨Ao33, co33, eo33⟩ := Kd.S_slice HO_3.o
    subst eo33
    go_wp2
    go_ret
    exact ⟨_, zE, zS HO_3, zB HB⟩

end

/-! ### impl_PairsOf_reach: functions 20 and 21 (by hand) -/
set_option maxRecDepth 100000 in
theorem impl_PairsOf_reach.lit (k : Nat) (x y : Int) (a0_0 : Int) (A0_1 : Option Addr) (c0_1 : Nat) (l0_1 : List Bool) (A0_2 : Option Addr) (c0_2 : Nat) (l0_2 : List (S46)) (a1_0 : Int) (A1_1 : Option Addr) (c1_1 : Nat) (l1_1 : List Bool) (A1_2 : Option Addr) (c1_2 : Nat) (l1_2 : List (S46)) (r : List (List Int)) (W : World) (hr0_1 : Kd.C Kd.bool W A0_1 l0_1.length l0_1) (hc0_1 : l0_1.length ≤ c0_1) (hr0_2 : Kd.C k46 W A0_2 l0_2.length l0_2) (hc0_2 : l0_2.length ≤ c0_2) (hr1_1 : Kd.C Kd.bool W A1_1 l1_1.length l1_1) (hc1_1 : l1_1.length ≤ c1_1) (hr1_2 : Kd.C k46 W A1_2 l1_2.length l1_2) (hc1_2 : l1_2.length ≤ c1_2) {B0_ B1_ : Nat} (hB0_ : W.heap[B0_]? = some (.cells #[.int .i64 a0_0, .slice A0_1 l0_1.length c0_1, .slice A0_2 l0_2.length c0_2] 27 (0, 0))) (hB1_ : W.heap[B1_]? = some (.cells #[.int .i64 a1_0, .slice A1_1 l1_1.length c1_1, .slice A1_2 l1_2.length c1_2] 27 (0, 0))) (h : impl_NextPairs.f k a0_0 l0_1 l0_2 a1_0 l1_1 l1_2 x y = some r) :
  Calls Try.prog 21 #[.int .i64 x, .int .i64 y, .pointer (some ⟨B0_, 0, none⟩), .pointer (some ⟨B1_, 0, none⟩)] W fun e w' => ∃ v0_ : Value, e = .returned (v0_) ∧ Kd.S (Kd.slice 3 (Kd.int .i64)) 31 w' W.heap.size (fun _ => True) v0_ r ∧ Below W.heap.size W w' := by
 have hcl0_0 : W.cell? ⟨B0_, 0, none⟩ = some (.int .i64 a0_0) := (blk_cell hB0_ 0).trans rfl
 have hcl0_1 : W.cell? ⟨B0_, 1, none⟩ = some (.slice A0_1 l0_1.length c0_1) := (blk_cell hB0_ 1).trans rfl
 have hcl0_2 : W.cell? ⟨B0_, 2, none⟩ = some (.slice A0_2 l0_2.length c0_2) := (blk_cell hB0_ 2).trans rfl
 have hbk0_ := blk_lt hB0_
 have hcl1_0 : W.cell? ⟨B1_, 0, none⟩ = some (.int .i64 a1_0) := (blk_cell hB1_ 0).trans rfl
 have hcl1_1 : W.cell? ⟨B1_, 1, none⟩ = some (.slice A1_1 l1_1.length c1_1) := (blk_cell hB1_ 1).trans rfl
 have hcl1_2 : W.cell? ⟨B1_, 2, none⟩ = some (.slice A1_2 l1_2.length c1_2) := (blk_cell hB1_ 2).trans rfl
 have hbk1_ := blk_lt hB1_
 have hu27 := Try.underlying27
 have HX := aM (impl_NextPairs.calls k a0_0 A0_1 c0_1 l0_1 A0_2 c0_2 l0_2 a1_0 A1_1 c1_1 l1_1 A1_2 c1_2 l1_2 x y r W hr0_1 hc0_1 hr0_2 hc0_2 hr1_1 hc1_1 hr1_2 hc1_2 h)
 clear h hr0_1 hc0_1 hr0_2 hc0_2 hr1_1 hc1_1 hr1_2 hc1_2
 go_enter Try.func21, Try.ntmps21
 go_wp2_with (go_at_call 14; refine HX.o.mono ?_; rintro e w' ⟨v_, rfl, hs, hb⟩)
 go_ret
 exact ⟨v_, rfl, hs, hb⟩
def impl_PairsOf_reach.f (k : Nat) (a0_0 : Int) (l0_1 : List Bool) (l0_2 : List (S46)) (a1_0 : Int) (l1_1 : List Bool) (l1_2 : List (S46)) : Option (List (List Int)) := impl_reached.f (inst_ := ⟨fun k_ x_ y_ => impl_NextPairs.f k_ a0_0 l0_1 l0_2 a1_0 l1_1 l1_2 x_ y_, fun x_ y_ k_ => impl_NextPairs.mono a0_0 l0_1 l0_2 a1_0 l1_1 l1_2 x_ y_ k_⟩) k
theorem impl_PairsOf_reach.mono : ∀ y0 y1 y2 y3 y4 y5 k, LeO (impl_PairsOf_reach.f k y0 y1 y2 y3 y4 y5) (impl_PairsOf_reach.f (k + 1) y0 y1 y2 y3 y4 y5) := fun y0 y1 y2 y3 y4 y5 => impl_reached.mono (inst_ := ⟨fun k_ x_ y_ => impl_NextPairs.f k_ y0 y1 y2 y3 y4 y5 x_ y_, fun x_ y_ k_ => impl_NextPairs.mono y0 y1 y2 y3 y4 y5 x_ y_ k_⟩)
theorem impl_PairsOf_reach.calls (k : Nat) (a0_0 : Int) (A0_1 : Option Addr) (c0_1 : Nat) (l0_1 : List Bool) (A0_2 : Option Addr) (c0_2 : Nat) (l0_2 : List (S46)) (a1_0 : Int) (A1_1 : Option Addr) (c1_1 : Nat) (l1_1 : List Bool) (A1_2 : Option Addr) (c1_2 : Nat) (l1_2 : List (S46)) (r : List (List Int)) (w : World) (hr0_1 : Kd.C Kd.bool w A0_1 l0_1.length l0_1) (hc0_1 : l0_1.length ≤ c0_1) (hr0_2 : Kd.C k46 w A0_2 l0_2.length l0_2) (hc0_2 : l0_2.length ≤ c0_2) (hr1_1 : Kd.C Kd.bool w A1_1 l1_1.length l1_1) (hc1_1 : l1_1.length ≤ c1_1) (hr1_2 : Kd.C k46 w A1_2 l1_2.length l1_2) (hc1_2 : l1_2.length ≤ c1_2) {B0_ B1_ : Nat} (hB0_ : w.heap[B0_]? = some (.cells #[.int .i64 a0_0, .slice A0_1 l0_1.length c0_1, .slice A0_2 l0_2.length c0_2] 27 (0, 0))) (hB1_ : w.heap[B1_]? = some (.cells #[.int .i64 a1_0, .slice A1_1 l1_1.length c1_1, .slice A1_2 l1_2.length c1_2] 27 (0, 0))) (h : impl_PairsOf_reach.f k a0_0 l0_1 l0_2 a1_0 l1_1 l1_2 = some r) :
  Calls Try.prog 20 #[.func (.func 21) #[] #[.pointer (some ⟨B0_, 0, none⟩), .pointer (some ⟨B1_, 0, none⟩)]] w fun e w' => ∃ v0_ : Value, e = .returned (v0_) ∧ Kd.S (Kd.slice 3 (Kd.int .i64)) 31 w' w.heap.size (fun _ => True) v0_ r ∧ Below w.heap.size w w' :=
 impl_reached.calls (inst_ := ⟨fun k_ x_ y_ => impl_NextPairs.f k_ a0_0 l0_1 l0_2 a1_0 l1_1 l1_2 x_ y_, fun x_ y_ k_ => impl_NextPairs.mono a0_0 l0_1 l0_2 a1_0 l1_1 l1_2 x_ y_ k_⟩) k r w Try.func21 (by kernel_rfl) rfl (lb_ := #[.pointer (some ⟨B0_, 0, none⟩), .pointer (some ⟨B1_, 0, none⟩)]) (fun k x y r W hb hf => impl_PairsOf_reach.lit k x y a0_0 A0_1 c0_1 l0_1 A0_2 c0_2 l0_2 a1_0 A1_1 c1_1 l1_1 A1_2 c1_2 l1_2 r W (Kd.C_below hr0_1 hb) hc0_1 (Kd.C_below hr0_2 hb) hc0_2 (Kd.C_below hr1_1 hb) hc1_1 (Kd.C_below hr1_2 hb) hc1_2 (blk_below hB0_ hb) (blk_below hB1_ hb) hf) h
/-! ### impl_PairsOf: function 9 -/
def impl_PairsOf.f (k : Nat) (a0_0 : Int) (l0_1 : List Bool) (l0_2 : List (S46)) (a1_0 : Int) (l1_1 : List Bool) (l1_2 : List (S46)) : Option ((List (List Int))) := (impl_IsMachine.f k a0_0 l0_1 l0_2).bind fun t423 => (if t423 = true then ((impl_IsMachine.f k a1_0 l1_1 l1_2).bind fun t424 => (if t424 = true then ((impl_PairsOf_reach.f k a0_0 l0_1 l0_2 a1_0 l1_1 l1_2).bind fun t425 => (some t425)) else (some ([] : List (List Int))))) else (some ([] : List (List Int))))
theorem impl_PairsOf.mono : ∀ a0 a1 a2 a3 a4 a5 k, LeO (impl_PairsOf.f k a0 a1 a2 a3 a4 a5) (impl_PairsOf.f (k + 1) a0 a1 a2 a3 a4 a5) := by
 intro a0 a1 a2 a3 a4 a5 k
 unfold impl_PairsOf.f
 repeat' first
   | (with_reducible first | exact impl_IsMachine.mono _ _ _ _ | exact impl_PairsOf_reach.mono _ _ _ _ _ _ _ | exact LeO.refl _ | exact LeO.none _ | refine LeO.ite ?_ ?_ | refine LeO.bind ?_ (fun _ => ?_))
   | exact impl_IsMachine.mono _ _ _ _
   | exact impl_PairsOf_reach.mono _ _ _ _ _ _ _
   | exact LeO.none _
   | refine LeO.ite ?_ ?_
   | refine LeO.bind ?_ (fun _ => ?_)
set_option maxHeartbeats 8000000 in
set_option maxRecDepth 100000 in
theorem impl_PairsOf.calls (k : Nat) (a0_0 : Int) (A0_1 : Option Addr) (c0_1 : Nat) (l0_1 : List Bool) (A0_2 : Option Addr) (c0_2 : Nat) (l0_2 : List (S46)) (a1_0 : Int) (A1_1 : Option Addr) (c1_1 : Nat) (l1_1 : List Bool) (A1_2 : Option Addr) (c1_2 : Nat) (l1_2 : List (S46)) (r : List (List Int)) (w : World) (hr0_1 : Kd.C Kd.bool w A0_1 l0_1.length l0_1) (hc0_1 : l0_1.length ≤ c0_1) (hr0_2 : Kd.C k46 w A0_2 l0_2.length l0_2) (hc0_2 : l0_2.length ≤ c0_2) (hr1_1 : Kd.C Kd.bool w A1_1 l1_1.length l1_1) (hc1_1 : l1_1.length ≤ c1_1) (hr1_2 : Kd.C k46 w A1_2 l1_2.length l1_2) (hc1_2 : l1_2.length ≤ c1_2) (h : impl_PairsOf.f k a0_0 l0_1 l0_2 a1_0 l1_1 l1_2 = some r) :
  Calls Try.prog 9 #[.agg #[.int .i64 a0_0, .slice A0_1 l0_1.length c0_1, .slice A0_2 l0_2.length c0_2], .agg #[.int .i64 a1_0, .slice A1_1 l1_1.length c1_1, .slice A1_2 l1_2.length c1_2]] w fun e w' => ∃ v0_ : Value, e = .returned (v0_) ∧ Kd.S (Kd.slice 3 (Kd.int .i64)) 31 w' w.heap.size (fun _ => True) v0_ r ∧ Below w.heap.size w w' := by
 have hu27 := Try.underlying27
 have HR0_1 := aM hr0_1
 have HC0_1 := aM hc0_1
 clear hr0_1 hc0_1
 have HR0_2 := aM hr0_2
 have HC0_2 := aM hc0_2
 clear hr0_2 hc0_2
 have HR1_1 := aM hr1_1
 have HC1_1 := aM hc1_1
 clear hr1_1 hc1_1
 have HR1_2 := aM hr1_2
 have HC1_2 := aM hc1_2
 clear hr1_2 hc1_2
 have HB := aM (Below.refl w.heap.size w)
 have H : ((impl_IsMachine.f k a0_0 l0_1 l0_2).bind fun t423 => (if t423 = true then ((impl_IsMachine.f k a1_0 l1_1 l1_2).bind fun t424 => (if t424 = true then ((impl_PairsOf_reach.f k a0_0 l0_1 l0_2 a1_0 l1_1 l1_2).bind fun t425 => (some t425)) else (some ([] : List (List Int))))) else (some ([] : List (List Int))))) = some r := h
 clear h
 obtain ⟨t423, A3, H⟩ := bindS H
 by_cases c4 : t423 = true
 ·subst c4
  have H1 : ((impl_IsMachine.f k a1_0 l1_1 l1_2).bind fun t424 => (if t424 = true then ((impl_PairsOf_reach.f k a0_0 l0_1 l0_2 a1_0 l1_1 l1_2).bind fun t425 => (some t425)) else (some ([] : List (List Int))))) = some r := by rw [if_pos rfl] at H; exact H
  clear H
  have H := H1
  clear H1
  obtain ⟨t424, A5, H⟩ := bindS H
  by_cases c6 : t424 = true
  ·subst c6
   have H1 : ((impl_PairsOf_reach.f k a0_0 l0_1 l0_2 a1_0 l1_1 l1_2).bind fun t425 => (some t425)) = some r := by rw [if_pos rfl] at H; exact H
   clear H
   have H := H1
   clear H1
   obtain ⟨t425, A7, H⟩ := bindS H
   obtain rfl := oI H
   go_enter Try.func9, Try.ntmps9
   go_wp2_with (first | ((with_reducible refine gD (N := 2) rfl ?_); refine box_event ?hg (N := 2) ?hd (cs := #[.int .i64 a0_0, .slice A0_1 l0_1.length c0_1, .slice A0_2 l0_2.length c0_2]) (t := 27) ?hr ?_; (case hd => rfl); (case hg => rfl); (case hr => first | (go_simp; done) | (go_simp; rfl)); intro gb421 hg w8 hbox hb; have BK421 := aM (hbox); have GW421 := gS HB hg; have GE421 := gS HB hg; replace HB := bS HB hb; clear hb hbox hg) | ((with_reducible refine gD (N := 3) rfl ?_); refine box_event ?hg (N := 3) ?hd (cs := #[.int .i64 a1_0, .slice A1_1 l1_1.length c1_1, .slice A1_2 l1_2.length c1_2]) (t := 27) ?hr ?_; (case hd => rfl); (case hg => rfl); (case hr => first | (go_simp; done) | (go_simp; rfl)); intro gb422 hg w9 hbox hb; have BK422 := aM (hbox); have GW422 := gS HB hg; have GE422 := gS HB hg; replace HB := bS HB hb; have NB421_422 := nL BK421 hg; have NB422_421 := nR BK421 hg; replace BK421 := kB BK421 hb; clear hb hbox hg; have hnb10 := NB421_422.o; have hnc10 := NB422_421.o; obtain ⟨z11_0, z11_1, z11_2, f11_0, f11_1, f11_2⟩ := bq3 BK421) | ((with_reducible refine gC (f := 10) rfl ?_); refine goesL_ (some 6) rfl rfl Try.func10 (by kernel_rfl) rfl #[.agg #[.int .i64 a0_0, .slice A0_1 l0_1.length c0_1, .slice A0_2 l0_2.length c0_2]] rfl zG ?_; (with_reducible refine (impl_IsMachine.calls k a0_0 _ _ l0_1 _ _ l0_2 true _ ?s1 ?s2 ?s3 ?s4 A3.o).mono ?_); (case s1 => exact cS HR0_1 HB); (case s2 => exact HC0_1.o); (case s3 => exact cS HR0_2 HB); (case s4 => exact HC0_2.o); rintro e w12 ⟨rfl, hb⟩; refine ⟨_, rfl, ?_⟩; replace BK421 := kB BK421 hb; replace BK422 := kB BK422 hb; replace HB := bS HB hb; (try clear hb); obtain ⟨z13_0, z13_1, z13_2, f13_0, f13_1, f13_2⟩ := bq3 BK422) | (go_at_call 10; (with_reducible refine (impl_IsMachine.calls k a1_0 _ _ l1_1 _ _ l1_2 true _ ?s1 ?s2 ?s3 ?s4 A5.o).mono ?_); (case s1 => exact cS HR1_1 HB); (case s2 => exact HC1_1.o); (case s3 => exact cS HR1_2 HB); (case s4 => exact HC1_2.o); rintro e w14 ⟨rfl, hb⟩; replace BK421 := kB BK421 hb; replace BK422 := kB BK422 hb; replace HB := bS HB hb; (try clear hb)) | ((with_reducible refine gC (f := 20) rfl ?_); refine goesL_ (some 14) rfl rfl Try.func20 (by kernel_rfl) rfl #[.func (.func 21) #[] #[.pointer (some ⟨gb421, 0, none⟩), .pointer (some ⟨gb422, 0, none⟩)]] rfl zG ?_; (with_reducible refine (impl_PairsOf_reach.calls k a0_0 A0_1 c0_1 l0_1 A0_2 c0_2 l0_2 a1_0 A1_1 c1_1 l1_1 A1_2 c1_2 l1_2 t425 _ ?s1 ?s2 ?s3 ?s4 ?s5 ?s6 ?s7 ?s8 ?s9 ?s10 A7.o).mono ?_); (case s1 => exact cS HR0_1 HB); (case s2 => exact HC0_1.o); (case s3 => exact cS HR0_2 HB); (case s4 => exact HC0_2.o); (case s5 => exact cS HR1_1 HB); (case s6 => exact HC1_1.o); (case s7 => exact cS HR1_2 HB); (case s8 => exact HC1_2.o); (case s9 => exact (fun h_ => h_) (zK BK421)); (case s10 => exact (fun h_ => h_) (zK BK422)); rintro e w15 ⟨v426, rfl, ho0, hb⟩; refine ⟨_, rfl, ?_⟩; have HO427 := aM (Kd.S_lower ho0 (bZ (zB HB))); replace BK421 := kB BK421 hb; replace BK422 := kB BK422 hb; replace HB := bS HB hb; (try clear hb); (try clear ho0)))
   go_ret
   exact ⟨_, zE, by (with_reducible repeat (first | apply Kd.S_alloc | apply Kd.S_drewN | apply Kd.S_drew)); exact HO427.o, zB HB⟩
  ·replace c6 := Bool.eq_false_iff.mpr c6
   subst c6
   have H1 : (some ([] : List (List Int))) = some r := by rw [if_neg (show ¬ (false = true) by decide)] at H; exact H
   clear H
   have H := H1
   clear H1
   obtain rfl := oI H
   go_enter Try.func9, Try.ntmps9
   go_wp2_with (first | ((with_reducible refine gD (N := 2) rfl ?_); refine box_event ?hg (N := 2) ?hd (cs := #[.int .i64 a0_0, .slice A0_1 l0_1.length c0_1, .slice A0_2 l0_2.length c0_2]) (t := 27) ?hr ?_; (case hd => rfl); (case hg => rfl); (case hr => first | (go_simp; done) | (go_simp; rfl)); intro gb421 hg w16 hbox hb; have BK421 := aM (hbox); have GW421 := gS HB hg; have GE421 := gS HB hg; replace HB := bS HB hb; clear hb hbox hg) | ((with_reducible refine gD (N := 3) rfl ?_); refine box_event ?hg (N := 3) ?hd (cs := #[.int .i64 a1_0, .slice A1_1 l1_1.length c1_1, .slice A1_2 l1_2.length c1_2]) (t := 27) ?hr ?_; (case hd => rfl); (case hg => rfl); (case hr => first | (go_simp; done) | (go_simp; rfl)); intro gb422 hg w17 hbox hb; have BK422 := aM (hbox); have GW422 := gS HB hg; have GE422 := gS HB hg; replace HB := bS HB hb; have NB421_422 := nL BK421 hg; have NB422_421 := nR BK421 hg; replace BK421 := kB BK421 hb; clear hb hbox hg; have hnb18 := NB421_422.o; have hnc18 := NB422_421.o; obtain ⟨z19_0, z19_1, z19_2, f19_0, f19_1, f19_2⟩ := bq3 BK421) | ((with_reducible refine gC (f := 10) rfl ?_); refine goesL_ (some 6) rfl rfl Try.func10 (by kernel_rfl) rfl #[.agg #[.int .i64 a0_0, .slice A0_1 l0_1.length c0_1, .slice A0_2 l0_2.length c0_2]] rfl zG ?_; (with_reducible refine (impl_IsMachine.calls k a0_0 _ _ l0_1 _ _ l0_2 true _ ?s1 ?s2 ?s3 ?s4 A3.o).mono ?_); (case s1 => exact cS HR0_1 HB); (case s2 => exact HC0_1.o); (case s3 => exact cS HR0_2 HB); (case s4 => exact HC0_2.o); rintro e w20 ⟨rfl, hb⟩; refine ⟨_, rfl, ?_⟩; replace BK421 := kB BK421 hb; replace BK422 := kB BK422 hb; replace HB := bS HB hb; (try clear hb); obtain ⟨z21_0, z21_1, z21_2, f21_0, f21_1, f21_2⟩ := bq3 BK422) | (go_at_call 10; (with_reducible refine (impl_IsMachine.calls k a1_0 _ _ l1_1 _ _ l1_2 false _ ?s1 ?s2 ?s3 ?s4 A5.o).mono ?_); (case s1 => exact cS HR1_1 HB); (case s2 => exact HC1_1.o); (case s3 => exact cS HR1_2 HB); (case s4 => exact HC1_2.o); rintro e w22 ⟨rfl, hb⟩; replace BK421 := kB BK421 hb; replace BK422 := kB BK422 hb; replace HB := bS HB hb; (try clear hb)))
   go_ret
   exact ⟨_, zE, by first | exact Kd.S_nil _ _ _ _ _ | exact Kd.N_nil _ _ _ _ _ | exact Kd.V_nil _ _ _ _ _ | exact Kd.Q_nil _ _ _ _ _ | exact Kd.R_nil _ _ _ _ _, zB HB⟩
 ·replace c4 := Bool.eq_false_iff.mpr c4
  subst c4
  have H1 : (some ([] : List (List Int))) = some r := by rw [if_neg (show ¬ (false = true) by decide)] at H; exact H
  clear H
  have H := H1
  clear H1
  obtain rfl := oI H
  go_enter Try.func9, Try.ntmps9
  go_wp2_with (first | ((with_reducible refine gD (N := 2) rfl ?_); refine box_event ?hg (N := 2) ?hd (cs := #[.int .i64 a0_0, .slice A0_1 l0_1.length c0_1, .slice A0_2 l0_2.length c0_2]) (t := 27) ?hr ?_; (case hd => rfl); (case hg => rfl); (case hr => first | (go_simp; done) | (go_simp; rfl)); intro gb421 hg w23 hbox hb; have BK421 := aM (hbox); have GW421 := gS HB hg; have GE421 := gS HB hg; replace HB := bS HB hb; clear hb hbox hg) | ((with_reducible refine gD (N := 3) rfl ?_); refine box_event ?hg (N := 3) ?hd (cs := #[.int .i64 a1_0, .slice A1_1 l1_1.length c1_1, .slice A1_2 l1_2.length c1_2]) (t := 27) ?hr ?_; (case hd => rfl); (case hg => rfl); (case hr => first | (go_simp; done) | (go_simp; rfl)); intro gb422 hg w24 hbox hb; have BK422 := aM (hbox); have GW422 := gS HB hg; have GE422 := gS HB hg; replace HB := bS HB hb; have NB421_422 := nL BK421 hg; have NB422_421 := nR BK421 hg; replace BK421 := kB BK421 hb; clear hb hbox hg; have hnb25 := NB421_422.o; have hnc25 := NB422_421.o; obtain ⟨z26_0, z26_1, z26_2, f26_0, f26_1, f26_2⟩ := bq3 BK421) | ((with_reducible refine gC (f := 10) rfl ?_); refine goesL_ (some 6) rfl rfl Try.func10 (by kernel_rfl) rfl #[.agg #[.int .i64 a0_0, .slice A0_1 l0_1.length c0_1, .slice A0_2 l0_2.length c0_2]] rfl zG ?_; (with_reducible refine (impl_IsMachine.calls k a0_0 _ _ l0_1 _ _ l0_2 false _ ?s1 ?s2 ?s3 ?s4 A3.o).mono ?_); (case s1 => exact cS HR0_1 HB); (case s2 => exact HC0_1.o); (case s3 => exact cS HR0_2 HB); (case s4 => exact HC0_2.o); rintro e w27 ⟨rfl, hb⟩; refine ⟨_, rfl, ?_⟩; replace BK421 := kB BK421 hb; replace BK422 := kB BK422 hb; replace HB := bS HB hb; (try clear hb)))
  go_ret
  exact ⟨_, zE, by first | exact Kd.S_nil _ _ _ _ _ | exact Kd.N_nil _ _ _ _ _ | exact Kd.V_nil _ _ _ _ _ | exact Kd.Q_nil _ _ _ _ _ | exact Kd.R_nil _ _ _ _ _, zB HB⟩

/-! ### slices_Index_int_int: function 57 -/
def slices_Index_int_int.l0 : Nat → List Int → Int → Int → Int → Option (Int)
 | 0, _, _, _, _ => none
 | k + 1, x0, x1, x7, x8 => if x8 < x7 then (if 0 ≤ x8 then (if x8 < (x0.length : Int) then (if x1 = (rd x0 x8) then (some x8) else (slices_Index_int_int.l0 k x0 x1 x7 (wrap64 (x8 + 1)))) else (none)) else (none)) else (some (-1))
def slices_Index_int_int.f (k : Nat) (l0 : List Int) (a1 : Int) : Option (Int) := slices_Index_int_int.l0 k l0 a1 (l0.length : Int) 0
theorem slices_Index_int_int.mono_l : ∀ k, (∀ y0 y1 y2 y3, LeO (slices_Index_int_int.l0 k y0 y1 y2 y3) (slices_Index_int_int.l0 (k + 1) y0 y1 y2 y3))
 | 0 => fun _ _ _ _ r h => by simp [slices_Index_int_int.l0] at h
 | k + 1 => by
  have ih0 := slices_Index_int_int.mono_l k
  ·intro y0 y1 y2 y3
   unfold slices_Index_int_int.l0
   repeat' first
   | (with_reducible first | exact ih0 _ _ _ _ | exact LeO.refl _ | exact LeO.none _ | refine LeO.ite ?_ ?_ | refine LeO.bind ?_ (fun _ => ?_))
   | exact ih0 _ _ _ _
   | exact LeO.none _
   | refine LeO.ite ?_ ?_
   | refine LeO.bind ?_ (fun _ => ?_)
theorem slices_Index_int_int.mono : ∀ a0 a1 k, LeO (slices_Index_int_int.f k a0 a1) (slices_Index_int_int.f (k + 1) a0 a1) := by
 intro a0 a1 k
 have ih0 := slices_Index_int_int.mono_l k
 unfold slices_Index_int_int.f
 repeat' first
   | (with_reducible first | exact ih0 _ _ _ _ | exact LeO.refl _ | exact LeO.none _ | refine LeO.ite ?_ ?_ | refine LeO.bind ?_ (fun _ => ?_))
   | exact ih0 _ _ _ _
   | exact LeO.none _
   | refine LeO.ite ?_ ?_
   | refine LeO.bind ?_ (fun _ => ?_)
set_option maxHeartbeats 8000000 in
set_option maxRecDepth 100000 in
theorem slices_Index_int_int.calls (k : Nat) (A0 : Option Addr) (c0 : Nat) (l0 : List Int) (a1 : Int) (r : Int) (w : World) (hr0 : Kd.C (Kd.int .i64) w A0 l0.length l0) (hc0 : l0.length ≤ c0) (h : slices_Index_int_int.f k l0 a1 = some r) :
  Calls Try.prog 57 #[.slice A0 l0.length c0, .int .i64 a1] w fun e w' => e = .returned (.int .i64 r) ∧ Drawn0 w w' := by
 have HR0 := aM hr0
 have HC0 := aM hc0
 clear hr0 hc0
 have H : (slices_Index_int_int.l0 k l0 a1 (l0.length : Int) 0) = some r := h
 clear h
 have H' := aM H
 clear H
 go_enter Try.func57, Try.ntmps57
 go_wp2
 go_loopg [8] k (fun kq v8 w' => ∃ (x8_1 : Int), v8 = .int .i64 x8_1 ∧ Aside0 (slices_Index_int_int.l0 kq l0 a1 (l0.length : Int) x8_1 = some r) ∧ Aside0 (kq ≤ k) ∧ Drawn0 w w')
 case atStart => exact ⟨(0), zF, H', ⟨Nat.le_refl _⟩, by repeat (first | exact Drawn0.refl _ | apply Drawn0.step)⟩
 case round =>
  clear H'
  try clear p2
  obtain ⟨x8_1, rfl, HA, HK1, ⟨m1, rfl⟩⟩ := hrel
  cases gk with
  | zero => exact absurd HA.o (by simp [slices_Index_int_int.l0])
  | succ k1 =>
   have H := HA.o
   clear HA
   simp only [slices_Index_int_int.l0] at H
   by_cases c3 : x8_1 < (l0.length : Int)
   ·rw [if_pos c3] at H
    have c3b0 : decide (x8_1 < (l0.length : Int)) = true := dT c3
    clear c3
    obtain ⟨c4, H⟩ := ifS H
    have c4b0 : decide (0 ≤ x8_1) = true := dT c4
    clear c4
    obtain ⟨c5, H⟩ := ifS H
    have c5b0 : decide (x8_1 < (l0.length : Int)) = true := dT c5
    clear c5
    by_cases c6 : a1 = (rd l0 x8_1)
    ·rw [if_pos c6] at H
     have c6b0 : (a1 == (rd l0 x8_1)) = true := beq_iff_eq.mpr c6
     have c6b1 : (a1 != (rd l0 x8_1)) = false := bne_eq_false_iff_eq.mpr c6
     clear c6
     obtain rfl := oI H
     have p428 : 0 ≤ (x8_1 : Int) := zD
     have q428 : x8_1 < (l0.length : Int) := zD
     obtain ⟨ad428, e428, hx428_0⟩ := Kd.at_int HR0.o x8_1 p428 q428
     cases e428
     replace p428 := eq_true p428
     replace q428 := eq_true q428
     go_wp2
     go_ret
     exact ⟨by first | rfl | (simp; done) | (simp [*]; done), by repeat (first | exact Drawn0.refl _ | apply Drawn0.step)⟩
    ·rw [if_neg c6] at H
     have c6b0 : (a1 == (rd l0 x8_1)) = false := beq_eq_false_iff_ne.mpr c6
     have c6b1 : (a1 != (rd l0 x8_1)) = true := bne_iff_ne.mpr c6
     have H' := aM H
     clear H
     have p428 : 0 ≤ (x8_1 : Int) := zD
     have q428 : x8_1 < (l0.length : Int) := zD
     obtain ⟨ad428, e428, hx428_0⟩ := Kd.at_int HR0.o x8_1 p428 q428
     cases e428
     replace p428 := eq_true p428
     replace q428 := eq_true q428
     go_wp2
     go_roundg k1
     case measure => have := HK1.o; omega
     case rel => exact ⟨(wrap64 (x8_1 + 1)), zF, H', ⟨by have := HK1.o; omega⟩, by repeat (first | exact Drawn0.refl _ | apply Drawn0.step)⟩
   ·rw [if_neg c3] at H
    have c3b0 : decide (x8_1 < (l0.length : Int)) = false := decide_eq_false c3
    clear c3
    obtain rfl := oI H
    go_wp2
    go_ret
    exact ⟨by first | rfl | (simp; done) | (simp [*]; done), by repeat (first | exact Drawn0.refl _ | apply Drawn0.step)⟩

/-! ### slices_Contains_int_int: function 43 -/
def slices_Contains_int_int.f (k : Nat) (l0 : List Int) (a1 : Int) : Option (Bool) := (slices_Index_int_int.f k l0 a1).bind fun t429 => (some (decide (t429 ≥ 0)))
theorem slices_Contains_int_int.mono : ∀ a0 a1 k, LeO (slices_Contains_int_int.f k a0 a1) (slices_Contains_int_int.f (k + 1) a0 a1) := by
 intro a0 a1 k
 unfold slices_Contains_int_int.f
 repeat' first
   | (with_reducible first | exact slices_Index_int_int.mono _ _ _ | exact LeO.refl _ | exact LeO.none _ | refine LeO.ite ?_ ?_ | refine LeO.bind ?_ (fun _ => ?_))
   | exact slices_Index_int_int.mono _ _ _
   | exact LeO.none _
   | refine LeO.ite ?_ ?_
   | refine LeO.bind ?_ (fun _ => ?_)
set_option maxHeartbeats 8000000 in
set_option maxRecDepth 100000 in
theorem slices_Contains_int_int.calls (k : Nat) (A0 : Option Addr) (c0 : Nat) (l0 : List Int) (a1 : Int) (r : Bool) (w : World) (hr0 : Kd.C (Kd.int .i64) w A0 l0.length l0) (hc0 : l0.length ≤ c0) (h : slices_Contains_int_int.f k l0 a1 = some r) :
  Calls Try.prog 43 #[.slice A0 l0.length c0, .int .i64 a1] w fun e w' => e = .returned (.bool r) ∧ Drawn0 w w' := by
 have HR0 := aM hr0
 have HC0 := aM hc0
 clear hr0 hc0
 have H : ((slices_Index_int_int.f k l0 a1).bind fun t429 => (some (decide (t429 ≥ 0)))) = some r := h
 clear h
 obtain ⟨t429, A3, H⟩ := bindS H
 obtain rfl := oI H
 go_enter Try.func43, Try.ntmps43
 go_wp2_with (first | ((with_reducible refine gC (f := 57) rfl ?_); refine goesL_ (some 7) rfl rfl Try.func57 (by kernel_rfl) rfl #[.slice A0 l0.length c0, .int .i64 a1] rfl zG ?_; (with_reducible refine (slices_Index_int_int.calls k _ _ l0 a1 t429 _ ?s1 ?s2 A3.o).mono ?_); (case s1 => exact cT HR0); (case s2 => exact HC0.o); rintro e w' ⟨rfl, ⟨nd, rfl⟩⟩; refine ⟨_, rfl, ?_⟩))
 go_ret
 exact ⟨by first | rfl | (simp; done) | (simp [*]; done), by repeat (first | exact Drawn0.refl _ | apply Drawn0.step)⟩

/-! ### impl_without: function 26 -/
def impl_without.l0 : Nat → List Int → List Int → List Int → Int → Int → Option (List Int)
 | 0, _, _, _, _, _ => none
 | k + 1, x1, x5, x9, x10, x11 => if x11 < x10 then (if 0 ≤ x11 then (if x11 < (x9.length : Int) then ((slices_Contains_int_int.f k x1 (rd x9 x11)).bind fun t434 => (if t434 = true then (impl_without.l0 k x1 x5 x9 x10 (wrap64 (x11 + 1))) else (if x5.length < 17592186044416 then (impl_without.l0 k x1 (x5 ++ [rd x9 x11]) x9 x10 (wrap64 (x11 + 1))) else (none)))) else (none)) else (none)) else (some x5)
def impl_without.f (k : Nat) (l0 : List Int) (l1 : List Int) : Option (List Int) := impl_without.l0 k l1 (([] : List Int)) l0 (l0.length : Int) 0
theorem impl_without.mono_l : ∀ k, (∀ y0 y1 y2 y3 y4, LeO (impl_without.l0 k y0 y1 y2 y3 y4) (impl_without.l0 (k + 1) y0 y1 y2 y3 y4))
 | 0 => fun _ _ _ _ _ r h => by simp [impl_without.l0] at h
 | k + 1 => by
  have ih0 := impl_without.mono_l k
  ·intro y0 y1 y2 y3 y4
   unfold impl_without.l0
   repeat' first
   | (with_reducible first | exact ih0 _ _ _ _ _ | exact slices_Contains_int_int.mono _ _ _ | exact LeO.refl _ | exact LeO.none _ | refine LeO.ite ?_ ?_ | refine LeO.bind ?_ (fun _ => ?_))
   | exact ih0 _ _ _ _ _
   | exact slices_Contains_int_int.mono _ _ _
   | exact LeO.none _
   | refine LeO.ite ?_ ?_
   | refine LeO.bind ?_ (fun _ => ?_)
theorem impl_without.mono : ∀ a0 a1 k, LeO (impl_without.f k a0 a1) (impl_without.f (k + 1) a0 a1) := by
 intro a0 a1 k
 have ih0 := impl_without.mono_l k
 unfold impl_without.f
 repeat' first
   | (with_reducible first | exact ih0 _ _ _ _ _ | exact slices_Contains_int_int.mono _ _ _ | exact LeO.refl _ | exact LeO.none _ | refine LeO.ite ?_ ?_ | refine LeO.bind ?_ (fun _ => ?_))
   | exact ih0 _ _ _ _ _
   | exact slices_Contains_int_int.mono _ _ _
   | exact LeO.none _
   | refine LeO.ite ?_ ?_
   | refine LeO.bind ?_ (fun _ => ?_)
set_option maxHeartbeats 8000000 in
set_option maxRecDepth 100000 in
theorem impl_without.calls (k : Nat) (A0 : Option Addr) (c0 : Nat) (l0 : List Int) (A1 : Option Addr) (c1 : Nat) (l1 : List Int) (r : List Int) (w : World) (hr0 : Kd.C (Kd.int .i64) w A0 l0.length l0) (hc0 : l0.length ≤ c0) (hr1 : Kd.C (Kd.int .i64) w A1 l1.length l1) (hc1 : l1.length ≤ c1) (h : impl_without.f k l0 l1 = some r) :
  Calls Try.prog 26 #[.slice A0 l0.length c0, .slice A1 l1.length c1] w fun e w' => ∃ v0_ : Value, e = .returned (v0_) ∧ Kd.R (Kd.int .i64) 3 w' w.heap.size (fun _ => True) v0_ r ∧ Below w.heap.size w w' := by
 have HR0 := aM hr0
 have HC0 := aM hc0
 clear hr0 hc0
 have HR1 := aM hr1
 have HC1 := aM hc1
 clear hr1 hc1
 have HB := aM (Below.refl w.heap.size w)
 have H : (impl_without.l0 k l1 (([] : List Int)) l0 (l0.length : Int) 0) = some r := h
 clear h
 obtain ⟨y430, hy430⟩ : ∃ y_ : List Int, y_ = (([] : List Int)) := ⟨_, rfl⟩
 replace H : (impl_without.l0 k l1 y430 l0 (l0.length : Int) 0) = some r := by first | (rw [hy430]; with_reducible exact H) | (rw [hy430]; exact H) | exact H
 have Ny430 := aM hy430
 clear hy430
 have H' := aM H
 clear H
 go_enter Try.func26, Try.ntmps26
 go_wp2_with (first | ((with_reducible refine gD (N := 8) rfl ?_); refine Kd.R_lit (Kd.int .i64) _ 3 ?hg (N := 8) ?hd (xs := ([] : List Int)) (inner := []) (ok := fun _ => True) (okp := fun _ => True) ?hr ?hp (fun _ hk => hk) trivial (Below.refl _ _) (Nat.le_refl _) (by simp) ?_; (case hd => rfl); (case hg => rfl); (case hr => first | (go_simp; done) | (go_simp; rfl)); (case hp => exact (Reps.none _ _)); intro v431 w3 ho4 hb hg_ hnew_; clear hg_ hnew_; (first | rw [← Ny430.o] at ho4 | (simp only [Int.reduceToNat] at ho4; rw [← Ny430.o] at ho4)); have HO432 := aM (rO ho4 (bZ (zB HB))); replace HB := bS HB hb; clear hb ho4))
 go_loopg [5, 11] k (fun kq v5 v11 w' => ∃ (x5_1 : List Int) (x11_1 : Int), v11 = .int .i64 x11_1 ∧ Aside0 (impl_without.l0 kq l1 x5_1 l0 (l0.length : Int) x11_1 = some r) ∧ Aside0 (kq ≤ k) ∧ Aside0 (Kd.R (Kd.int .i64) 3 w' w.heap.size (fun _ => True) v5 x5_1) ∧ Aside0 (Below w.heap.size w w'))
 case atStart => exact ⟨(y430), (0), zF, H', ⟨Nat.le_refl _⟩, ⟨zR HO432⟩, ⟨zB HB⟩⟩
 case round =>
  clear H'
  try clear c1
  try clear c2
  try clear p2
  obtain ⟨x5_1, x11_1, rfl, HA, HK1, HO_5, HB⟩ := hrel
  cases gk with
  | zero => exact absurd HA.o (by simp [impl_without.l0])
  | succ k1 =>
   have H := HA.o
   clear HA
   simp only [impl_without.l0] at H
   by_cases c5 : x11_1 < (l0.length : Int)
   ·rw [if_pos c5] at H
    have c5b0 : decide (x11_1 < (l0.length : Int)) = true := dT c5
    clear c5
    obtain ⟨c6, H⟩ := ifS H
    have c6b0 : decide (0 ≤ x11_1) = true := dT c6
    clear c6
    obtain ⟨c7, H⟩ := ifS H
    have c7b0 : decide (x11_1 < (l0.length : Int)) = true := dT c7
    clear c7
    obtain ⟨t434, A8, H⟩ := bindS H
    by_cases c9 : t434 = true
    ·subst c9
     have H1 : (impl_without.l0 k1 l1 x5_1 l0 (l0.length : Int) (wrap64 (x11_1 + 1))) = some r := by rw [if_pos rfl] at H; exact H
     clear H
     have H := H1
     clear H1
     have H' := aM H
     clear H
     have p433 : 0 ≤ (x11_1 : Int) := zD
     have q433 : x11_1 < (l0.length : Int) := zD
     obtain ⟨ad433, e433, hx433_0⟩ := Kd.at_int HR0.o x11_1 p433 q433
     cases e433
     replace hx433_0 := hL HB hx433_0
     replace p433 := eq_true p433
     replace q433 := eq_true q433
     go_wp2_with (first | ((with_reducible refine gC (f := 43) rfl ?_); refine goesL_ (some 17) rfl rfl Try.func43 (by kernel_rfl) rfl #[.slice A1 l1.length c1, .int .i64 (rd l0 x11_1)] rfl zG ?_; (with_reducible refine (slices_Contains_int_int.calls k1 _ _ l1 (rd l0 x11_1) true _ ?s1 ?s2 A8.o).mono ?_); (case s1 => exact cS HR1 HB); (case s2 => exact HC1.o); rintro e w' ⟨rfl, ⟨nd, rfl⟩⟩; refine ⟨_, rfl, ?_⟩))
     go_roundg k1
     case measure => have := HK1.o; omega
     case rel => exact ⟨(x5_1), (wrap64 (x11_1 + 1)), zF, H', ⟨by have := HK1.o; omega⟩, ⟨zR HO_5⟩, ⟨zB HB⟩⟩
    ·replace c9 := Bool.eq_false_iff.mpr c9
     subst c9
     have H1 : (if x5_1.length < 17592186044416 then (impl_without.l0 k1 l1 (x5_1 ++ [rd l0 x11_1]) l0 (l0.length : Int) (wrap64 (x11_1 + 1))) else (none)) = some r := by rw [if_neg (show ¬ (false = true) by decide)] at H; exact H
     clear H
     have H := H1
     clear H1
     obtain ⟨c10, H⟩ := ifS H
     have LMc10 := aM c10
     clear c10
     obtain ⟨y435, hy435⟩ : ∃ y_ : List Int, y_ = (x5_1 ++ [rd l0 x11_1]) := ⟨_, rfl⟩
     replace H : (impl_without.l0 k1 l1 y435 l0 (l0.length : Int) (wrap64 (x11_1 + 1))) = some r := by first | (rw [hy435]; with_reducible exact H) | (rw [hy435]; exact H) | exact H
     have Ny435 := aM hy435
     clear hy435
     have H' := aM H
     clear H
     have p433 : 0 ≤ (x11_1 : Int) := zD
     have q433 : x11_1 < (l0.length : Int) := zD
     obtain ⟨ad433, e433, hx433_0⟩ := Kd.at_int HR0.o x11_1 p433 q433
     cases e433
     replace hx433_0 := hL HB hx433_0
     replace p433 := eq_true p433
     replace q433 := eq_true q433
     go_wp2_with (first | ((with_reducible refine gC (f := 43) rfl ?_); refine goesL_ (some 17) rfl rfl Try.func43 (by kernel_rfl) rfl #[.slice A1 l1.length c1, .int .i64 (rd l0 x11_1)] rfl zG ?_; (with_reducible refine (slices_Contains_int_int.calls k1 _ _ l1 (rd l0 x11_1) false _ ?s1 ?s2 A8.o).mono ?_); (case s1 => exact cS HR1 HB); (case s2 => exact HC1.o); rintro e w' ⟨rfl, ⟨nd, rfl⟩⟩; refine ⟨_, rfl, ?_⟩) | ((with_reducible refine gate_builtin (b := .append) (xs := #[.tmp 19, .tmp 21]) rfl ?_); at_builtin; refine Kd.R_append (Kd.int .i64) (w0 := w) w.heap.size rfl (.tmp 19) (.tmp 21) 31 3 (.int .i64 0) 8 rfl Try.underlying31 info3 rfl (by decide) (by omega) u5 x5_1 (rd l0 x11_1) [.int .i64 (rd l0 x11_1)] (fun _ => True) (fun _ => False) rfl rfl ?aP (fun _ hk => hk.elim) ?aF ?aO ?aB ?aS ?aL ?_; (case aP => exact rfl); (case aB => exact (zB HB)); (case aF => exact (fun _ _ => trivial)); (case aO => exact (zR HO_5)); (case aS => exact (bZ (zB HB))); (case aL => have := LMc10.o; omega); intro v436 w11 ho hb hg hat; rw [← Ny435.o] at ho; replace HB := aM (hb); have HO437 := aM (ho); clear HO_5; clear ho hb hg hat))
     go_roundg k1
     case measure => have := HK1.o; omega
     case rel => exact ⟨(y435), (wrap64 (x11_1 + 1)), zF, H', ⟨by have := HK1.o; omega⟩, ⟨zR HO437⟩, ⟨zB HB⟩⟩
   ·rw [if_neg c5] at H
    have c5b0 : decide (x11_1 < (l0.length : Int)) = false := decide_eq_false c5
    clear c5
    obtain rfl := oI H
    go_wp2
    go_ret
    exact ⟨_, zE, by (with_reducible repeat (first | apply rA | apply rN | apply rD)); exact HO_5.o, zB HB⟩

/-! ### impl_isEnd: function 28 -/
def impl_isEnd.f (a0_0 : Int) (l0_1 : List Bool) (l0_2 : List (S46)) (a1 : Int) : Option (Bool) := (impl_InRange.f a1 0 (wrap64 ((l0_1.length : Int) - 1))).bind fun t439 => (if t439 = true then (if 0 ≤ a1 then (if a1 < (l0_1.length : Int) then (some (rdOf false l0_1 a1)) else (none)) else (none)) else (some false))
set_option maxHeartbeats 8000000 in
set_option maxRecDepth 100000 in
theorem impl_isEnd.calls (a0_0 : Int) (A0_1 : Option Addr) (c0_1 : Nat) (l0_1 : List Bool) (A0_2 : Option Addr) (c0_2 : Nat) (l0_2 : List (S46)) (a1 : Int) (r : Bool) (w : World) (hr0_1 : Kd.C Kd.bool w A0_1 l0_1.length l0_1) (hc0_1 : l0_1.length ≤ c0_1) (hr0_2 : Kd.C k46 w A0_2 l0_2.length l0_2) (hc0_2 : l0_2.length ≤ c0_2) (h : impl_isEnd.f a0_0 l0_1 l0_2 a1 = some r) :
  Calls Try.prog 28 #[.agg #[.int .i64 a0_0, .slice A0_1 l0_1.length c0_1, .slice A0_2 l0_2.length c0_2], .int .i64 a1] w fun e w' => e = .returned (.bool r) ∧ Below w.heap.size w w' := by
 have hu27 := Try.underlying27
 have HR0_1 := aM hr0_1
 have HC0_1 := aM hc0_1
 clear hr0_1 hc0_1
 have HR0_2 := aM hr0_2
 have HC0_2 := aM hc0_2
 clear hr0_2 hc0_2
 have HB := aM (Below.refl w.heap.size w)
 have H : ((impl_InRange.f a1 0 (wrap64 ((l0_1.length : Int) - 1))).bind fun t439 => (if t439 = true then (if 0 ≤ a1 then (if a1 < (l0_1.length : Int) then (some (rdOf false l0_1 a1)) else (none)) else (none)) else (some false))) = some r := h
 clear h
 obtain ⟨t439, A3, H⟩ := bindS H
 by_cases c4 : t439 = true
 ·subst c4
  have H1 : (if 0 ≤ a1 then (if a1 < (l0_1.length : Int) then (some (rdOf false l0_1 a1)) else (none)) else (none)) = some r := by rw [if_pos rfl] at H; exact H
  clear H
  have H := H1
  clear H1
  obtain ⟨c5, H⟩ := ifS H
  have c5b0 : decide (0 ≤ a1) = true := dT c5
  clear c5
  obtain ⟨c6, H⟩ := ifS H
  have c6b0 : decide (a1 < (l0_1.length : Int)) = true := dT c6
  clear c6
  obtain rfl := oI H
  go_enter Try.func28, Try.ntmps28
  go_wp2_with (first | ((with_reducible refine gD (N := 2) rfl ?_); refine box_event ?hg (N := 2) ?hd (cs := #[.int .i64 a0_0, .slice A0_1 l0_1.length c0_1, .slice A0_2 l0_2.length c0_2]) (t := 27) ?hr ?_; (case hd => rfl); (case hg => rfl); (case hr => first | (go_simp; done) | (go_simp; rfl)); intro gb438 hg w7 hbox hb; have BK438 := aM (hbox); have GW438 := gS HB hg; have GE438 := gS HB hg; replace HB := bS HB hb; clear hb hbox hg; obtain ⟨z8_0, z8_1, z8_2, f8_0, f8_1, f8_2⟩ := bq3 BK438) | ((with_reducible refine gC (f := 22) rfl ?_); refine goesL_ (some 10) rfl rfl Try.func22 (by kernel_rfl) rfl #[.int .i64 a1, .int .i64 0, .int .i64 (wrap64 ((l0_1.length : Int) - 1))] rfl zG ?_; (with_reducible refine (impl_InRange.calls a1 0 (wrap64 ((l0_1.length : Int) - 1)) true _ A3.o).mono ?_); rintro e w' ⟨rfl, ⟨nd, rfl⟩⟩; refine ⟨_, rfl, ?_⟩; have p440 : 0 ≤ (a1 : Int) := zD; have q440 : a1 < (l0_1.length : Int) := zD; obtain ⟨ad440, e440, hx440_0⟩ := Kd.at_bool HR0_1.o a1 p440 q440; cases e440; replace hx440_0 := hL HB hx440_0; replace p440 := eq_true p440; replace q440 := eq_true q440))
  go_ret
  exact ⟨zE, zB HB⟩
 ·replace c4 := Bool.eq_false_iff.mpr c4
  subst c4
  have H1 : (some false) = some r := by rw [if_neg (show ¬ (false = true) by decide)] at H; exact H
  clear H
  have H := H1
  clear H1
  obtain rfl := oI H
  go_enter Try.func28, Try.ntmps28
  go_wp2_with (first | ((with_reducible refine gD (N := 2) rfl ?_); refine box_event ?hg (N := 2) ?hd (cs := #[.int .i64 a0_0, .slice A0_1 l0_1.length c0_1, .slice A0_2 l0_2.length c0_2]) (t := 27) ?hr ?_; (case hd => rfl); (case hg => rfl); (case hr => first | (go_simp; done) | (go_simp; rfl)); intro gb438 hg w9 hbox hb; have BK438 := aM (hbox); have GW438 := gS HB hg; have GE438 := gS HB hg; replace HB := bS HB hb; clear hb hbox hg; obtain ⟨z10_0, z10_1, z10_2, f10_0, f10_1, f10_2⟩ := bq3 BK438) | ((with_reducible refine gC (f := 22) rfl ?_); refine goesL_ (some 10) rfl rfl Try.func22 (by kernel_rfl) rfl #[.int .i64 a1, .int .i64 0, .int .i64 (wrap64 ((l0_1.length : Int) - 1))] rfl zG ?_; (with_reducible refine (impl_InRange.calls a1 0 (wrap64 ((l0_1.length : Int) - 1)) false _ A3.o).mono ?_); rintro e w' ⟨rfl, ⟨nd, rfl⟩⟩; refine ⟨_, rfl, ?_⟩))
  go_ret
  exact ⟨zE, zB HB⟩

end Go.Proofs.Ytfibjclnaeocbaa.PFnPairs
