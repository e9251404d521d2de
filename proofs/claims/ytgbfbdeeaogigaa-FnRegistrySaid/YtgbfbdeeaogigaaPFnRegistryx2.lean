-- WRITTEN by pp.py, this session's own wrapper around the print; not trusted: Lean checks it
import Derived.Test.YtgbfbdeeaogigaaPFnRegistryx0
import Derived.Test.YtgbfbdeeaogigaaPFnRegistryx1
namespace Go.Proofs.Ytgbfbdeeaogigaa.PFnRegistry
open Go.RowKit Go.Proofs.Ytgbfbdeeaogigaa.Hw Go.Proofs.YtgbfbdeeaogigaaW.PrintWords Go.Proofs.YtgbfbdeeaogigaaW.PrintLast Go.Proofs.YtgbfbdeeaogigaaW.PrintMore
attribute [local go_sem] max2_int min2_int max_two min_two max_three min_three max_four min_four   -- for this text's walks alone
set_option linter.unusedVariables false
set_option linter.unusedSimpArgs false
set_option linter.unusedSectionVars false

/-! ### impl_entryOf: function 29 (by hand) -/
theorem impl_entryOf.lit (x : S43)  (B0_ : Nat) (a1 : Int) (W : World) (hB0_ : W.cell? ⟨B0_, 0, none⟩ = some (.int .i64 a1))  :
  Calls Try.prog 37 #[.agg #[.int .i64 x.f0, .int .i64 x.f1, .bool x.f2], .pointer (some ⟨B0_, 0, none⟩)] W fun e w' => e = .returned (.bool (x.f0 == a1)) ∧ Below W.heap.size W w' := by
 have hqhB0_ := World.block_lt_of_cell? W _ hB0_
 have hu43 := Try.underlying43
 go_enter Try.func37, Try.ntmps37
 go_wp2
 go_ret
 exact ⟨rfl, by repeat (first | exact Below.refl _ _ | apply below_alloc | apply pw_below_drewN | apply below_drew1)⟩
set_option maxHeartbeats 4000000 in
set_option maxRecDepth 100000 in
theorem impl_entryOf.idx (A0 : Option Addr) (c0 : Nat) (l0 : List (S43)) (B0_ : Nat) (a1 : Int) (w : World) (hr0 : Kd.C k43 w A0 l0.length l0) (hc0 : l0.length ≤ c0) (hB0_ : w.cell? ⟨B0_, 0, none⟩ = some (.int .i64 a1)) :
  Calls Try.prog 36 #[.slice A0 l0.length c0, .func (.func 37) #[] #[.pointer (some ⟨B0_, 0, none⟩)]] w fun e w' => e = .returned (.int .i64 (idxOf (fun x => x.f0 == a1) l0)) ∧ Below w.heap.size w w' := by
 have hu43 := Try.underlying43
 have HL_ := Aside0.mk hr0.2.1
 have HR0 := Aside0.mk hr0
 have HhB0_ := Aside0.mk hB0_
 obtain ⟨m_, hm_⟩ : ∃ m_ : Int, m_ = idxOf (fun x => x.f0 == a1) l0 := ⟨_, rfl⟩
 rw [← hm_]
 have HM_ := Aside0.mk hm_
 clear hr0 hc0 hm_ hB0_
 go_enter Try.func36, Try.ntmps36
 go_wp2
 go_loopg [5, 8] l0.length (fun gg _ s8 wr => ∃ kk : Int, 0 ≤ kk ∧ kk ≤ l0.length ∧ l0.length - kk.toNat ≤ gg ∧ s8 = .int .i64 kk ∧ Aside0 (Below w.heap.size w wr) ∧ Aside0 (m_ = idxAt (fun x => x.f0 == a1) l0 kk))
 case atStart => exact ⟨0, by omega, by omega, by omega, rfl, ⟨Below.refl _ w⟩, ⟨by rw [HM_.out, idxAt_zero]⟩⟩
 case round =>
  obtain ⟨kk, h0, hkk, hg, rfl, BW, A_⟩ := hrel
  by_cases hlt : kk < (l0.length : Int)
  ·obtain ⟨ad, e_, hx0, hx1, hx2⟩ := at_T43 HR0.out kk h0 hlt
   cases e_
   replace hx0 := cell_later BW.out hx0
   replace hx1 := cell_later BW.out hx1
   replace hx2 := cell_later BW.out hx2
   have hlit := impl_entryOf.lit (rd_T43 l0 kk)  B0_ a1 wr (cell_later BW.out HhB0_.out) 
   have HLIT := Aside0.mk hlit
   clear hlit 
   obtain ⟨b, hb⟩ : ∃ b : Bool, b = (fun x : S43 => x.f0 == a1) (rd_T43 l0 kk) := ⟨_, rfl⟩
   have HQ := Aside0.mk hb
   replace HLIT : Aside0 (Calls Try.prog 37 #[.agg #[.int .i64 ((rd_T43 l0 kk).f0), .int .i64 ((rd_T43 l0 kk).f1), .bool ((rd_T43 l0 kk).f2)], .pointer (some ⟨B0_, 0, none⟩)] wr fun e w' => e = .returned (.bool b) ∧ Below wr.heap.size wr w') := by rw [hb]; exact HLIT
   clear hb
   cases b with
   | true =>
    go_wp2_with (go_at_call 37; refine HLIT.out.mono ?_; rintro e w' ⟨rfl, hb'⟩)
    go_ret
    exact ⟨ret_int (by rw [A_.out]; exact (idxAt_hit (fun x => x.f0 == a1) l0 z43 kk h0 hlt HQ.out.symm).symm), below_trans BW.out hb'⟩
   | false =>
    go_wp2_with (go_at_call 37; refine HLIT.out.mono ?_; rintro e w' ⟨rfl, hb'⟩)
    have hw1 := wrap_kk h0 hlt HL_.out
    go_roundg (l0.length - (kk.toNat + 1))
    case measure => omega
    case rel => exact ⟨kk + 1, by omega, by omega, by omega, by first | rfl | (rw [hw1]) | (simp only [hw1]), ⟨below_trans BW.out hb'⟩, ⟨by rw [A_.out]; exact idxAt_go (fun x => x.f0 == a1) l0 z43 kk h0 hlt HQ.out.symm⟩⟩
  ·go_wp2
   go_ret
   exact ⟨ret_int (by rw [A_.out]; exact (idxAt_end _ _ _ (by omega)).symm), BW.out⟩
def impl_entryOf.f (l0 : List (S43)) (a1 : Int) : Option (Int) := some (idxOf (fun x => x.f0 == a1) l0)
theorem impl_entryOf.calls (A0 : Option Addr) (c0 : Nat) (l0 : List (S43)) (a1 : Int) (r : Int) (w : World) (hr0 : Kd.C k43 w A0 l0.length l0) (hc0 : l0.length ≤ c0) (h : impl_entryOf.f l0 a1 = some r) :
  Calls Try.prog 29 #[.slice A0 l0.length c0, .int .i64 a1] w fun e w' => e = .returned (.int .i64 r) ∧ Below w.heap.size w w' := by
 obtain rfl := Option.some.inj h
 have HR0 := Aside0.mk hr0
 have HC0 := Aside0.mk hc0
 clear h hr0 hc0
 go_enter Try.func29, Try.ntmps29
 go_wp2_with (go_at_call 36; refine (impl_entryOf.idx A0 c0 l0 w.heap.size a1 _ (Kd.C_alloc HR0.out _) HC0.out ?_).mono ?_; (simp); rintro e w' ⟨rfl, hb⟩)
 go_ret
 exact ⟨rfl, below_trans (below_alloc (Below.refl _ _) _) hb⟩

-- NOT PRINTED: function 30 (impl_Entry_30)

/-! ### impl_AssignTag_sort: functions 30 and 31 (by hand) -/
set_option maxHeartbeats 2000000 in
theorem impl_AssignTag_sort.lit (x y : S43) (hx : 0 ≤ x.f0 ∧ x.f0 ≤ 255) (hy : 0 ≤ y.f0 ∧ y.f0 ≤ 255) (W : World) : Calls Try.prog 31 #[.agg #[.int .i64 x.f0, .int .i64 x.f1, .bool x.f2], .agg #[.int .i64 y.f0, .int .i64 y.f1, .bool y.f2]] W fun e w' => e = .returned (.int .i64 (x.f0 - y.f0)) ∧ ∃ q os', w' = Go.Sort.grow (W.drewN q) os' := by
 have hw : wrap64 (x.f0 - y.f0) = x.f0 - y.f0 := by unfold wrap64; omega
 have hu43 := Try.underlying43
 have HW := Aside0.mk hw
 clear hw hx hy
 go_enter Try.func31, Try.ntmps31
 go_wp2
 go_ret
 exact ⟨by show Ending.returned (.int .i64 (wrap64 (x.f0 - y.f0))) = _; rw [HW.out], 0, _, by rw [Go.Sort.alloc_eq_grow, Go.Sort.alloc_eq_grow, Go.Sort.grow_grow]; rfl⟩
instance impl_AssignTag_sort.inh : Inhabited (Go.Proofs.Ytgbfbdeeaogigaa.Hf.Keyed (fun x : S43 => x.f0)) := ⟨⟨z43, by decide⟩⟩
theorem impl_AssignTag_sort.agg_ (w : World) : (isAgg 43).run Try.prog w = .ok true w := by kernel_rfl
theorem impl_AssignTag_sort.size_ (w : World) : (Go.sizeOf 43).run Try.prog w = .ok 3 w := by kernel_rfl
theorem impl_AssignTag_sort.swo : Go.Sort.SWO (ltOf fun x y : Go.Proofs.Ytgbfbdeeaogigaa.Hf.Keyed (fun x : S43 => x.f0) => x.val.f0 - y.val.f0) := ⟨fun x => by simp [ltOf], fun x y z h1 h2 => by simp only [ltOf, decide_eq_true_eq] at h1 h2 ⊢; omega, fun x y z h1 h2 => by simp only [ltOf, decide_eq_false_iff_not] at h1 h2 ⊢; omega⟩
def impl_AssignTag_sort.f (l0 : List (S43)) : Option (List (S43)) := if 0 < l0.length ∧ l0.length ≤ 12 ∧ (∀ x ∈ l0, 0 ≤ x.f0 ∧ x.f0 ≤ 255) ∧ l0.Pairwise (fun x y => x.f0 ≠ y.f0) then some (Go.Proofs.Ytgbfbdeeaogigaa.Hf.sortBy (fun x : S43 => x.f0) l0) else none
set_option maxHeartbeats 4000000 in
theorem impl_AssignTag_sort.calls (P0_ : Nat → Prop) (u9000_ : Value) (l0 : List (S43)) (r : List (S43)) (w0 w : World) (hB : Below w0.heap.size w0 w) (ho0 : Kd.R k43 43 w w0.heap.size P0_ u9000_ l0) (h : impl_AssignTag_sort.f l0 = some r) :
  Calls Try.prog 30 #[u9000_, .func (.func 31) #[] #[]] w fun e w' => e = .returned (.tuple #[]) ∧ Kd.R k43 43 w' w0.heap.size (fun k_ => (P0_ k_ ∨ w.heap.size ≤ k_)) u9000_ r ∧ Below w0.heap.size w0 w' ∧ Kept w w' (fun k_ => P0_ k_) := by
 unfold impl_AssignTag_sort.f at h
 split at h
 ·rename_i hc
  exact Go.Proofs.Ytgbfbdeeaogigaa.Hf.sortf_calls (key := (fun x : S43 => x.f0)) (fun x : S43 => [.int .i64 x.f0, .int .i64 x.f1, .bool x.f2]) (fun _ => rfl) (by decide) (fun h_ => k43_open h_) (fun w_ b_ ok_ x_ => k43_mkM w_ b_ ok_ x_) _
   (fun blk cap dd w_ hH hb h12 => AnyQ.slices_SortFunc_small_sorted Try.sortEntry 3 impl_AssignTag_sort.agg_ impl_AssignTag_sort.size_ (fun x : Go.Proofs.Ytgbfbdeeaogigaa.Hf.Keyed (fun x : S43 => x.f0) => (fun x : S43 => [.int .i64 x.f0, .int .i64 x.f1, .bool x.f2]) x.val) (fun _ => rfl) (fun x v hv => by simp at hv; rcases hv with rfl | rfl | rfl <;> rfl) (fun x y => x.val.f0 - y.val.f0) 31 #[] impl_AssignTag_sort.swo blk 0 cap dd w_ (enters_of Try.func31 (by kernel_rfl) rfl) (fun _ _ _ _ x y => impl_AssignTag_sort.lit x.val y.val x.2 y.2 _) hH hb h12 (fun n_ W_ hn_ => (Any.bits_Len Try.bitsLen n_ W_ (by omega) (by omega)).mono fun _ _ h_ => ⟨⟨_, h_.1⟩, h_.2⟩))
   P0_ u9000_ l0 r w0 w hB ho0 hc (Option.some.inj h).symm
 ·cases h
/-! ### impl_AssignTag: function 8 -/
mutual
def impl_AssignTag.j0 : Nat → List (S43) → Int → List (S43) → Bool → Option ((List (S43)) × Int × Bool)
 | 0, _, _, _, _ => none
 | k + 1, x0, x1, x7, x24 => if x24 = true then (some (x7, (-1), false)) else (impl_AssignTag.l0 k x0 x1 x7 0)
def impl_AssignTag.l0 : Nat → List (S43) → Int → List (S43) → Int → Option ((List (S43)) × Int × Bool)
 | 0, _, _, _, _ => none
 | k + 1, x0, x1, x7, x8 => (impl_IsReserved.f x8).bind fun t117 => (if t117 = true then (impl_AssignTag.l0 k x0 x1 x7 (wrap64 (x8 + 1))) else ((impl_entryOf.f x0 x8).bind fun t118 => (if t118 ≥ 0 then (impl_AssignTag.l0 k x0 x1 x7 (wrap64 (x8 + 1))) else (if x7.length < 5864062014805 then ((impl_AssignTag_sort.f (x7 ++ [(⟨x8, x1, false⟩ : S43)])).bind fun t122 => (some (t122, x8, true))) else (none)))))
end
def impl_AssignTag.f (k : Nat) (l0 : List (S43)) (a1 : Int) : Option ((List (S43)) × Int × Bool) := (some (([] : List (S43)) : List (S43))).bind fun y109 => (if y109.length + l0.length < 5864062014805 then ((some (y109 ++ l0 : List (S43))).bind fun y112 => ((impl_IsRegistry.f k l0).bind fun t115 => (if t115 = true then ((impl_InRange.f a1 0 9).bind fun t116 => (if t116 = true then (impl_AssignTag.j0 k l0 a1 y112 ((l0.length : Int) == 12)) else (impl_AssignTag.j0 k l0 a1 y112 true))) else (impl_AssignTag.j0 k l0 a1 y112 true)))) else (none))
theorem impl_AssignTag.mono_l : ∀ k, (∀ y0 y1 y2 y3, LeO (impl_AssignTag.j0 k y0 y1 y2 y3) (impl_AssignTag.j0 (k + 1) y0 y1 y2 y3)) ∧ (∀ y0 y1 y2 y3, LeO (impl_AssignTag.l0 k y0 y1 y2 y3) (impl_AssignTag.l0 (k + 1) y0 y1 y2 y3))
 | 0 => ⟨fun _ _ _ _ r h => by simp [impl_AssignTag.j0] at h, fun _ _ _ _ r h => by simp [impl_AssignTag.l0] at h⟩
 | k + 1 => by
  obtain ⟨ih0, ih1⟩ := impl_AssignTag.mono_l k
  refine ⟨?_, ?_⟩
  ·intro y0 y1 y2 y3
   unfold impl_AssignTag.j0
   repeat' first
   | (with_reducible exact ih0 _ _ _ _)
   | (with_reducible exact ih1 _ _ _ _)
   | (with_reducible exact impl_IsRegistry.mono _ _)
   | (with_reducible exact LeO.refl _)
   | (with_reducible exact LeO.none _)
   | (with_reducible refine LeO.ite ?_ ?_)
   | (with_reducible refine LeO.bind ?_ (fun _ => ?_))
   | exact ih0 _ _ _ _
   | exact ih1 _ _ _ _
   | exact impl_IsRegistry.mono _ _
   | exact LeO.none _
   | refine LeO.ite ?_ ?_
   | refine LeO.bind ?_ (fun _ => ?_)
  ·intro y0 y1 y2 y3
   unfold impl_AssignTag.l0
   repeat' first
   | (with_reducible exact ih0 _ _ _ _)
   | (with_reducible exact ih1 _ _ _ _)
   | (with_reducible exact impl_IsRegistry.mono _ _)
   | (with_reducible exact LeO.refl _)
   | (with_reducible exact LeO.none _)
   | (with_reducible refine LeO.ite ?_ ?_)
   | (with_reducible refine LeO.bind ?_ (fun _ => ?_))
   | exact ih0 _ _ _ _
   | exact ih1 _ _ _ _
   | exact impl_IsRegistry.mono _ _
   | exact LeO.none _
   | refine LeO.ite ?_ ?_
   | refine LeO.bind ?_ (fun _ => ?_)
theorem impl_AssignTag.mono : ∀ a0 a1 k, LeO (impl_AssignTag.f k a0 a1) (impl_AssignTag.f (k + 1) a0 a1) := by
 intro a0 a1 k
 obtain ⟨ih0, ih1⟩ := impl_AssignTag.mono_l k
 unfold impl_AssignTag.f
 repeat' first
   | (with_reducible exact ih0 _ _ _ _)
   | (with_reducible exact ih1 _ _ _ _)
   | (with_reducible exact impl_IsRegistry.mono _ _)
   | (with_reducible exact LeO.refl _)
   | (with_reducible exact LeO.none _)
   | (with_reducible refine LeO.ite ?_ ?_)
   | (with_reducible refine LeO.bind ?_ (fun _ => ?_))
   | exact ih0 _ _ _ _
   | exact ih1 _ _ _ _
   | exact impl_IsRegistry.mono _ _
   | exact LeO.none _
   | refine LeO.ite ?_ ?_
   | refine LeO.bind ?_ (fun _ => ?_)
set_option maxHeartbeats 8000000 in
set_option maxRecDepth 100000 in
theorem impl_AssignTag.calls (k : Nat) (A0 : Option Addr) (c0 : Nat) (l0 : List (S43)) (a1 : Int) (r1 : List (S43)) (r2 : Int) (r3 : Bool) (w : World) (hr0 : Kd.C k43 w A0 l0.length l0) (hc0 : l0.length ≤ c0) (h : impl_AssignTag.f k l0 a1 = some (r1, r2, r3)) :
  Calls Try.prog 8 #[.slice A0 l0.length c0, .int .i64 a1] w fun e w' => ∃ v0_ : Value, e = .returned (.tuple #[v0_, .int .i64 r2, .bool r3]) ∧ Kd.R k43 43 w' w.heap.size (fun _ => True) v0_ r1 ∧ Below w.heap.size w w' := by
 have hu43 := Try.underlying43
 have HR0 := Aside0.mk hr0
 have HC0 := Aside0.mk hc0
 clear hr0 hc0
 have HB := Aside0.mk (Below.refl w.heap.size w)
 have H : ((some (([] : List (S43)) : List (S43))).bind fun y109 => (if y109.length + l0.length < 5864062014805 then ((some (y109 ++ l0 : List (S43))).bind fun y112 => ((impl_IsRegistry.f k l0).bind fun t115 => (if t115 = true then ((impl_InRange.f a1 0 9).bind fun t116 => (if t116 = true then (impl_AssignTag.j0 k l0 a1 y112 ((l0.length : Int) == 12)) else (impl_AssignTag.j0 k l0 a1 y112 true))) else (impl_AssignTag.j0 k l0 a1 y112 true)))) else (none))) = some (r1, r2, r3) := h
 clear h
 obtain ⟨y109, hy109⟩ : ∃ y_ : List (S43), y_ = (([] : List (S43))) := ⟨_, rfl⟩
 replace H : (if y109.length + l0.length < 5864062014805 then ((some (y109 ++ l0 : List (S43))).bind fun y112 => ((impl_IsRegistry.f k l0).bind fun t115 => (if t115 = true then ((impl_InRange.f a1 0 9).bind fun t116 => (if t116 = true then (impl_AssignTag.j0 k l0 a1 y112 ((l0.length : Int) == 12)) else (impl_AssignTag.j0 k l0 a1 y112 true))) else (impl_AssignTag.j0 k l0 a1 y112 true)))) else (none)) = some (r1, r2, r3) := by first | (rw [hy109]; with_reducible exact H) | (have H2_ := (Option.bind_some _ _).symm.trans H; rw [hy109]; with_reducible exact H2_) | (have H2_ := (Option.bind_some _ _).symm.trans H; with_reducible exact H2_) | with_reducible exact H | (rw [hy109]; exact H) | exact H
 have Ny109 := Aside0.mk hy109
 clear hy109
 by_cases c3 : y109.length + l0.length < 5864062014805
 ·rw [if_pos c3] at H
  have LMc3 := Aside0.mk c3
  clear c3
  obtain ⟨y112, hy112⟩ : ∃ y_ : List (S43), y_ = (y109 ++ l0) := ⟨_, rfl⟩
  replace H : ((impl_IsRegistry.f k l0).bind fun t115 => (if t115 = true then ((impl_InRange.f a1 0 9).bind fun t116 => (if t116 = true then (impl_AssignTag.j0 k l0 a1 y112 ((l0.length : Int) == 12)) else (impl_AssignTag.j0 k l0 a1 y112 true))) else (impl_AssignTag.j0 k l0 a1 y112 true))) = some (r1, r2, r3) := by first | (rw [hy112]; with_reducible exact H) | (have H2_ := (Option.bind_some _ _).symm.trans H; rw [hy112]; with_reducible exact H2_) | (have H2_ := (Option.bind_some _ _).symm.trans H; with_reducible exact H2_) | with_reducible exact H | (rw [hy112]; exact H) | exact H
  have Ny112 := Aside0.mk hy112
  clear hy112
  have HC4 := Aside0.mk H
  clear H
  go_enter Try.func8, Try.ntmps8
  go_upto_region 2 with (first | ((with_reducible refine gate_dst (N := 9) rfl ?_); (try (refine gate_guard (by rfl) ?_; dsimp only)); refine Kd.R_lit k43 _ 43 ?hg (N := 9) ?hd (xs := ([] : List (S43))) (inner := []) (ok := fun _ => True) (okp := fun _ => True) ?hr ?hp (fun _ hk => hk) trivial (Below.refl _ _) (Nat.le_refl _) (by simp) ?_; (case hd => rfl); (case hg => rfl); (case hr => first | (go_simp; done) | (go_simp; rfl)); (case hp => exact (Reps.none _ _)); intro v110 w5 ho6 hb hg_ hnew_; clear hg_ hnew_; (first | rw [← Ny109.out] at ho6 | (simp only [Int.reduceToNat] at ho6; rw [← Ny109.out] at ho6)); have HO111 := Aside0.mk (Kd.R_lower ho6 (below_size (zB HB))); replace HB := bS HB hb; clear hb ho6) | ((with_reducible refine gate_builtin (b := .append) (xs := #[.tmp 9, .tmp 10]) rfl ?_); (try (refine gate_guard (by rfl) ?_; dsimp only)); at_builtin; refine Kd.R_append_rows k43 (w0 := w) w.heap.size rfl (.tmp 9) (.tmp 10) 24 43 (.agg #[(.int .i64 0), (.int .i64 0), (.bool false)]) 24 rfl Try.underlying24 info43 rfl (by decide) (by omega) v110 y109 l0 _ _ _ (fun _ => True) (fun _ => False) rfl rfl ?aO ?aR (fun _ _ h => h) (fun _ h => h.elim) ?aF ?aB ?aS ?aL ?_; (case aR => repeat (first | exact (Kd.C_below HR0.out HB.out) | (with_reducible refine Kd.C_alloc ?_ _) | (with_reducible refine Kd.C_drewN ?_ _) | (with_reducible refine Kd.C_drew ?_))); (case aB => exact (zB HB)); (case aF => exact (fun _ _ => trivial)); (case aO => exact (zR HO111)); (case aS => exact (below_size (zB HB))); (case aL => have := LMc3.out; omega); intro v113 w7 ho hb hg hat; rw [← Ny112.out] at ho; replace HB := Aside0.mk (hb); have HO114 := Aside0.mk (ho); clear HO111; clear ho hb hg hat))
  (try simp only [Act.put, List.setIfInBounds_toArray, List.set_cons_zero, List.set_cons_succ])
  go_cut [24] (fun v24 wc => ∃ (kq : Nat) (x24_3 : Bool), v24 = .bool x24_3 ∧ Aside0 (impl_AssignTag.j0 kq l0 a1 y112 x24_3 = some (r1, r2, r3)) ∧ Aside0 (kq ≤ k) ∧ Aside0 (Kd.R k43 43 wc w.heap.size (fun _ => True) v113 y112) ∧ Aside0 (Below w.heap.size w wc))
  case first =>
   have H := HC4.out
   clear HC4
   obtain ⟨t115, A8, H⟩ := bindS H
   by_cases c9 : t115 = true
   ·subst c9
    have H1 : ((impl_InRange.f a1 0 9).bind fun t116 => (if t116 = true then (impl_AssignTag.j0 k l0 a1 y112 ((l0.length : Int) == 12)) else (impl_AssignTag.j0 k l0 a1 y112 true))) = some (r1, r2, r3) := by rw [if_pos rfl] at H; exact H
    clear H
    have H := H1
    clear H1
    obtain ⟨t116, A10, H⟩ := bindS H
    by_cases c11 : t116 = true
    ·subst c11
     have H1 : (impl_AssignTag.j0 k l0 a1 y112 ((l0.length : Int) == 12)) = some (r1, r2, r3) := by rw [if_pos rfl] at H; exact H
     clear H
     have H := H1
     clear H1
     have H' := Aside0.mk H
     clear H
     go_wp2_with (first | ((with_reducible refine gate_callee (f := 14) rfl ?_); refine goesL_ (some 13) rfl rfl Try.func14 (by kernel_rfl) rfl #[.slice A0 l0.length c0] rfl zG ?_; (with_reducible refine (impl_IsRegistry.calls k _ _ l0 true _ ?side1 ?side2 A8.out).mono ?_); (case side1 => exact cS HR0 HB); (case side2 => exact HC0.out); rintro e w12 ⟨rfl, hb⟩; refine ⟨_, rfl, ?_⟩; replace HO114 := Aside0.mk (Kd.R_below (zR HO114) hb); replace HB := bS HB hb; (try clear hb)) | (go_at_call 28; (with_reducible refine (impl_InRange.calls a1 0 9 true _ A10.out).mono ?_); rintro e w' ⟨rfl, ⟨nd, rfl⟩⟩))
     go_meet
     case rel => exact ⟨_, (((l0.length : Int) == 12)), zF, H', ⟨by first | omega | exact Nat.le_refl _⟩, ⟨zR HO114⟩, ⟨zB HB⟩⟩
    ·replace c11 := Bool.eq_false_iff.mpr c11
     subst c11
     have H1 : (impl_AssignTag.j0 k l0 a1 y112 true) = some (r1, r2, r3) := by rw [if_neg (show ¬ (false = true) by decide)] at H; exact H
     clear H
     have H := H1
     clear H1
     have H' := Aside0.mk H
     clear H
     go_wp2_with (first | ((with_reducible refine gate_callee (f := 14) rfl ?_); refine goesL_ (some 13) rfl rfl Try.func14 (by kernel_rfl) rfl #[.slice A0 l0.length c0] rfl zG ?_; (with_reducible refine (impl_IsRegistry.calls k _ _ l0 true _ ?side1 ?side2 A8.out).mono ?_); (case side1 => exact cS HR0 HB); (case side2 => exact HC0.out); rintro e w13 ⟨rfl, hb⟩; refine ⟨_, rfl, ?_⟩; replace HO114 := Aside0.mk (Kd.R_below (zR HO114) hb); replace HB := bS HB hb; (try clear hb)) | (go_at_call 28; (with_reducible refine (impl_InRange.calls a1 0 9 false _ A10.out).mono ?_); rintro e w' ⟨rfl, ⟨nd, rfl⟩⟩))
     go_meet
     case rel => exact ⟨_, (true), zF, H', ⟨by first | omega | exact Nat.le_refl _⟩, ⟨zR HO114⟩, ⟨zB HB⟩⟩
   ·replace c9 := Bool.eq_false_iff.mpr c9
    subst c9
    have H1 : (impl_AssignTag.j0 k l0 a1 y112 true) = some (r1, r2, r3) := by rw [if_neg (show ¬ (false = true) by decide)] at H; exact H
    clear H
    have H := H1
    clear H1
    have H' := Aside0.mk H
    clear H
    go_wp2_with (first | ((with_reducible refine gate_callee (f := 14) rfl ?_); refine goesL_ (some 13) rfl rfl Try.func14 (by kernel_rfl) rfl #[.slice A0 l0.length c0] rfl zG ?_; (with_reducible refine (impl_IsRegistry.calls k _ _ l0 false _ ?side1 ?side2 A8.out).mono ?_); (case side1 => exact cS HR0 HB); (case side2 => exact HC0.out); rintro e w14 ⟨rfl, hb⟩; refine ⟨_, rfl, ?_⟩; replace HO114 := Aside0.mk (Kd.R_below (zR HO114) hb); replace HB := bS HB hb; (try clear hb)))
    go_meet
    case rel => exact ⟨_, (true), zF, H', ⟨by first | omega | exact Nat.le_refl _⟩, ⟨zR HO114⟩, ⟨zB HB⟩⟩
  case rest =>
   clear HC4
   try clear c1
   try clear p2
   try clear c3
   try clear c8
   try clear c9
   try clear c11
   try clear c14
   obtain ⟨kq, x24_3, rfl, HA, HJ3, HO_7, HB⟩ := hcut
   cases kq with
   | zero => exact absurd HA.out (by simp [impl_AssignTag.j0])
   | succ kj3 =>
    have H := HA.out
    clear HA
    simp only [impl_AssignTag.j0] at H
    by_cases c15 : x24_3 = true
    ·subst c15
     have H1 : (some (y112, (-1), false)) = some (r1, r2, r3) := by rw [if_pos rfl] at H; exact H
     clear H
     have H := H1
     clear H1
     simp only [Option.some.injEq, Prod.mk.injEq] at H
     obtain ⟨rfl, rfl, rfl⟩ := H
     go_wp2
     go_ret3
     exact ⟨_, zE, by (with_reducible repeat (first | apply Kd.R_alloc | apply Kd.R_drewN | apply Kd.R_drew)); exact HO_7.out, zB HB⟩
    ·replace c15 := Bool.eq_false_iff.mpr c15
     subst c15
     have H1 : (impl_AssignTag.l0 kj3 l0 a1 y112 0) = some (r1, r2, r3) := by rw [if_neg (show ¬ (false = true) by decide)] at H; exact H
     clear H
     have H := H1
     clear H1
     have H' := Aside0.mk H
     clear H
     go_wp2
     go_loopg [8] kj3 (fun kq v8 w' => ∃ (x8_2 : Int), v8 = .int .i64 x8_2 ∧ Aside0 (impl_AssignTag.l0 kq l0 a1 y112 x8_2 = some (r1, r2, r3)) ∧ Aside0 (kq ≤ kj3) ∧ Aside0 (Kd.R k43 43 w' w.heap.size (fun _ => True) v113 y112) ∧ Aside0 (Below w.heap.size w w'))
     case atStart => exact ⟨(0), zF, H', ⟨Nat.le_refl _⟩, ⟨zR HO_7⟩, ⟨zB HB⟩⟩
     case round =>
      clear H'
      try clear c1
      try clear p2
      try clear c3
      try clear c8
      try clear c9
      try clear c11
      try clear c14
      try clear c15
      try clear p2
      obtain ⟨x8_2, rfl, HA, HK2, HO_7, HB⟩ := hrel
      cases gk with
      | zero => exact absurd HA.out (by simp [impl_AssignTag.l0])
      | succ k2 =>
       have H := HA.out
       clear HA
       simp only [impl_AssignTag.l0] at H
       obtain ⟨t117, A16, H⟩ := bindS H
       by_cases c17 : t117 = true
       ·subst c17
        have H1 : (impl_AssignTag.l0 k2 l0 a1 y112 (wrap64 (x8_2 + 1))) = some (r1, r2, r3) := by rw [if_pos rfl] at H; exact H
        clear H
        have H := H1
        clear H1
        have H' := Aside0.mk H
        clear H
        go_wp2_with (first | ((with_reducible refine gate_callee (f := 16) rfl ?_); refine goesL_ (some 27) rfl rfl Try.func16 (by kernel_rfl) rfl #[.int .i64 x8_2] rfl zG ?_; (with_reducible refine (impl_IsReserved.calls x8_2 true _ A16.out).mono ?_); rintro e w' ⟨rfl, ⟨nd, rfl⟩⟩; refine ⟨_, rfl, ?_⟩))
        go_roundg k2
        case measure => have := HJ3.out; have := HK2.out; omega
        case rel => exact ⟨(wrap64 (x8_2 + 1)), zF, H', ⟨by have := HJ3.out; have := HK2.out; omega⟩, ⟨zR HO_7⟩, ⟨zB HB⟩⟩
       ·replace c17 := Bool.eq_false_iff.mpr c17
        subst c17
        have H1 : ((impl_entryOf.f l0 x8_2).bind fun t118 => (if t118 ≥ 0 then (impl_AssignTag.l0 k2 l0 a1 y112 (wrap64 (x8_2 + 1))) else (if y112.length < 5864062014805 then ((impl_AssignTag_sort.f (y112 ++ [(⟨x8_2, a1, false⟩ : S43)])).bind fun t122 => (some (t122, x8_2, true))) else (none)))) = some (r1, r2, r3) := by rw [if_neg (show ¬ (false = true) by decide)] at H; exact H
        clear H
        have H := H1
        clear H1
        obtain ⟨t118, A18, H⟩ := bindS H
        by_cases c19 : t118 ≥ 0
        ·rw [if_pos c19] at H
         have c19b0 : decide (0 ≤ t118) = true := decide_eq_true c19
         clear c19
         have H' := Aside0.mk H
         clear H
         go_wp2_with (first | ((with_reducible refine gate_callee (f := 16) rfl ?_); refine goesL_ (some 27) rfl rfl Try.func16 (by kernel_rfl) rfl #[.int .i64 x8_2] rfl zG ?_; (with_reducible refine (impl_IsReserved.calls x8_2 false _ A16.out).mono ?_); rintro e w' ⟨rfl, ⟨nd, rfl⟩⟩; refine ⟨_, rfl, ?_⟩) | (go_at_call 29; (with_reducible refine (impl_entryOf.calls _ _ l0 x8_2 t118 _ ?side1 ?side2 A18.out).mono ?_); (case side1 => repeat (first | exact (Kd.C_below HR0.out (zB HB)) | (with_reducible refine Kd.C_alloc ?_ _) | (with_reducible refine Kd.C_drewN ?_ _) | (with_reducible refine Kd.C_drew ?_))); (case side2 => exact HC0.out); rintro e w20 ⟨rfl, hb⟩; replace HO_7 := Aside0.mk (Kd.R_below (zR HO_7) hb); replace HB := bS HB hb; (try clear hb)))
         go_roundg k2
         case measure => have := HJ3.out; have := HK2.out; omega
         case rel => exact ⟨(wrap64 (x8_2 + 1)), zF, H', ⟨by have := HJ3.out; have := HK2.out; omega⟩, ⟨zR HO_7⟩, ⟨zB HB⟩⟩
        ·rw [if_neg c19] at H
         have c19b0 : decide (0 ≤ t118) = false := decide_eq_false c19
         clear c19
         obtain ⟨c21, H⟩ := ifS H
         have LMc21 := Aside0.mk c21
         clear c21
         obtain ⟨y119, hy119⟩ : ∃ y_ : List (S43), y_ = (y112 ++ [(⟨x8_2, a1, false⟩ : S43)]) := ⟨_, rfl⟩
         replace H : ((impl_AssignTag_sort.f y119).bind fun t122 => (some (t122, x8_2, true))) = some (r1, r2, r3) := by first | (rw [hy119]; with_reducible exact H) | (have H2_ := (Option.bind_some _ _).symm.trans H; rw [hy119]; with_reducible exact H2_) | (have H2_ := (Option.bind_some _ _).symm.trans H; with_reducible exact H2_) | with_reducible exact H | (rw [hy119]; exact H) | exact H
         have Ny119 := Aside0.mk hy119
         clear hy119
         obtain ⟨t122, A22, H⟩ := bindS H
         simp only [Option.some.injEq, Prod.mk.injEq] at H
         obtain ⟨rfl, rfl, rfl⟩ := H
         go_wp2_with (first | ((with_reducible refine gate_callee (f := 16) rfl ?_); refine goesL_ (some 27) rfl rfl Try.func16 (by kernel_rfl) rfl #[.int .i64 x8_2] rfl zG ?_; (with_reducible refine (impl_IsReserved.calls x8_2 false _ A16.out).mono ?_); rintro e w' ⟨rfl, ⟨nd, rfl⟩⟩; refine ⟨_, rfl, ?_⟩) | (go_at_call 29; (with_reducible refine (impl_entryOf.calls _ _ l0 x8_2 t118 _ ?side1 ?side2 A18.out).mono ?_); (case side1 => repeat (first | exact (Kd.C_below HR0.out (zB HB)) | (with_reducible refine Kd.C_alloc ?_ _) | (with_reducible refine Kd.C_drewN ?_ _) | (with_reducible refine Kd.C_drew ?_))); (case side2 => exact HC0.out); rintro e w23 ⟨rfl, hb⟩; replace HO_7 := Aside0.mk (Kd.R_below (zR HO_7) hb); replace HB := bS HB hb; (try clear hb)) | ((with_reducible refine gate_builtin (b := .append) (xs := #[.tmp 36, .tmp 40]) rfl ?_); (try (refine gate_guard (by rfl) ?_; dsimp only)); at_builtin; refine Kd.R_append k43 (w0 := w) w.heap.size rfl (.tmp 36) (.tmp 40) 24 43 (.agg #[(.int .i64 0), (.int .i64 0), (.bool false)]) 24 rfl Try.underlying24 info43 rfl (by decide) (by omega) v113 y112 (⟨x8_2, a1, false⟩ : S43) [.int .i64 x8_2, .int .i64 a1, .bool false] (fun _ => True) (fun _ => False) rfl rfl ?aP (fun _ hk => hk.elim) ?aF ?aO ?aB ?aS ?aL ?_; (case aP => exact k43_mkM _ _ _ (⟨x8_2, a1, false⟩ : S43)); (case aB => exact (zB HB)); (case aF => exact (fun _ _ => trivial)); (case aO => exact (zR HO_7)); (case aS => exact (below_size (zB HB))); (case aL => have := LMc21.out; omega); intro v120 w24 ho hb hg hat; rw [← Ny119.out] at ho; replace HB := Aside0.mk (hb); have HO121 := Aside0.mk (ho); clear HO_7; clear ho hb hg hat; obtain ⟨Ao25, co25, eo25⟩ := Kd.R_slice HO121.out; subst eo25) | ((with_reducible refine gate_callee (f := 30) rfl ?_); refine goesL_ (some 43) rfl rfl Try.func30 (by kernel_rfl) rfl #[.slice Ao25 y119.length co25, .func (.func 31) #[] #[]] rfl zG ?_; (with_reducible refine (impl_AssignTag_sort.calls (fun k_ => some k_ = (.slice Ao25 y119.length co25 : Value).ownBlock) (.slice Ao25 y119.length co25) y119 t122 w _ ?side1 ?side2 A22.out).mono ?_); (case side1 => repeat (first | (with_reducible first | exact HB.out | apply below_alloc | apply pw_below_drewN | apply below_drew1) | exact HB.out)); (case side2 => exact Kd.R_tight rfl HO121.out); rintro e w26 ⟨rfl, hy0, hb, hkp⟩; refine ⟨_, rfl, ?_⟩; replace HO121 := Aside0.mk (Kd.R_reok rfl hy0 (fun k_ e_ => HO121.out.1 k_ e_)); replace HB := Aside0.mk (hb); (try clear hb); (try clear hkp); (try clear hy0)))
         go_ret3
         exact ⟨_, zE, by (with_reducible repeat (first | apply Kd.R_alloc | apply Kd.R_drewN | apply Kd.R_drew)); exact HO121.out, zB HB⟩
 ·rw [if_neg c3] at H
  exact absurd H (by simp)

/-! ### laws_big: function 12 -/
def laws_big.f (l0 : List Int) : Option (Bool) := some (decide ((l0.length : Int) > 1048576))
set_option maxHeartbeats 8000000 in
set_option maxRecDepth 100000 in
theorem laws_big.calls (A0 : Option Addr) (c0 : Nat) (l0 : List Int) (r : Bool) (w : World) (hr0 : Kd.C (Kd.int .u8) w A0 l0.length l0) (hc0 : l0.length ≤ c0) (h : laws_big.f l0 = some r) :
  Calls Try.prog 12 #[.slice A0 l0.length c0] w fun e w' => e = .returned (.bool r) ∧ Drawn0 w w' := by
 have HR0 := Aside0.mk hr0
 have HC0 := Aside0.mk hc0
 clear hr0 hc0
 have H : (some (decide ((l0.length : Int) > 1048576))) = some r := h
 clear h
 obtain rfl := Option.some.inj H
 go_enter Try.func12, Try.ntmps12
 go_wp2
 go_ret
 exact ⟨by first | rfl | (simp; done) | (simp [*]; done), by repeat (first | exact Drawn0.refl _ | apply Drawn0.step)⟩

/-- A state of type 63 at block g of W; what its slices lead to came in by w0. -/
def IsS63 (w0 W : World) (g : Nat) (f0 : List Int) (f1 : Int) (f2 : Int) : Prop := ∃ A0 c0, W.heap[g]? = some (.cells #[.slice A0 f0.length c0, .int .i64 f1, .int .i64 f2] 63 (0, 0)) ∧ w0.heap.size ≤ g ∧ Kd.C (Kd.int .u8) w0 A0 f0.length f0
theorem IsS63.grown {w0 W : World} {g : Nat} {f0 : List Int} {f1 : Int} {f2 : Int} {W1 : World} {row : Option Nat} (h : IsS63 w0 W g f0 f1 f2) (hw : W.grownBy W1 row) (hne : some g ≠ row) : IsS63 w0 W1 g f0 f1 f2 := by
 obtain ⟨A0, c0, hb, hg, hr0⟩ := h
 exact ⟨A0, c0, blk_grown hb hw hne, hg, hr0⟩
theorem IsS63.own_neN {w0 W : World} {g : Nat} {f0 : List Int} {f1 : Int} {f2 : Int} {α : Type} {d : Kd α} {e : Nat} {base : Nat} {ok : Nat → Prop} {v : Value} {xs : List α} (h : IsS63 w0 W g f0 f1 f2) (ho : Kd.N d e W base ok v xs) (ht : e ≠ 63) : some g ≠ v.ownBlock := by
 obtain ⟨A0, c0, hb, hg, hr0⟩ := h
 exact Kd.N_ne ho hb ht
theorem IsS63.fresh {w0 W : World} {g : Nat} {f0 : List Int} {f1 : Int} {f2 : Int} (h : IsS63 w0 W g f0 f1 f2) : ∀ k, W.heap.size ≤ k → k ≠ g := by
 obtain ⟨A0, c0, hb, hg, hr0⟩ := h
 exact Kd.freshB hb
theorem IsS63.kept {w0 W : World} {g : Nat} {f0 : List Int} {f1 : Int} {f2 : Int} {W1 : World} {S : Nat → Prop} (h : IsS63 w0 W g f0 f1 f2) (hk : Kept W W1 S) (hne : ¬ S g) : IsS63 w0 W1 g f0 f1 f2 := by
 obtain ⟨A0, c0, hb, hg, hr0⟩ := h
 exact ⟨A0, c0, blk_kept hb hk hne, hg, hr0⟩
theorem IsS63.below {w0 W : World} {g : Nat} {f0 : List Int} {f1 : Int} {f2 : Int} {W1 : World} (h : IsS63 w0 W g f0 f1 f2) (hw : Below W.heap.size W W1) : IsS63 w0 W1 g f0 f1 f2 := h.grown (grown_of_below hw none) (by simp)
theorem IsS63.alloc {w0 W : World} {g : Nat} {f0 : List Int} {f1 : Int} {f2 : Int} (h : IsS63 w0 W g f0 f1 f2) (o : Obj) : IsS63 w0 (W.alloc o) g f0 f1 f2 := h.below (below_alloc (Below.refl _ _) o)
theorem IsS63.drewN {w0 W : World} {g : Nat} {f0 : List Int} {f1 : Int} {f2 : Int} (h : IsS63 w0 W g f0 f1 f2) (m : Nat) : IsS63 w0 (W.drewN m) g f0 f1 f2 := h
theorem IsS63.drew {w0 W : World} {g : Nat} {f0 : List Int} {f1 : Int} {f2 : Int} (h : IsS63 w0 W g f0 f1 f2) : IsS63 w0 W.drew g f0 f1 f2 := h
theorem IsS63.at_ {w0 W : World} {g : Nat} {f0 : List Int} {f1 : Int} {f2 : Int} {w' : World} {m : Nat} (hq : W.drewN m = w') (h : IsS63 w0 W g f0 f1 f2) : IsS63 w0 w' g f0 f1 f2 := by subst hq; exact IsS63.drewN h m
theorem IsS63.apart {w0 W : World} {g : Nat} {f0 : List Int} {f1 : Int} {f2 : Int} {α : Type} {d : Kd α} {e : Nat} {base : Nat} {ok : Nat → Prop} {v : Value} {xs : List α} (h : IsS63 w0 W g f0 f1 f2) (ho : d.R e W base ok v xs) (ht : ∀ q, q ∈ e :: d.E → q ≠ 63) : d.R e W base (fun k => ok k ∧ k ≠ g) v xs := by
 obtain ⟨A0, c0, hb, hg, hr0⟩ := h
 exact Kd.R_types ho hb ht
theorem IsS63.own_ne {w0 W : World} {g : Nat} {f0 : List Int} {f1 : Int} {f2 : Int} {α : Type} {d : Kd α} {e : Nat} {base : Nat} {ok : Nat → Prop} {v : Value} {xs : List α} (h : IsS63 w0 W g f0 f1 f2) (ho : d.R e W base ok v xs) (ht : e ≠ 63) : some g ≠ v.ownBlock := by
 obtain ⟨A0, c0, hb, hg, hr0⟩ := h
 exact Kd.R_ne ho hb ht
theorem IsS63.apartQ {w0 W : World} {g : Nat} {f0 : List Int} {f1 : Int} {f2 : Int} {α : Type} {d : Kd α} {e : Nat} {base : Nat} {ok : Nat → Prop} {v : Value} {xs : List α} (h : IsS63 w0 W g f0 f1 f2) (ho : d.Q e W base ok v xs) (ht : ∀ q, q ∈ e :: d.E → q ≠ 63) : d.Q e W base (fun k => ok k ∧ k ≠ g) v xs := by
 obtain ⟨A0, c0, hb, hg, hr0⟩ := h
 exact Kd.Q_types ho hb ht
theorem IsS63.own_neQ {w0 W : World} {g : Nat} {f0 : List Int} {f1 : Int} {f2 : Int} {α : Type} {d : Kd α} {e : Nat} {base : Nat} {ok : Nat → Prop} {v : Value} {xs : List α} (h : IsS63 w0 W g f0 f1 f2) (ho : d.Q e W base ok v xs) (ht : e ≠ 63) : some g ≠ v.ownBlock := by
 obtain ⟨A0, c0, hb, hg, hr0⟩ := h
 exact Kd.Q_ne ho hb ht
theorem IsS63.apartS {w0 W : World} {g : Nat} {f0 : List Int} {f1 : Int} {f2 : Int} {α : Type} {d : Kd α} {e : Nat} {base : Nat} {ok : Nat → Prop} {v : Value} {xs : List α} (h : IsS63 w0 W g f0 f1 f2) (ho : d.S e W base ok v xs) (ht : ∀ q, q ∈ e :: d.E → q ≠ 63) : d.S e W base (fun k => ok k ∧ k ≠ g) v xs := by
 obtain ⟨A0, c0, hb, hg, hr0⟩ := h
 exact Kd.S_types ho hb ht
theorem IsS63.own_neS {w0 W : World} {g : Nat} {f0 : List Int} {f1 : Int} {f2 : Int} {α : Type} {d : Kd α} {e : Nat} {base : Nat} {ok : Nat → Prop} {v : Value} {xs : List α} (h : IsS63 w0 W g f0 f1 f2) (ho : d.S e W base ok v xs) (ht : e ≠ 63) : some g ≠ v.ownBlock := by
 obtain ⟨A0, c0, hb, hg, hr0⟩ := h
 exact Kd.S_ne ho hb ht
theorem IsS63.lt {w0 W : World} {g : Nat} {f0 : List Int} {f1 : Int} {f2 : Int} (h : IsS63 w0 W g f0 f1 f2) : g < W.heap.size := by
 obtain ⟨A0, c0, hb, hg, hr0⟩ := h
 exact blk_lt hb
theorem IsS63.ge {w0 W : World} {g : Nat} {f0 : List Int} {f1 : Int} {f2 : Int} (h : IsS63 w0 W g f0 f1 f2) : w0.heap.size ≤ g := by
 obtain ⟨A0, c0, hb, hg, hr0⟩ := h
 exact hg
theorem IsS63.ne_blk {w0 W : World} {g : Nat} {f0 : List Int} {f1 : Int} {f2 : Int} {a : Nat} {cs : Array Value} {t : TypeId} {fr : Nat × Nat} (h : IsS63 w0 W g f0 f1 f2) (hb2 : W.heap[a]? = some (.cells cs t fr)) (ht : t ≠ 63) : g ≠ a := by
 obtain ⟨A0, c0, hb, hg, hr0⟩ := h
 rintro rfl
 rw [hb] at hb2
 injection hb2 with hb2
 injection hb2 with _ ht2
 exact ht ht2.symm
theorem IsS63.far {w0 W : World} {g : Nat} {f0 : List Int} {f1 : Int} {f2 : Int} {p : Addr} (h : IsS63 w0 W g f0 f1 f2) (hne : g ≠ p.block) (u : Value) : IsS63 w0 (W.setCell p u) g f0 f1 f2 := by
 obtain ⟨A0, c0, hb, hg, hr0⟩ := h
 exact ⟨A0, c0, blk_far hb hne u, hg, hr0⟩
theorem cellS63_0 {W : World} {g : Nat} {A0 : Option Addr} {c0 : Nat} {f0 : List Int} {f1 : Int} {f2 : Int} (h : W.heap[g]? = some (.cells #[.slice A0 f0.length c0, .int .i64 f1, .int .i64 f2] 63 (0, 0))) : W.cell? ⟨g, 0, none⟩ = some (.slice A0 f0.length c0) := (blk_cell h 0).trans rfl
theorem cellS63_1 {W : World} {g : Nat} {A0 : Option Addr} {c0 : Nat} {f0 : List Int} {f1 : Int} {f2 : Int} (h : W.heap[g]? = some (.cells #[.slice A0 f0.length c0, .int .i64 f1, .int .i64 f2] 63 (0, 0))) : W.cell? ⟨g, 1, none⟩ = some (.int .i64 f1) := (blk_cell h 1).trans rfl
theorem IsS63.set_1 {w0 W : World} {g : Nat} {f0 : List Int} {f1 : Int} {f2 : Int} (h : IsS63 w0 W g f0 f1 f2) (x : Int) : IsS63 w0 (W.setCell ⟨g, 1, none⟩ (.int .i64 x)) g f0 x f2 := by
 obtain ⟨A0, c0, hb, hg, hr0⟩ := h
 exact ⟨A0, c0, by simpa using blk_set hb 1 (.int .i64 x), hg, hr0⟩
theorem cellS63_2 {W : World} {g : Nat} {A0 : Option Addr} {c0 : Nat} {f0 : List Int} {f1 : Int} {f2 : Int} (h : W.heap[g]? = some (.cells #[.slice A0 f0.length c0, .int .i64 f1, .int .i64 f2] 63 (0, 0))) : W.cell? ⟨g, 2, none⟩ = some (.int .i64 f2) := (blk_cell h 2).trans rfl
theorem IsS63.set_2 {w0 W : World} {g : Nat} {f0 : List Int} {f1 : Int} {f2 : Int} (h : IsS63 w0 W g f0 f1 f2) (x : Int) : IsS63 w0 (W.setCell ⟨g, 2, none⟩ (.int .i64 x)) g f0 f1 x := by
 obtain ⟨A0, c0, hb, hg, hr0⟩ := h
 exact ⟨A0, c0, by simpa using blk_set hb 2 (.int .i64 x), hg, hr0⟩
theorem IsS63.new (w0 W : World) (A0 : Option Addr) (c0 : Nat) (f0 : List Int) (f1 : Int) (f2 : Int) (hB : Below w0.heap.size w0 W) (hr0 : Kd.C (Kd.int .u8) w0 A0 f0.length f0) : IsS63 w0 (W.alloc (.cells #[.slice A0 f0.length c0, .int .i64 f1, .int .i64 f2] 63)) W.heap.size f0 f1 f2 := ⟨A0, c0, by simpa using heap_alloc_new W _, hB.size, hr0⟩

/-! ### spec_l1New: function 33 -/
def spec_l1New.l0 : Nat → List Int → Int → Int → Option (List Int × Int × Int)
 | 0, _, _, _ => none
 | k + 1, x0, x3, x4 => if x4 < (x0.length : Int) then (if x4 < 4000 then (if 0 ≤ x4 then (spec_l1New.l0 k x0 (Go.bits .and .i64 (wrap64 ((wrap64 ((wrap64 (x3 * 137)) + (wrap64 (rd x0 x4)))) + 11)) 1073741823) (wrap64 (x4 + 1))) else (none)) else (some (x0, 0, x3))) else (some (x0, 0, x3))
def spec_l1New.f (k : Nat) (l0 : List Int) : Option (List Int × Int × Int) := spec_l1New.l0 k l0 (wrap64 (193017 + (l0.length : Int))) 0
theorem spec_l1New.mono_l : ∀ k, (∀ y0 y1 y2, LeO (spec_l1New.l0 k y0 y1 y2) (spec_l1New.l0 (k + 1) y0 y1 y2))
 | 0 => fun _ _ _ r h => by simp [spec_l1New.l0] at h
 | k + 1 => by
  have ih0 := spec_l1New.mono_l k
  ·intro y0 y1 y2
   unfold spec_l1New.l0
   repeat' first
   | (with_reducible exact ih0 _ _ _)
   | (with_reducible exact LeO.refl _)
   | (with_reducible exact LeO.none _)
   | (with_reducible refine LeO.ite ?_ ?_)
   | (with_reducible refine LeO.bind ?_ (fun _ => ?_))
   | exact ih0 _ _ _
   | exact LeO.none _
   | refine LeO.ite ?_ ?_
   | refine LeO.bind ?_ (fun _ => ?_)
theorem spec_l1New.mono : ∀ a0 k, LeO (spec_l1New.f k a0) (spec_l1New.f (k + 1) a0) := by
 intro a0 k
 have ih0 := spec_l1New.mono_l k
 unfold spec_l1New.f
 repeat' first
   | (with_reducible exact ih0 _ _ _)
   | (with_reducible exact LeO.refl _)
   | (with_reducible exact LeO.none _)
   | (with_reducible refine LeO.ite ?_ ?_)
   | (with_reducible refine LeO.bind ?_ (fun _ => ?_))
   | exact ih0 _ _ _
   | exact LeO.none _
   | refine LeO.ite ?_ ?_
   | refine LeO.bind ?_ (fun _ => ?_)
set_option maxHeartbeats 8000000 in
set_option maxRecDepth 100000 in
theorem spec_l1New.calls (k : Nat) (A0 : Option Addr) (c0 : Nat) (l0 : List Int) (r1 : List Int) (r2 : Int) (r3 : Int) (w0 w : World) (hB : Below w0.heap.size w0 w) (hr0 : Kd.C (Kd.int .u8) w0 A0 l0.length l0) (hc0 : l0.length ≤ c0) (h : spec_l1New.f k l0 = some (r1, r2, r3)) :
  Calls Try.prog 33 #[.slice A0 l0.length c0] w fun e w' => ∃ g_ : Nat, e = .returned (.pointer (some ⟨g_, 0, none⟩)) ∧ IsS63 w0 w' g_ r1 r2 r3 ∧ Below w0.heap.size w0 w' ∧ Below w.heap.size w w' := by
 have hu63 := Try.underlying63
 have HR0 := Aside0.mk hr0
 have HC0 := Aside0.mk hc0
 clear hr0 hc0
 have HBW := Aside0.mk (Below.refl w.heap.size w)
 have HW0 := Aside0.mk hB.size
 have HB := Aside0.mk hB
 clear hB
 have H : (spec_l1New.l0 k l0 (wrap64 (193017 + (l0.length : Int))) 0) = some (r1, r2, r3) := h
 clear h
 have H' := Aside0.mk H
 clear H
 go_enter Try.func33, Try.ntmps33
 go_wp2
 go_loopg [3, 4] k (fun kq v3 v4 w' => ∃ (x3_1 : Int) (x4_1 : Int), v3 = .int .i64 x3_1 ∧ v4 = .int .i64 x4_1 ∧ Aside0 (spec_l1New.l0 kq l0 x3_1 x4_1 = some (r1, r2, r3)) ∧ Aside0 (kq ≤ k) ∧ Aside0 (Below w0.heap.size w0 w') ∧ Aside0 (Below w.heap.size w w'))
 case atStart => exact ⟨(wrap64 (193017 + (l0.length : Int))), (0), zF, zF, H', ⟨Nat.le_refl _⟩, ⟨zB HB⟩, ⟨zB HBW⟩⟩
 case round =>
  clear H'
  obtain ⟨x3_1, x4_1, rfl, rfl, HA, HK1, HB, HBW⟩ := hrel
  cases gk with
  | zero => exact absurd HA.out (by simp [spec_l1New.l0])
  | succ k1 =>
   have H := HA.out
   clear HA
   simp only [spec_l1New.l0] at H
   by_cases c2 : x4_1 < (l0.length : Int)
   ·rw [if_pos c2] at H
    have c2b0 : decide (x4_1 < (l0.length : Int)) = true := decide_eq_true c2
    clear c2
    by_cases c3 : x4_1 < 4000
    ·rw [if_pos c3] at H
     have c3b0 : decide (x4_1 < 4000) = true := decide_eq_true c3
     clear c3
     obtain ⟨c4, H⟩ := ifS H
     have c4b0 : decide (0 ≤ x4_1) = true := decide_eq_true c4
     clear c4
     have H' := Aside0.mk H
     clear H
     have p123 : 0 ≤ (x4_1 : Int) := zD
     have q123 : x4_1 < (l0.length : Int) := zD
     obtain ⟨ad123, e123, hx123_0⟩ := Kd.at_int HR0.out x4_1 p123 q123
     cases e123
     replace hx123_0 := pw_cell_below HB.out hx123_0
     replace p123 := eq_true p123
     replace q123 := eq_true q123
     go_wp2
     go_roundg k1
     case measure => have := HK1.out; omega
     case rel => exact ⟨(Go.bits .and .i64 (wrap64 ((wrap64 ((wrap64 (x3_1 * 137)) + (wrap64 (rd l0 x4_1)))) + 11)) 1073741823), (wrap64 (x4_1 + 1)), zF, zF, H', ⟨by have := HK1.out; omega⟩, ⟨zB HB⟩, ⟨zB HBW⟩⟩
    ·rw [if_neg c3] at H
     have c3b0 : decide (x4_1 < 4000) = false := decide_eq_false c3
     clear c3
     simp only [Option.some.injEq, Prod.mk.injEq] at H
     obtain ⟨rfl, rfl, rfl⟩ := H
     go_wp2_with (first | ((with_reducible refine gate_dst (N := 31) rfl ?_); refine box_event ?hg (N := 31) ?hd (cs := #[.slice A0 l0.length c0, .int .i64 0, .int .i64 x3_1]) (t := 63) ?hr ?_; (case hd => rfl); (case hg => rfl); (case hr => first | (go_simp; done) | (go_simp; rfl)); intro gb124 hg w5 hbox hb; replace HB := bS HB hb; have BK124 := Aside0.mk (hbox); have GW124 := gS HBW hg; have GE124 := Aside0.mk ((Nat.le_trans HW0.out (by rw [hg]; exact (below_size (zB HBW)) : w.heap.size ≤ gb124) : w0.heap.size ≤ gb124)); replace HBW := Aside0.mk (below_step HBW.out hb); clear hb hbox hg))
     go_ret
     exact ⟨_, rfl, (show IsS63 w0 _ gb124 l0 0 x3_1 from ⟨_, _, by (with_reducible repeat (first | refine blk_drewN ?_ _ | refine blk_drew ?_ | refine blk_alloc ?_ _)); exact BK124.out, GE124.out, HR0.out⟩), zB HB, zB HBW⟩
   ·rw [if_neg c2] at H
    have c2b0 : decide (x4_1 < (l0.length : Int)) = false := decide_eq_false c2
    clear c2
    simp only [Option.some.injEq, Prod.mk.injEq] at H
    obtain ⟨rfl, rfl, rfl⟩ := H
    go_wp2_with (first | ((with_reducible refine gate_dst (N := 31) rfl ?_); refine box_event ?hg (N := 31) ?hd (cs := #[.slice A0 l0.length c0, .int .i64 0, .int .i64 x3_1]) (t := 63) ?hr ?_; (case hd => rfl); (case hg => rfl); (case hr => first | (go_simp; done) | (go_simp; rfl)); intro gb125 hg w6 hbox hb; replace HB := bS HB hb; have BK125 := Aside0.mk (hbox); have GW125 := gS HBW hg; have GE125 := Aside0.mk ((Nat.le_trans HW0.out (by rw [hg]; exact (below_size (zB HBW)) : w.heap.size ≤ gb125) : w0.heap.size ≤ gb125)); replace HBW := Aside0.mk (below_step HBW.out hb); clear hb hbox hg))
    go_ret
    exact ⟨_, rfl, (show IsS63 w0 _ gb125 l0 0 x3_1 from ⟨_, _, by (with_reducible repeat (first | refine blk_drewN ?_ _ | refine blk_drew ?_ | refine blk_alloc ?_ _)); exact BK125.out, GE125.out, HR0.out⟩), zB HB, zB HBW⟩

/-! ### spec_l1In: function 24 -/
def spec_l1In.f (a0 : Int) (a1 : Int) (a2 : Int) : Option (Bool) := if a0 ≥ a1 then (some (decide (a0 ≤ a2))) else (some false)
set_option maxHeartbeats 8000000 in
set_option maxRecDepth 100000 in
theorem spec_l1In.calls (a0 : Int) (a1 : Int) (a2 : Int) (r : Bool) (w : World) (h : spec_l1In.f a0 a1 a2 = some r) :
  Calls Try.prog 24 #[.int .i64 a0, .int .i64 a1, .int .i64 a2] w fun e w' => e = .returned (.bool r) ∧ Drawn0 w w' := by
 have H : (if a0 ≥ a1 then (some (decide (a0 ≤ a2))) else (some false)) = some r := h
 clear h
 by_cases c4 : a0 ≥ a1
 ·rw [if_pos c4] at H
  have c4b0 : decide (a1 ≤ a0) = true := decide_eq_true c4
  clear c4
  obtain rfl := Option.some.inj H
  go_enter Try.func24, Try.ntmps24
  go_wp2
  go_ret
  exact ⟨by first | rfl | (simp; done) | (simp [*]; done), by repeat (first | exact Drawn0.refl _ | apply Drawn0.step)⟩
 ·rw [if_neg c4] at H
  have c4b0 : decide (a1 ≤ a0) = false := decide_eq_false c4
  clear c4
  obtain rfl := Option.some.inj H
  go_enter Try.func24, Try.ntmps24
  go_wp2
  go_ret
  exact ⟨by first | rfl | (simp; done) | (simp [*]; done), by repeat (first | exact Drawn0.refl _ | apply Drawn0.step)⟩

/-! ### spec_IsReserved: function 25 -/
def spec_IsReserved.f (a0 : Int) : Option (Bool) := (spec_l1In.f a0 0 255).bind fun t126 => (if t126 = true then (some ((Int.tmod a0 16) == 10)) else (some false))
set_option maxHeartbeats 8000000 in
set_option maxRecDepth 100000 in
theorem spec_IsReserved.calls (a0 : Int) (r : Bool) (w : World) (h : spec_IsReserved.f a0 = some r) :
  Calls Try.prog 25 #[.int .i64 a0] w fun e w' => e = .returned (.bool r) ∧ Drawn0 w w' := by
 have H : ((spec_l1In.f a0 0 255).bind fun t126 => (if t126 = true then (some ((Int.tmod a0 16) == 10)) else (some false))) = some r := h
 clear h
 obtain ⟨t126, A2, H⟩ := bindS H
 by_cases c3 : t126 = true
 ·subst c3
  have H1 : (some ((Int.tmod a0 16) == 10)) = some r := by rw [if_pos rfl] at H; exact H
  clear H
  have H := H1
  clear H1
  obtain rfl := Option.some.inj H
  go_enter Try.func25, Try.ntmps25
  go_wp2_with (first | ((with_reducible refine gate_callee (f := 24) rfl ?_); refine goesL_ (some 4) rfl rfl Try.func24 (by kernel_rfl) rfl #[.int .i64 a0, .int .i64 0, .int .i64 255] rfl zG ?_; (with_reducible refine (spec_l1In.calls a0 0 255 true _ A2.out).mono ?_); rintro e w' ⟨rfl, ⟨nd, rfl⟩⟩; refine ⟨_, rfl, ?_⟩))
  go_ret
  exact ⟨by first | rfl | (simp; done) | (simp [*]; done), by repeat (first | exact Drawn0.refl _ | apply Drawn0.step)⟩
 ·replace c3 := Bool.eq_false_iff.mpr c3
  subst c3
  have H1 : (some false) = some r := by rw [if_neg (show ¬ (false = true) by decide)] at H; exact H
  clear H
  have H := H1
  clear H1
  obtain rfl := Option.some.inj H
  go_enter Try.func25, Try.ntmps25
  go_wp2_with (first | ((with_reducible refine gate_callee (f := 24) rfl ?_); refine goesL_ (some 4) rfl rfl Try.func24 (by kernel_rfl) rfl #[.int .i64 a0, .int .i64 0, .int .i64 255] rfl zG ?_; (with_reducible refine (spec_l1In.calls a0 0 255 false _ A2.out).mono ?_); rintro e w' ⟨rfl, ⟨nd, rfl⟩⟩; refine ⟨_, rfl, ?_⟩))
  go_ret
  exact ⟨by first | rfl | (simp; done) | (simp [*]; done), by repeat (first | exact Drawn0.refl _ | apply Drawn0.step)⟩

end Go.Proofs.Ytgbfbdeeaogigaa.PFnRegistry
