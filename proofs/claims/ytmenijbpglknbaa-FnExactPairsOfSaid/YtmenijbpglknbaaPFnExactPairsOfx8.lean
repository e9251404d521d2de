-- WRITTEN by pp.py, this session's own wrapper around the print; not trusted: Lean checks it
import Derived.Test.YtmenijbpglknbaaPFnExactPairsOfx0
import Derived.Test.YtmenijbpglknbaaPFnExactPairsOfx7
namespace Go.Proofs.Ytmenijbpglknbaa.PFnExactPairsOf
open Go.RowKit Go.Proofs.Ytmenijbpglknbaa.Hw Go.Proofs.YtmenijbpglknbaaW.PrintWords Go.Proofs.YtmenijbpglknbaaW.PrintLast Go.Proofs.YtmenijbpglknbaaW.PrintMore
attribute [local go_sem] max2_int min2_int max_two min_two max_three min_three max_four min_four   -- for this text's walks alone
set_option linter.unusedVariables false
set_option linter.unusedSimpArgs false
set_option linter.unusedSectionVars false

/-! ### impl_MoveOf_idx: functions 76 and 77 (by hand) -/
theorem impl_MoveOf_idx.lit (x : S64)  (a1 : Int) (a2 : Bool) (a3 : Int) (W : World)   {B1_ B2_ B3_ : Nat} (hB1_ : W.heap[B1_]? = some (.cells #[.int .i64 a1] 3 (0, 0))) (hB2_ : W.heap[B2_]? = some (.cells #[.bool a2] 4 (0, 0))) (hB3_ : W.heap[B3_]? = some (.cells #[.int .i64 a3] 3 (0, 0))) :
  Calls Try.prog 77 #[.agg #[.int .i64 x.f0, .bool x.f1, .int .i64 x.f2, .int .i64 x.f3], .pointer (some ⟨B1_, 0, none⟩), .pointer (some ⟨B2_, 0, none⟩), .pointer (some ⟨B3_, 0, none⟩)] W fun e w' => e = .returned (.bool (x.f0 == a1 && (x.f1 == a2 && x.f2 == a3))) ∧ Below W.heap.size W w' := by
 have hcl1_0 : W.cell? ⟨B1_, 0, none⟩ = some (.int .i64 a1) := (blk_cell hB1_ 0).trans rfl
 have hbk1_ := blk_lt hB1_
 have hcl2_0 : W.cell? ⟨B2_, 0, none⟩ = some (.bool a2) := (blk_cell hB2_ 0).trans rfl
 have hbk2_ := blk_lt hB2_
 have hcl3_0 : W.cell? ⟨B3_, 0, none⟩ = some (.int .i64 a3) := (blk_cell hB3_ 0).trans rfl
 have hbk3_ := blk_lt hB3_
 have hu64 := Try.underlying64
 go_enter Try.func77, Try.ntmps77
 cases q1 : (x.f0 == a1) <;> cases q2 : (x.f1 == a2) <;> cases q3 : (x.f2 == a3) <;> (go_wp2; go_ret; exact ⟨by first | rfl | (simp_all; done), by repeat (first | exact Below.refl _ _ | apply below_alloc | apply pw_below_drewN | apply below_drew1)⟩)
set_option maxHeartbeats 4000000 in
set_option maxRecDepth 100000 in
theorem impl_MoveOf_idx.idx (A0 : Option Addr) (c0 : Nat) (l0 : List (S64)) (a1 : Int) (a2 : Bool) (a3 : Int) (w : World) (hr0 : Kd.C k64 w A0 l0.length l0) (hc0 : l0.length ≤ c0)  {B1_ B2_ B3_ : Nat} (hB1_ : w.heap[B1_]? = some (.cells #[.int .i64 a1] 3 (0, 0))) (hB2_ : w.heap[B2_]? = some (.cells #[.bool a2] 4 (0, 0))) (hB3_ : w.heap[B3_]? = some (.cells #[.int .i64 a3] 3 (0, 0))) :
  Calls Try.prog 76 #[.slice A0 l0.length c0, .func (.func 77) #[] #[.pointer (some ⟨B1_, 0, none⟩), .pointer (some ⟨B2_, 0, none⟩), .pointer (some ⟨B3_, 0, none⟩)]] w fun e w' => e = .returned (.int .i64 (idxOf (fun x => x.f0 == a1 && (x.f1 == a2 && x.f2 == a3)) l0)) ∧ Below w.heap.size w w' := by
 have hu64 := Try.underlying64
 have HL_ := Aside0.mk hr0.2.1
 have HR0 := Aside0.mk hr0
 have HhB1_ := Aside0.mk hB1_
 have HhB2_ := Aside0.mk hB2_
 have HhB3_ := Aside0.mk hB3_
 obtain ⟨m_, hm_⟩ : ∃ m_ : Int, m_ = idxOf (fun x => x.f0 == a1 && (x.f1 == a2 && x.f2 == a3)) l0 := ⟨_, rfl⟩
 rw [← hm_]
 have HM_ := Aside0.mk hm_
 clear hr0 hc0 hm_ hB1_ hB2_ hB3_
 go_enter Try.func76, Try.ntmps76
 go_wp2
 go_loopg [5, 8] l0.length (fun gg _ s8 wr => ∃ kk : Int, 0 ≤ kk ∧ kk ≤ l0.length ∧ l0.length - kk.toNat ≤ gg ∧ s8 = .int .i64 kk ∧ Aside0 (Below w.heap.size w wr) ∧ Aside0 (m_ = idxAt (fun x => x.f0 == a1 && (x.f1 == a2 && x.f2 == a3)) l0 kk))
 case atStart => exact ⟨0, by omega, by omega, by omega, rfl, ⟨Below.refl _ w⟩, ⟨by rw [HM_.out, idxAt_zero]⟩⟩
 case round =>
  obtain ⟨kk, h0, hkk, hg, rfl, BW, A_⟩ := hrel
  by_cases hlt : kk < (l0.length : Int)
  ·obtain ⟨ad, e_, hx0, hx1, hx2, hx3⟩ := at_T64 HR0.out kk h0 hlt
   cases e_
   replace hx0 := cell_later BW.out hx0
   replace hx1 := cell_later BW.out hx1
   replace hx2 := cell_later BW.out hx2
   replace hx3 := cell_later BW.out hx3
   have hlit := impl_MoveOf_idx.lit (rd_T64 l0 kk)  a1 a2 a3 wr  (blk_below HhB1_.out BW.out) (blk_below HhB2_.out BW.out) (blk_below HhB3_.out BW.out)
   have HLIT := Aside0.mk hlit
   clear hlit 
   obtain ⟨b, hb⟩ : ∃ b : Bool, b = (fun x : S64 => x.f0 == a1 && (x.f1 == a2 && x.f2 == a3)) (rd_T64 l0 kk) := ⟨_, rfl⟩
   have HQ := Aside0.mk hb
   replace HLIT : Aside0 (Calls Try.prog 77 #[.agg #[.int .i64 ((rd_T64 l0 kk).f0), .bool ((rd_T64 l0 kk).f1), .int .i64 ((rd_T64 l0 kk).f2), .int .i64 ((rd_T64 l0 kk).f3)], .pointer (some ⟨B1_, 0, none⟩), .pointer (some ⟨B2_, 0, none⟩), .pointer (some ⟨B3_, 0, none⟩)] wr fun e w' => e = .returned (.bool b) ∧ Below wr.heap.size wr w') := by rw [hb]; exact HLIT
   clear hb
   cases b with
   | true =>
    go_wp2_with (go_at_call 77; refine HLIT.out.mono ?_; rintro e w' ⟨rfl, hb'⟩)
    go_ret
    exact ⟨ret_int (by rw [A_.out]; exact (idxAt_hit (fun x => x.f0 == a1 && (x.f1 == a2 && x.f2 == a3)) l0 z64 kk h0 hlt HQ.out.symm).symm), below_trans BW.out hb'⟩
   | false =>
    go_wp2_with (go_at_call 77; refine HLIT.out.mono ?_; rintro e w' ⟨rfl, hb'⟩)
    have hw1 := wrap_kk h0 hlt HL_.out
    go_roundg (l0.length - (kk.toNat + 1))
    case measure => omega
    case rel => exact ⟨kk + 1, by omega, by omega, by omega, by first | rfl | (rw [hw1]) | (simp only [hw1]), ⟨below_trans BW.out hb'⟩, ⟨by rw [A_.out]; exact idxAt_go (fun x => x.f0 == a1 && (x.f1 == a2 && x.f2 == a3)) l0 z64 kk h0 hlt HQ.out.symm⟩⟩
  ·go_wp2
   go_ret
   exact ⟨ret_int (by rw [A_.out]; exact (idxAt_end _ _ _ (by omega)).symm), BW.out⟩
def impl_MoveOf_idx.f (l0 : List (S64)) (a1 : Int) (a2 : Bool) (a3 : Int) : Option (Int) := some (idxOf (fun x => x.f0 == a1 && (x.f1 == a2 && x.f2 == a3)) l0)
theorem impl_MoveOf_idx.calls (A0 : Option Addr) (c0 : Nat) (l0 : List (S64)) (a1 : Int) (a2 : Bool) (a3 : Int) (r : Int) (w : World) (hr0 : Kd.C k64 w A0 l0.length l0) (hc0 : l0.length ≤ c0)  {B1_ B2_ B3_ : Nat} (hB1_ : w.heap[B1_]? = some (.cells #[.int .i64 a1] 3 (0, 0))) (hB2_ : w.heap[B2_]? = some (.cells #[.bool a2] 4 (0, 0))) (hB3_ : w.heap[B3_]? = some (.cells #[.int .i64 a3] 3 (0, 0))) (h : impl_MoveOf_idx.f l0 a1 a2 a3 = some r) :
  Calls Try.prog 76 #[.slice A0 l0.length c0, .func (.func 77) #[] #[.pointer (some ⟨B1_, 0, none⟩), .pointer (some ⟨B2_, 0, none⟩), .pointer (some ⟨B3_, 0, none⟩)]] w fun e w' => e = .returned (.int .i64 r) ∧ Below w.heap.size w w' := by
 obtain rfl := Option.some.inj h
 have HX := Aside0.mk (impl_MoveOf_idx.idx A0 c0 l0 a1 a2 a3 w hr0 hc0 hB1_ hB2_ hB3_)
 exact HX.out
/-! ### impl_MoveOf: function 65 -/
def impl_MoveOf.f (a0_0 : Int) (l0_1 : List Bool) (l0_2 : List (S64)) (a1 : Int) (a2 : Bool) (a3 : Int) : Option (Int) := (impl_MoveOf_idx.f l0_2 a1 a2 a3).bind fun t293 => (some t293)
set_option maxHeartbeats 8000000 in
set_option maxRecDepth 100000 in
theorem impl_MoveOf.calls (a0_0 : Int) (A0_1 : Option Addr) (c0_1 : Nat) (l0_1 : List Bool) (A0_2 : Option Addr) (c0_2 : Nat) (l0_2 : List (S64)) (a1 : Int) (a2 : Bool) (a3 : Int) (r : Int) (w : World) (hr0_1 : Kd.C Kd.bool w A0_1 l0_1.length l0_1) (hc0_1 : l0_1.length ≤ c0_1) (hr0_2 : Kd.C k64 w A0_2 l0_2.length l0_2) (hc0_2 : l0_2.length ≤ c0_2) (h : impl_MoveOf.f a0_0 l0_1 l0_2 a1 a2 a3 = some r) :
  Calls Try.prog 65 #[.agg #[.int .i64 a0_0, .slice A0_1 l0_1.length c0_1, .slice A0_2 l0_2.length c0_2], .int .i64 a1, .bool a2, .int .i64 a3] w fun e w' => e = .returned (.int .i64 r) ∧ Below w.heap.size w w' := by
 have hu31 := Try.underlying31
 have HR0_1 := Aside0.mk hr0_1
 have HC0_1 := Aside0.mk hc0_1
 clear hr0_1 hc0_1
 have HR0_2 := Aside0.mk hr0_2
 have HC0_2 := Aside0.mk hc0_2
 clear hr0_2 hc0_2
 have HB := Aside0.mk (Below.refl w.heap.size w)
 have H : ((impl_MoveOf_idx.f l0_2 a1 a2 a3).bind fun t293 => (some t293)) = some r := h
 clear h
 obtain ⟨t293, A5, H⟩ := bindS H
 obtain rfl := Option.some.inj H
 go_enter Try.func65, Try.ntmps65
 go_wp2_with (first | ((with_reducible refine gate_dst (N := 4) rfl ?_); refine box_event ?hg (N := 4) ?hd (cs := #[.int .i64 a0_0, .slice A0_1 l0_1.length c0_1, .slice A0_2 l0_2.length c0_2]) (t := 31) ?hr ?_; (case hd => rfl); (case hg => rfl); (case hr => first | (go_simp; done) | (go_simp; rfl)); intro gb289 hg w6 hbox hb; have BK289 := Aside0.mk (hbox); have GW289 := gS HB hg; have GE289 := gS HB hg; replace HB := bS HB hb; clear hb hbox hg) | ((with_reducible refine gate_dst (N := 5) rfl ?_); refine box_event ?hg (N := 5) ?hd (cs := #[.int .i64 a1]) (t := 3) ?hr ?_; (case hd => rfl); (case hg => rfl); (case hr => first | (go_simp; done) | (go_simp; rfl)); intro gb290 hg w7 hbox hb; have BK290 := Aside0.mk (hbox); have GW290 := gS HB hg; have GE290 := gS HB hg; replace HB := bS HB hb; have NB289_290 := nL BK289 hg; have NB290_289 := nR BK289 hg; replace BK289 := kB BK289 hb; clear hb hbox hg) | ((with_reducible refine gate_dst (N := 6) rfl ?_); refine box_event ?hg (N := 6) ?hd (cs := #[.bool a2]) (t := 4) ?hr ?_; (case hd => rfl); (case hg => rfl); (case hr => first | (go_simp; done) | (go_simp; rfl)); intro gb291 hg w8 hbox hb; have BK291 := Aside0.mk (hbox); have GW291 := gS HB hg; have GE291 := gS HB hg; replace HB := bS HB hb; have NB289_291 := nL BK289 hg; have NB291_289 := nR BK289 hg; replace BK289 := kB BK289 hb; have NB290_291 := nL BK290 hg; have NB291_290 := nR BK290 hg; replace BK290 := kB BK290 hb; clear hb hbox hg) | ((with_reducible refine gate_dst (N := 7) rfl ?_); refine box_event ?hg (N := 7) ?hd (cs := #[.int .i64 a3]) (t := 3) ?hr ?_; (case hd => rfl); (case hg => rfl); (case hr => first | (go_simp; done) | (go_simp; rfl)); intro gb292 hg w9 hbox hb; have BK292 := Aside0.mk (hbox); have GW292 := gS HB hg; have GE292 := gS HB hg; replace HB := bS HB hb; have NB289_292 := nL BK289 hg; have NB292_289 := nR BK289 hg; replace BK289 := kB BK289 hb; have NB290_292 := nL BK290 hg; have NB292_290 := nR BK290 hg; replace BK290 := kB BK290 hb; have NB291_292 := nL BK291 hg; have NB292_291 := nR BK291 hg; replace BK291 := kB BK291 hb; clear hb hbox hg; have hnb10 := NB289_290.out; have hnc10 := NB290_289.out; have hnb11 := NB289_291.out; have hnc11 := NB291_289.out; have hnb12 := NB289_292.out; have hnc12 := NB292_289.out; have hcz13_0 := bc0 BK289; have hcz13_1 := bc1 BK289; have hcz13_2 := bc2 BK289; have hfz13_0 := bf BK289 0; have hfz13_1 := bf BK289 1; have hfz13_2 := bf BK289 2) | ((with_reducible refine gate_callee (f := 76) rfl ?_); refine goesL_ (some 12) rfl rfl Try.func76 (by kernel_rfl) rfl #[.slice A0_2 l0_2.length c0_2, .func (.func 77) #[] #[.pointer (some ⟨gb290, 0, none⟩), .pointer (some ⟨gb291, 0, none⟩), .pointer (some ⟨gb292, 0, none⟩)]] rfl zG ?_; (with_reducible refine (impl_MoveOf_idx.calls _ _ l0_2 a1 a2 a3 t293 _ ?side1 ?side2 ?side3 ?side4 ?side5 A5.out).mono ?_); (case side1 => exact cS HR0_2 HB); (case side2 => exact HC0_2.out); (case side3 => exact (fun h_ => h_) (zK BK290)); (case side4 => exact (fun h_ => h_) (zK BK291)); (case side5 => exact (fun h_ => h_) (zK BK292)); rintro e w14 ⟨rfl, hb⟩; refine ⟨_, rfl, ?_⟩; replace BK289 := kB BK289 hb; replace BK290 := kB BK290 hb; replace BK291 := kB BK291 hb; replace BK292 := kB BK292 hb; replace HB := bS HB hb; (try clear hb)))
 go_ret
 exact ⟨zE, zB HB⟩

/-! ### impl_NextPairs: function 44 -/
mutual
def impl_NextPairs.l0 : Nat → Int → Int → List (List Int) → List Bool → Int → Int → Int → List Bool → List (S64) → Int → List Bool → List (S64) → Option ((List (List Int)))
 | 0, _, _, _, _, _, _, _, _, _, _, _, _ => none
 | k + 1, x2, x3, x9, x18, x19, x20, x295000, x295001, x295002, x296000, x296001, x296002 => if x20 < x19 then (if 0 ≤ x20 then (if x20 < (x18.length : Int) then ((impl_MovesFrom.f k x295000 x295001 x295002 x2 true).bind fun t303 => (if rdOf false x18 x20 = true then (impl_NextPairs.j1 k x2 x3 x9 (rdOf false x18 x20) t303 x18 x19 x20 x295000 x295001 x295002 x296000 x296001 x296002) else ((impl_MovesFrom.f k x296000 x296001 x296002 x3 true).bind fun t306 => (impl_NextPairs.j1 k x2 x3 x9 (rdOf false x18 x20) t306 x18 x19 x20 x295000 x295001 x295002 x296000 x296001 x296002)))) else (none)) else (none)) else (some x9)
def impl_NextPairs.j1 : Nat → Int → Int → List (List Int) → Bool → List Int → List Bool → Int → Int → Int → List Bool → List (S64) → Int → List Bool → List (S64) → Option ((List (List Int)))
 | 0, _, _, _, _, _, _, _, _, _, _, _, _, _, _ => none
 | k + 1, x2, x3, x9, x11, x12, x18, x19, x20, x295000, x295001, x295002, x296000, x296001, x296002 => impl_NextPairs.l1 k x2 x3 x9 x11 x18 x19 x20 x12 (x12.length : Int) 0 x295000 x295001 x295002 x296000 x296001 x296002
def impl_NextPairs.l1 : Nat → Int → Int → List (List Int) → Bool → List Bool → Int → Int → List Int → Int → Int → Int → List Bool → List (S64) → Int → List Bool → List (S64) → Option ((List (List Int)))
 | 0, _, _, _, _, _, _, _, _, _, _, _, _, _, _, _, _ => none
 | k + 1, x2, x3, x9, x11, x18, x19, x20, x32, x33, x34, x295000, x295001, x295002, x296000, x296001, x296002 => if x34 < x33 then (if 0 ≤ x34 then (if x34 < (x32.length : Int) then ((impl_MoveOf.f x295000 x295001 x295002 x2 x11 (rd x32 x34)).bind fun t310 => ((impl_MoveOf.f x296000 x296001 x296002 x3 (!x11) (rd x32 x34)).bind fun t311 => (if t310 ≥ 0 then (if t311 ≥ 0 then (if 0 ≤ t310 then (if t310 < (x295002.length : Int) then (if 0 ≤ t311 then (if t311 < (x296002.length : Int) then (if x9.length < 5864062014805 then (impl_NextPairs.l1 k x2 x3 (x9 ++ [(([(rd_T64 x295002 t310).f3, (rd_T64 x296002 t311).f3] : List Int))]) x11 x18 x19 x20 x32 x33 (wrap64 (x34 + 1)) x295000 x295001 x295002 x296000 x296001 x296002) else (none)) else (none)) else (none)) else (none)) else (none)) else (impl_NextPairs.l1 k x2 x3 x9 x11 x18 x19 x20 x32 x33 (wrap64 (x34 + 1)) x295000 x295001 x295002 x296000 x296001 x296002)) else (impl_NextPairs.l1 k x2 x3 x9 x11 x18 x19 x20 x32 x33 (wrap64 (x34 + 1)) x295000 x295001 x295002 x296000 x296001 x296002)))) else (none)) else (none)) else (impl_NextPairs.l0 k x2 x3 x9 x18 x19 (wrap64 (x20 + 1)) x295000 x295001 x295002 x296000 x296001 x296002)
end
def impl_NextPairs.f (k : Nat) (a0_0 : Int) (l0_1 : List Bool) (l0_2 : List (S64)) (a1_0 : Int) (l1_1 : List Bool) (l1_2 : List (S64)) (a2 : Int) (a3 : Int) : Option ((List (List Int))) := (some (([true, false] : List Bool) : List Bool)).bind fun y299 => (impl_NextPairs.l0 k a2 a3 (([] : List (List Int))) y299 (y299.length : Int) 0 a0_0 l0_1 l0_2 a1_0 l1_1 l1_2)
theorem impl_NextPairs.mono_l : ∀ k, (∀ y0 y1 y2 y3 y4 y5 y6 y7 y8 y9 y10 y11, LeO (impl_NextPairs.l0 k y0 y1 y2 y3 y4 y5 y6 y7 y8 y9 y10 y11) (impl_NextPairs.l0 (k + 1) y0 y1 y2 y3 y4 y5 y6 y7 y8 y9 y10 y11)) ∧ (∀ y0 y1 y2 y3 y4 y5 y6 y7 y8 y9 y10 y11 y12 y13, LeO (impl_NextPairs.j1 k y0 y1 y2 y3 y4 y5 y6 y7 y8 y9 y10 y11 y12 y13) (impl_NextPairs.j1 (k + 1) y0 y1 y2 y3 y4 y5 y6 y7 y8 y9 y10 y11 y12 y13)) ∧ (∀ y0 y1 y2 y3 y4 y5 y6 y7 y8 y9 y10 y11 y12 y13 y14 y15, LeO (impl_NextPairs.l1 k y0 y1 y2 y3 y4 y5 y6 y7 y8 y9 y10 y11 y12 y13 y14 y15) (impl_NextPairs.l1 (k + 1) y0 y1 y2 y3 y4 y5 y6 y7 y8 y9 y10 y11 y12 y13 y14 y15))
 | 0 => ⟨fun _ _ _ _ _ _ _ _ _ _ _ _ r h => by simp [impl_NextPairs.l0] at h, fun _ _ _ _ _ _ _ _ _ _ _ _ _ _ r h => by simp [impl_NextPairs.j1] at h, fun _ _ _ _ _ _ _ _ _ _ _ _ _ _ _ _ r h => by simp [impl_NextPairs.l1] at h⟩
 | k + 1 => by
  obtain ⟨ih0, ih1, ih2⟩ := impl_NextPairs.mono_l k
  refine ⟨?_, ?_, ?_⟩
  ·intro y0 y1 y2 y3 y4 y5 y6 y7 y8 y9 y10 y11
   unfold impl_NextPairs.l0
   repeat' first
   | (with_reducible exact ih0 _ _ _ _ _ _ _ _ _ _ _ _)
   | (with_reducible exact ih1 _ _ _ _ _ _ _ _ _ _ _ _ _ _)
   | (with_reducible exact ih2 _ _ _ _ _ _ _ _ _ _ _ _ _ _ _ _)
   | (with_reducible exact impl_MovesFrom.mono _ _ _ _ _ _)
   | (with_reducible exact LeO.refl _)
   | (with_reducible exact LeO.none _)
   | (with_reducible refine LeO.ite ?_ ?_)
   | (with_reducible refine LeO.bind ?_ (fun _ => ?_))
   | exact ih0 _ _ _ _ _ _ _ _ _ _ _ _
   | exact ih1 _ _ _ _ _ _ _ _ _ _ _ _ _ _
   | exact ih2 _ _ _ _ _ _ _ _ _ _ _ _ _ _ _ _
   | exact impl_MovesFrom.mono _ _ _ _ _ _
   | exact LeO.none _
   | refine LeO.ite ?_ ?_
   | refine LeO.bind ?_ (fun _ => ?_)
  ·intro y0 y1 y2 y3 y4 y5 y6 y7 y8 y9 y10 y11 y12 y13
   unfold impl_NextPairs.j1
   repeat' first
   | (with_reducible exact ih0 _ _ _ _ _ _ _ _ _ _ _ _)
   | (with_reducible exact ih1 _ _ _ _ _ _ _ _ _ _ _ _ _ _)
   | (with_reducible exact ih2 _ _ _ _ _ _ _ _ _ _ _ _ _ _ _ _)
   | (with_reducible exact impl_MovesFrom.mono _ _ _ _ _ _)
   | (with_reducible exact LeO.refl _)
   | (with_reducible exact LeO.none _)
   | (with_reducible refine LeO.ite ?_ ?_)
   | (with_reducible refine LeO.bind ?_ (fun _ => ?_))
   | exact ih0 _ _ _ _ _ _ _ _ _ _ _ _
   | exact ih1 _ _ _ _ _ _ _ _ _ _ _ _ _ _
   | exact ih2 _ _ _ _ _ _ _ _ _ _ _ _ _ _ _ _
   | exact impl_MovesFrom.mono _ _ _ _ _ _
   | exact LeO.none _
   | refine LeO.ite ?_ ?_
   | refine LeO.bind ?_ (fun _ => ?_)
  ·intro y0 y1 y2 y3 y4 y5 y6 y7 y8 y9 y10 y11 y12 y13 y14 y15
   unfold impl_NextPairs.l1
   repeat' first
   | (with_reducible exact ih0 _ _ _ _ _ _ _ _ _ _ _ _)
   | (with_reducible exact ih1 _ _ _ _ _ _ _ _ _ _ _ _ _ _)
   | (with_reducible exact ih2 _ _ _ _ _ _ _ _ _ _ _ _ _ _ _ _)
   | (with_reducible exact impl_MovesFrom.mono _ _ _ _ _ _)
   | (with_reducible exact LeO.refl _)
   | (with_reducible exact LeO.none _)
   | (with_reducible refine LeO.ite ?_ ?_)
   | (with_reducible refine LeO.bind ?_ (fun _ => ?_))
   | exact ih0 _ _ _ _ _ _ _ _ _ _ _ _
   | exact ih1 _ _ _ _ _ _ _ _ _ _ _ _ _ _
   | exact ih2 _ _ _ _ _ _ _ _ _ _ _ _ _ _ _ _
   | exact impl_MovesFrom.mono _ _ _ _ _ _
   | exact LeO.none _
   | refine LeO.ite ?_ ?_
   | refine LeO.bind ?_ (fun _ => ?_)
theorem impl_NextPairs.mono : ∀ a0 a1 a2 a3 a4 a5 a6 a7 k, LeO (impl_NextPairs.f k a0 a1 a2 a3 a4 a5 a6 a7) (impl_NextPairs.f (k + 1) a0 a1 a2 a3 a4 a5 a6 a7) := by
 intro a0 a1 a2 a3 a4 a5 a6 a7 k
 obtain ⟨ih0, ih1, ih2⟩ := impl_NextPairs.mono_l k
 unfold impl_NextPairs.f
 repeat' first
   | (with_reducible exact ih0 _ _ _ _ _ _ _ _ _ _ _ _)
   | (with_reducible exact ih1 _ _ _ _ _ _ _ _ _ _ _ _ _ _)
   | (with_reducible exact ih2 _ _ _ _ _ _ _ _ _ _ _ _ _ _ _ _)
   | (with_reducible exact impl_MovesFrom.mono _ _ _ _ _ _)
   | (with_reducible exact LeO.refl _)
   | (with_reducible exact LeO.none _)
   | (with_reducible refine LeO.ite ?_ ?_)
   | (with_reducible refine LeO.bind ?_ (fun _ => ?_))
   | exact ih0 _ _ _ _ _ _ _ _ _ _ _ _
   | exact ih1 _ _ _ _ _ _ _ _ _ _ _ _ _ _
   | exact ih2 _ _ _ _ _ _ _ _ _ _ _ _ _ _ _ _
   | exact impl_MovesFrom.mono _ _ _ _ _ _
   | exact LeO.none _
   | refine LeO.ite ?_ ?_
   | refine LeO.bind ?_ (fun _ => ?_)
def impl_NextPairs.T11 : Bool × List (List Nat × List Nat) := (true, [([], []), ([], []), ([], []), ([], []), ([0, 1, 2, 3], [0, 1, 2, 3]), ([], []), ([], []), ([], []), ([7], [7]), ([], []), ([5, 6, 8, 9, 4], [5, 6, 8, 9]), ([4, 10, 0, 1, 2, 3, 4], [4]), ([10, 11, 0, 1, 2, 3, 4, 5, 6, 7, 8, 9, 10, 11], [10])])
def impl_NextPairs.B11 : List Nat := [0, 0, 0, 0, 15, 0, 0, 0, 128, 0, 1023, 2047, 4095]
theorem impl_NextPairs.tab11 : rtab .any (opsOf Try.f44 11) = impl_NextPairs.T11 := by kernel_rfl
theorem impl_NextPairs.bits11 : waitsOk impl_NextPairs.T11.2 impl_NextPairs.B11 = true := by kernel_rfl
def impl_NextPairs.T13 : Bool × List (List Nat × List Nat) := (true, [([], []), ([], []), ([1], [1]), ([], []), ([2, 3], [2, 3]), ([4], [4]), ([5], [5]), ([], []), ([7], [7]), ([], []), ([8, 9], [8, 9]), ([10], [10]), ([11], [11]), ([6, 12], [6, 12]), ([13], [13]), ([0, 14], [0, 14]), ([15, 15, 0, 1, 2, 3, 4, 5, 6, 7, 8, 9, 10, 11, 12, 13, 14, 15], [0, 15])])
def impl_NextPairs.B13 : List Nat := [0, 0, 2, 0, 14, 30, 62, 0, 128, 0, 896, 1920, 3968, 8190, 16382, 32767, 65535]
theorem impl_NextPairs.tab13 : rtab .any (opsOf Try.f44 13) = impl_NextPairs.T13 := by kernel_rfl
theorem impl_NextPairs.bits13 : waitsOk impl_NextPairs.T13.2 impl_NextPairs.B13 = true := by kernel_rfl
set_option maxHeartbeats 8000000 in
set_option maxRecDepth 100000 in
theorem impl_NextPairs.calls (k : Nat) (a0_0 : Int) (A0_1 : Option Addr) (c0_1 : Nat) (l0_1 : List Bool) (A0_2 : Option Addr) (c0_2 : Nat) (l0_2 : List (S64)) (a1_0 : Int) (A1_1 : Option Addr) (c1_1 : Nat) (l1_1 : List Bool) (A1_2 : Option Addr) (c1_2 : Nat) (l1_2 : List (S64)) (a2 : Int) (a3 : Int) (r : List (List Int)) (w : World) (hr0_1 : Kd.C Kd.bool w A0_1 l0_1.length l0_1) (hc0_1 : l0_1.length ≤ c0_1) (hr0_2 : Kd.C k64 w A0_2 l0_2.length l0_2) (hc0_2 : l0_2.length ≤ c0_2) (hr1_1 : Kd.C Kd.bool w A1_1 l1_1.length l1_1) (hc1_1 : l1_1.length ≤ c1_1) (hr1_2 : Kd.C k64 w A1_2 l1_2.length l1_2) (hc1_2 : l1_2.length ≤ c1_2) (h : impl_NextPairs.f k a0_0 l0_1 l0_2 a1_0 l1_1 l1_2 a2 a3 = some r) :
  Calls Try.prog 44 #[.agg #[.int .i64 a0_0, .slice A0_1 l0_1.length c0_1, .slice A0_2 l0_2.length c0_2], .agg #[.int .i64 a1_0, .slice A1_1 l1_1.length c1_1, .slice A1_2 l1_2.length c1_2], .int .i64 a2, .int .i64 a3] w fun e w' => ∃ v0_ : Value, e = .returned (v0_) ∧ Kd.S (Kd.slice 3 (Kd.int .i64)) 38 w' w.heap.size (fun _ => True) v0_ r ∧ Below w.heap.size w w' := by
 have hu31 := Try.underlying31
 have HR0_1 := Aside0.mk hr0_1
 have HC0_1 := Aside0.mk hc0_1
 clear hr0_1 hc0_1
 have HR0_2 := Aside0.mk hr0_2
 have HC0_2 := Aside0.mk hc0_2
 clear hr0_2 hc0_2
 have HR1_1 := Aside0.mk hr1_1
 have HC1_1 := Aside0.mk hc1_1
 clear hr1_1 hc1_1
 have HR1_2 := Aside0.mk hr1_2
 have HC1_2 := Aside0.mk hc1_2
 clear hr1_2 hc1_2
 have HB := Aside0.mk (Below.refl w.heap.size w)
 have H : ((some (([true, false] : List Bool) : List Bool)).bind fun y299 => (impl_NextPairs.l0 k a2 a3 (([] : List (List Int))) y299 (y299.length : Int) 0 a0_0 l0_1 l0_2 a1_0 l1_1 l1_2)) = some r := h
 clear h
 obtain ⟨y296, hy296⟩ : ∃ y_ : List (List Int), y_ = (([] : List (List Int))) := ⟨_, rfl⟩
 replace H : ((some (([true, false] : List Bool) : List Bool)).bind fun y299 => (impl_NextPairs.l0 k a2 a3 y296 y299 (y299.length : Int) 0 a0_0 l0_1 l0_2 a1_0 l1_1 l1_2)) = some r := by first | (rw [hy296]; with_reducible exact H) | (have H2_ := (Option.bind_some _ _).symm.trans H; rw [hy296]; with_reducible exact H2_) | (have H2_ := (Option.bind_some _ _).symm.trans H; with_reducible exact H2_) | with_reducible exact H | (rw [hy296]; exact H) | exact H
 have Ny296 := Aside0.mk hy296
 clear hy296
 obtain ⟨y299, hy299⟩ : ∃ y_ : List Bool, y_ = (([true, false] : List Bool)) := ⟨_, rfl⟩
 replace H : (impl_NextPairs.l0 k a2 a3 y296 y299 (y299.length : Int) 0 a0_0 l0_1 l0_2 a1_0 l1_1 l1_2) = some r := by first | (rw [hy299]; with_reducible exact H) | (have H2_ := (Option.bind_some _ _).symm.trans H; rw [hy299]; with_reducible exact H2_) | (have H2_ := (Option.bind_some _ _).symm.trans H; with_reducible exact H2_) | with_reducible exact H | (rw [hy299]; exact H) | exact H
 have Ny299 := Aside0.mk hy299
 clear hy299
 have H' := Aside0.mk H
 clear H
 go_enter Try.func44, Try.ntmps44
 go_wp2_with (first | ((with_reducible refine gate_dst (N := 4) rfl ?_); refine box_event ?hg (N := 4) ?hd (cs := #[.int .i64 a0_0, .slice A0_1 l0_1.length c0_1, .slice A0_2 l0_2.length c0_2]) (t := 31) ?hr ?_; (case hd => rfl); (case hg => rfl); (case hr => first | (go_simp; done) | (go_simp; rfl)); intro gb294 hg w5 hbox hb; have BK294 := Aside0.mk (hbox); have GW294 := gS HB hg; have GE294 := gS HB hg; replace HB := bS HB hb; clear hb hbox hg) | ((with_reducible refine gate_dst (N := 5) rfl ?_); refine box_event ?hg (N := 5) ?hd (cs := #[.int .i64 a1_0, .slice A1_1 l1_1.length c1_1, .slice A1_2 l1_2.length c1_2]) (t := 31) ?hr ?_; (case hd => rfl); (case hg => rfl); (case hr => first | (go_simp; done) | (go_simp; rfl)); intro gb295 hg w6 hbox hb; have BK295 := Aside0.mk (hbox); have GW295 := gS HB hg; have GE295 := gS HB hg; replace HB := bS HB hb; have NB294_295 := nL BK294 hg; have NB295_294 := nR BK294 hg; replace BK294 := kB BK294 hb; clear hb hbox hg) | ((with_reducible refine gate_dst (N := 17) rfl ?_); refine Kd.S_lit (Kd.slice 3 (Kd.int .i64)) _ 38 ?hg (N := 17) ?hd (xs := ([] : List (List Int))) (inner := []) (ok := fun _ => True) (okp := fun _ => True) ?hr ?hp (fun _ hk => hk) trivial (Below.refl _ _) (Nat.le_refl _) (by simp) ?_; (case hd => rfl); (case hg => rfl); (case hr => first | (go_simp; done) | (go_simp; rfl)); (case hp => exact (Reps.none _ _)); intro v297 w7 ho8 hb hg_ hnew_; clear hg_ hnew_; (first | rw [← Ny296.out] at ho8 | (simp only [Int.reduceToNat] at ho8; rw [← Ny296.out] at ho8)); have HO298 := Aside0.mk (Kd.S_lower ho8 (below_size (zB HB))); replace BK294 := kB BK294 hb; replace BK295 := kB BK295 hb; replace HB := bS HB hb; clear hb ho8) | ((with_reducible refine gate_dst (N := 18) rfl ?_); refine Kd.R_lit Kd.bool _ 4 ?hg (N := 18) ?hd (xs := ([true, false] : List Bool)) (inner := [.bool true, .bool false]) (ok := fun _ => True) (okp := fun _ => True) ?hr ?hp (fun _ hk => hk) trivial (Below.refl _ _) (Nat.le_refl _) (by simp) ?_; (case hd => rfl); (case hg => rfl); (case hr => first | (go_simp; done) | (go_simp; rfl)); (case hp => exact (Reps.one (show Kd.M Kd.bool _ _ _ true [.bool true] from rfl) (Reps.one (show Kd.M Kd.bool _ _ _ false [.bool false] from rfl) (Reps.none _ _)))); intro v300 w9 ho10 hb hg_ hnew_; clear hg_ hnew_; (first | rw [← Ny299.out] at ho10 | (simp only [Int.reduceToNat] at ho10; rw [← Ny299.out] at ho10)); replace HO298 := Aside0.mk (Kd.S_below (zS HO298) hb); have HO301 := Aside0.mk (Kd.R_lower ho10 (below_size (zB HB))); replace BK294 := kB BK294 hb; replace BK295 := kB BK295 hb; replace HB := bS HB hb; clear hb ho10; obtain ⟨Ao11, co11, eo11⟩ := Kd.R_slice HO301.out; subst eo11))
 go_loopg [9, 20] k (fun kq v9 v20 w' => ∃ (x9_1 : List (List Int)) (x20_1 : Int), v20 = .int .i64 x20_1 ∧ Aside0 (impl_NextPairs.l0 kq a2 a3 x9_1 y299 (y299.length : Int) x20_1 a0_0 l0_1 l0_2 a1_0 l1_1 l1_2 = some r) ∧ Aside0 (kq ≤ k) ∧ Aside0 (Kd.S (Kd.slice 3 (Kd.int .i64)) 38 w' w.heap.size (fun _ => True) v9 x9_1) ∧ Aside0 (Kd.R Kd.bool 4 w' w.heap.size (fun _ => True) (.slice Ao11 y299.length co11) y299) ∧ Aside0 (w'.heap[gb294]? = some (.cells #[.int .i64 a0_0, (.slice A0_1 l0_1.length c0_1), (.slice A0_2 l0_2.length c0_2)] 31 (0, 0))) ∧ Aside0 (w'.heap[gb295]? = some (.cells #[.int .i64 a1_0, (.slice A1_1 l1_1.length c1_1), (.slice A1_2 l1_2.length c1_2)] 31 (0, 0))) ∧ Aside0 (Below w.heap.size w w'))
 case atStart => exact ⟨(y296), (0), zF, H', ⟨Nat.le_refl _⟩, ⟨zS HO298⟩, ⟨zR HO301⟩, ⟨zK BK294⟩, ⟨zK BK295⟩, ⟨zB HB⟩⟩
 case round =>
  clear H'
  try clear c1
  try clear p2
  try clear c4
  obtain ⟨x9_1, x20_1, rfl, HA, HK1, HO_9, HO_18, BK294, BK295, HB⟩ := hrel
  cases gk with
  | zero => exact absurd HA.out (by simp [impl_NextPairs.l0])
  | succ k1 =>
   have H := HA.out
   clear HA
   simp only [impl_NextPairs.l0] at H
   by_cases c12 : x20_1 < (y299.length : Int)
   ·rw [if_pos c12] at H
    have c12b0 : decide (x20_1 < (y299.length : Int)) = true := decide_eq_true c12
    clear c12
    obtain ⟨c13, H⟩ := ifS H
    have c13b0 : decide (0 ≤ x20_1) = true := decide_eq_true c13
    clear c13
    obtain ⟨c14, H⟩ := ifS H
    have c14b0 : decide (x20_1 < (y299.length : Int)) = true := decide_eq_true c14
    clear c14
    obtain ⟨t303, A15, H⟩ := bindS H
    have HC16 := Aside0.mk H
    clear H
    have p302 : 0 ≤ (x20_1 : Int) := zD
    have q302 : x20_1 < (y299.length : Int) := zD
    obtain ⟨ad302, e302, hx302_0⟩ := Kd.at_bool (Kd.R_reads' HO_18.out).2.2 x20_1 p302 q302
    cases e302
    replace p302 := eq_true p302
    replace q302 := eq_true q302
    have hnb17 := NB294_295.out
    have hnc17 := NB295_294.out
    have hcz18_0 := bc0 BK294
    have hcz18_1 := bc1 BK294
    have hcz18_2 := bc2 BK294
    have hfz18_0 := bf BK294 0
    have hfz18_1 := bf BK294 1
    have hfz18_2 := bf BK294 2
    go_upto_if 28 with (first | ((with_reducible refine gate_callee (f := 64) rfl ?_); refine goesL_ (some 26) rfl rfl Try.func64 (by kernel_rfl) rfl #[.agg #[.int .i64 a0_0, .slice A0_1 l0_1.length c0_1, .slice A0_2 l0_2.length c0_2], .int .i64 a2, .bool true] rfl zG ?_; (with_reducible refine (impl_MovesFrom.calls k1 a0_0 _ _ l0_1 _ _ l0_2 a2 true t303 _ ?side1 ?side2 ?side3 ?side4 A15.out).mono ?_); (case side1 => exact cS HR0_1 HB); (case side2 => exact HC0_1.out); (case side3 => exact cS HR0_2 HB); (case side4 => exact HC0_2.out); rintro e w19 ⟨v304, rfl, ho0, hb⟩; refine ⟨_, rfl, ?_⟩; replace HO_9 := Aside0.mk (Kd.S_elder' (zS HO_9) (Kd.R_base ho0) hb); replace HO_18 := Aside0.mk (Kd.R_below (zR HO_18) hb); have HO305 := Aside0.mk (Kd.R_lower ho0 (below_size (zB HB))); replace BK294 := kB BK294 hb; replace BK295 := kB BK295 hb; replace HB := bS HB hb; (try clear hb); (try clear ho0)))
    (try simp only [Act.put, List.setIfInBounds_toArray, List.set_cons_zero, List.set_cons_succ])
    obtain ⟨bq20, hbq20⟩ : ∃ b_ : Bool, b_ = (rdOf false y299 x20_1) := ⟨_, rfl⟩
    (try rw [← hbq20])
    have Nbq20 := Aside0.mk hbq20
    clear hbq20
    go_cut [12] (fun v12 wc => ∃ (kq : Nat) (x12_15 : List Int), Aside0 (impl_NextPairs.j1 kq a2 a3 x9_1 bq20 x12_15 y299 (y299.length : Int) x20_1 a0_0 l0_1 l0_2 a1_0 l1_1 l1_2 = some r) ∧ Aside0 (kq ≤ k1) ∧ Aside0 (Kd.S (Kd.slice 3 (Kd.int .i64)) 38 wc w.heap.size (fun k_ => some k_ ≠ (v12 : Value).ownBlock) u9 x9_1) ∧ Aside0 (Kd.R (Kd.int .i64) 3 wc w.heap.size (fun _ => True) v12 x12_15) ∧ Aside0 (Kd.R Kd.bool 4 wc w.heap.size (fun _ => True) (.slice (some ad302) y299.length co11) y299) ∧ Aside0 (wc.heap[gb294]? = some (.cells #[.int .i64 a0_0, (.slice A0_1 l0_1.length c0_1), (.slice A0_2 l0_2.length c0_2)] 31 (0, 0))) ∧ Aside0 (wc.heap[gb295]? = some (.cells #[.int .i64 a1_0, (.slice A1_1 l1_1.length c1_1), (.slice A1_2 l1_2.length c1_2)] 31 (0, 0))) ∧ Aside0 (Below w.heap.size w wc))
    case first =>
     have H := HC16.out
     clear HC16
     replace H : (if bq20 = true then (impl_NextPairs.j1 k1 a2 a3 x9_1 bq20 t303 y299 (y299.length : Int) x20_1 a0_0 l0_1 l0_2 a1_0 l1_1 l1_2) else ((impl_MovesFrom.f k1 a1_0 l1_1 l1_2 a3 true).bind fun t306 => (impl_NextPairs.j1 k1 a2 a3 x9_1 bq20 t306 y299 (y299.length : Int) x20_1 a0_0 l0_1 l0_2 a1_0 l1_1 l1_2))) = some r := by rw [← Nbq20.out] at H; exact H
     by_cases c21 : bq20 = true
     ·subst c21
      rename_i hm1_ hm2_
      have hm3_ := hm1_
      clear hm1_
      have H1 : (impl_NextPairs.j1 k1 a2 a3 x9_1 true t303 y299 (y299.length : Int) x20_1 a0_0 l0_1 l0_2 a1_0 l1_1 l1_2) = some r := by rw [if_pos rfl] at H; exact H
      clear H
      have H := H1
      clear H1
      have H' := Aside0.mk H
      clear H
      go_wp2
      go_meet
      case rel => exact ⟨_, (t303), H', ⟨by have := HK1.out; first | omega | exact Nat.le_refl _⟩, ⟨by (with_reducible repeat (first | apply Kd.S_alloc | apply Kd.S_drewN | apply Kd.S_drew)); exact Kd.S_mono HO_9.out (fun _ hk => hk.2)⟩, ⟨zR HO305⟩, ⟨zR HO_18⟩, ⟨zK BK294⟩, ⟨zK BK295⟩, ⟨zB HB⟩⟩
     ·replace c21 := Bool.eq_false_iff.mpr c21
      subst c21
      rename_i hm1_ hm2_
      have hm3_ := hm1_
      clear hm1_
      have H1 : ((impl_MovesFrom.f k1 a1_0 l1_1 l1_2 a3 true).bind fun t306 => (impl_NextPairs.j1 k1 a2 a3 x9_1 false t306 y299 (y299.length : Int) x20_1 a0_0 l0_1 l0_2 a1_0 l1_1 l1_2)) = some r := by rw [if_neg (show ¬ (false = true) by decide)] at H; exact H
      clear H
      have H := H1
      clear H1
      obtain ⟨t306, A22, H⟩ := bindS H
      have H' := Aside0.mk H
      clear H
      have hnb23 := NB295_294.out
      have hnc23 := NB294_295.out
      have hcz24_0 := bc0 BK295
      have hcz24_1 := bc1 BK295
      have hcz24_2 := bc2 BK295
      have hfz24_0 := bf BK295 0
      have hfz24_1 := bf BK295 1
      have hfz24_2 := bf BK295 2
      go_wp2_with (first | ((with_reducible refine gate_callee (f := 64) rfl ?_); refine goesL_ (some 31) rfl rfl Try.func64 (by kernel_rfl) rfl #[.agg #[.int .i64 a1_0, .slice A1_1 l1_1.length c1_1, .slice A1_2 l1_2.length c1_2], .int .i64 a3, .bool true] rfl zG ?_; (with_reducible refine (impl_MovesFrom.calls k1 a1_0 _ _ l1_1 _ _ l1_2 a3 true t306 _ ?side1 ?side2 ?side3 ?side4 A22.out).mono ?_); (case side1 => exact cS HR1_1 HB); (case side2 => exact HC1_1.out); (case side3 => exact cS HR1_2 HB); (case side4 => exact HC1_2.out); rintro e w25 ⟨v307, rfl, ho0, hb⟩; refine ⟨_, rfl, ?_⟩; replace HO_9 := Aside0.mk (Kd.S_elder' (zS HO_9) (Kd.R_base ho0) hb); replace HO_18 := Aside0.mk (Kd.R_below (zR HO_18) hb); have HO308 := Aside0.mk (Kd.R_lower (Kd.R_new' ho0 (Kd.R_lt (zR HO305))) (below_size (zB HB))); replace HO305 := Aside0.mk (Kd.R_elder' (zR HO305) (Kd.R_base ho0) hb); replace BK294 := kB BK294 hb; replace BK295 := kB BK295 hb; replace HB := bS HB hb; (try clear hb); (try clear ho0)))
      go_meet
      case rel => exact ⟨_, (t306), H', ⟨by have := HK1.out; first | omega | exact Nat.le_refl _⟩, ⟨by (with_reducible repeat (first | apply Kd.S_alloc | apply Kd.S_drewN | apply Kd.S_drew)); exact Kd.S_mono HO_9.out (fun _ hk => hk.2)⟩, ⟨by (with_reducible repeat (first | apply Kd.R_alloc | apply Kd.R_drewN | apply Kd.R_drew)); exact Kd.R_mono HO308.out (fun _ hk => trivial)⟩, ⟨zR HO_18⟩, ⟨zK BK294⟩, ⟨zK BK295⟩, ⟨zB HB⟩⟩
    case rest =>
     have Nbq20_ := Nbq20.out
     clear Nbq20
     subst Nbq20_
     clear HC16
     try clear c1
     try clear c2
     try clear p2
     try clear q2
     try clear p3
     try clear q3
     try clear hx3
     try clear c4
     try clear c6
     try clear c12
     try clear c12b0
     try clear c13
     try clear c13b0
     try clear c14
     try clear c14b0
     try clear c17
     try clear q20
     try clear c21
     try clear c23
     try clear hcz18_0
     try clear hcz18_1
     try clear hcz18_2
     try clear hcz24_0
     try clear hcz24_1
     try clear hcz24_2
     try clear hfz18_0
     try clear hfz18_1
     try clear hfz18_2
     try clear hfz24_0
     try clear hfz24_1
     try clear hfz24_2
     try clear hx302_0
     try clear p2
     try clear p302
     try clear q302
     obtain ⟨kq, x12_15, HA, HJ15, HO_9, HO_12, HO_18, BK294, BK295, HB⟩ := hcut
     cases kq with
     | zero => exact absurd HA.out (by simp [impl_NextPairs.j1])
     | succ kj15 =>
      have H := HA.out
      clear HA
      simp only [impl_NextPairs.j1] at H
      have H' := Aside0.mk H
      clear H
      obtain ⟨Ao26, co26, eo26⟩ := Kd.R_slice HO_12.out
      subst eo26
      go_wp2
      go_loopg [9, 34] kj15 (fun kq v9 v34 w' => ∃ (x9_3 : List (List Int)) (x34_3 : Int), v34 = .int .i64 x34_3 ∧ Aside0 (impl_NextPairs.l1 kq a2 a3 x9_3 (rdOf false y299 x20_1) y299 (y299.length : Int) x20_1 x12_15 (x12_15.length : Int) x34_3 a0_0 l0_1 l0_2 a1_0 l1_1 l1_2 = some r) ∧ Aside0 (kq ≤ kj15) ∧ Aside0 (Kd.S (Kd.slice 3 (Kd.int .i64)) 38 w' w.heap.size (fun k_ => some k_ ≠ ((.slice Ao26 x12_15.length co26) : Value).ownBlock) v9 x9_3) ∧ Aside0 (Kd.R Kd.bool 4 w' w.heap.size (fun _ => True) (.slice (some ad302) y299.length co11) y299) ∧ Aside0 (Kd.R (Kd.int .i64) 3 w' w.heap.size (fun _ => True) (.slice Ao26 x12_15.length co26) x12_15) ∧ Aside0 (w'.heap[gb294]? = some (.cells #[.int .i64 a0_0, (.slice A0_1 l0_1.length c0_1), (.slice A0_2 l0_2.length c0_2)] 31 (0, 0))) ∧ Aside0 (w'.heap[gb295]? = some (.cells #[.int .i64 a1_0, (.slice A1_1 l1_1.length c1_1), (.slice A1_2 l1_2.length c1_2)] 31 (0, 0))) ∧ Aside0 (Below w.heap.size w w'))
      case atStart => exact ⟨(x9_1), (0), zF, H', ⟨Nat.le_refl _⟩, ⟨zS HO_9⟩, ⟨zR HO_18⟩, ⟨zR HO_12⟩, ⟨zK BK294⟩, ⟨zK BK295⟩, ⟨zB HB⟩⟩
      case round =>
       clear H'
       try clear c1
       try clear c2
       try clear p2
       try clear q2
       try clear p3
       try clear q3
       try clear hx3
       try clear c4
       try clear c6
       try clear c12
       try clear c12b0
       try clear c13
       try clear c13b0
       try clear c14
       try clear c14b0
       try clear c17
       try clear q20
       try clear c21
       try clear c23
       try clear hcz18_0
       try clear hcz18_1
       try clear hcz18_2
       try clear hcz24_0
       try clear hcz24_1
       try clear hcz24_2
       try clear hfz18_0
       try clear hfz18_1
       try clear hfz18_2
       try clear hfz24_0
       try clear hfz24_1
       try clear hfz24_2
       try clear hx302_0
       try clear p2
       try clear p3
       try clear p302
       try clear q2
       try clear q20
       try clear q3
       try clear q302
       obtain ⟨x9_3, x34_3, rfl, HA, HK3, HO_9, HO_18, HO_32, BK294, BK295, HB⟩ := hrel
       cases gk with
       | zero => exact absurd HA.out (by simp [impl_NextPairs.l1])
       | succ k3 =>
        have H := HA.out
        clear HA
        simp only [impl_NextPairs.l1] at H
        by_cases c27 : x34_3 < (x12_15.length : Int)
        ·rw [if_pos c27] at H
         have c27b0 : decide (x34_3 < (x12_15.length : Int)) = true := decide_eq_true c27
         clear c27
         obtain ⟨c28, H⟩ := ifS H
         have c28b0 : decide (0 ≤ x34_3) = true := decide_eq_true c28
         clear c28
         obtain ⟨c29, H⟩ := ifS H
         have c29b0 : decide (x34_3 < (x12_15.length : Int)) = true := decide_eq_true c29
         clear c29
         obtain ⟨t310, A30, H⟩ := bindS H
         obtain ⟨t311, A31, H⟩ := bindS H
         by_cases c32 : t310 ≥ 0
         ·rw [if_pos c32] at H
          have c32b0 : decide (0 ≤ t310) = true := decide_eq_true c32
          clear c32
          by_cases c33 : t311 ≥ 0
          ·rw [if_pos c33] at H
           have c33b0 : decide (0 ≤ t311) = true := decide_eq_true c33
           clear c33
           obtain ⟨c34, H⟩ := ifS H
           have c34b0 : decide (0 ≤ t310) = true := decide_eq_true c34
           clear c34
           obtain ⟨c35, H⟩ := ifS H
           have c35b0 : decide (t310 < (l0_2.length : Int)) = true := decide_eq_true c35
           clear c35
           obtain ⟨c36, H⟩ := ifS H
           have c36b0 : decide (0 ≤ t311) = true := decide_eq_true c36
           clear c36
           obtain ⟨c37, H⟩ := ifS H
           have c37b0 : decide (t311 < (l1_2.length : Int)) = true := decide_eq_true c37
           clear c37
           obtain ⟨y314, hy314⟩ : ∃ y_ : List Int, y_ = (([(rd_T64 l0_2 t310).f3, (rd_T64 l1_2 t311).f3] : List Int)) := ⟨_, rfl⟩
           replace H : (if x9_3.length < 5864062014805 then (impl_NextPairs.l1 k3 a2 a3 (x9_3 ++ [y314]) (rdOf false y299 x20_1) y299 (y299.length : Int) x20_1 x12_15 (x12_15.length : Int) (wrap64 (x34_3 + 1)) a0_0 l0_1 l0_2 a1_0 l1_1 l1_2) else (none)) = some r := by first | (rw [hy314]; with_reducible exact H) | (have H2_ := (Option.bind_some _ _).symm.trans H; rw [hy314]; with_reducible exact H2_) | (have H2_ := (Option.bind_some _ _).symm.trans H; with_reducible exact H2_) | with_reducible exact H | (rw [hy314]; exact H) | exact H
           have Ny314 := Aside0.mk hy314
           clear hy314
           obtain ⟨c38, H⟩ := ifS H
           have LMc38 := Aside0.mk c38
           clear c38
           obtain ⟨y317, hy317⟩ : ∃ y_ : List (List Int), y_ = (x9_3 ++ [y314]) := ⟨_, rfl⟩
           replace H : (impl_NextPairs.l1 k3 a2 a3 y317 (rdOf false y299 x20_1) y299 (y299.length : Int) x20_1 x12_15 (x12_15.length : Int) (wrap64 (x34_3 + 1)) a0_0 l0_1 l0_2 a1_0 l1_1 l1_2) = some r := by first | (rw [hy317]; with_reducible exact H) | (have H2_ := (Option.bind_some _ _).symm.trans H; rw [hy317]; with_reducible exact H2_) | (have H2_ := (Option.bind_some _ _).symm.trans H; with_reducible exact H2_) | with_reducible exact H | (rw [hy317]; exact H) | exact H
           have Ny317 := Aside0.mk hy317
           clear hy317
           have H' := Aside0.mk H
           clear H
           have p309 : 0 ≤ (x34_3 : Int) := zD
           have q309 : x34_3 < (x12_15.length : Int) := zD
           obtain ⟨ad309, e309, hx309_0⟩ := Kd.at_int (Kd.R_reads' HO_32.out).2.2 x34_3 p309 q309
           cases e309
           replace p309 := eq_true p309
           replace q309 := eq_true q309
           try go_wp2
           replace HO_9 := Aside0.mk (Kd.S_drew HO_9.out)
           replace HO_18 := Aside0.mk (Kd.R_drew HO_18.out)
           replace HO_32 := Aside0.mk (Kd.R_drew HO_32.out)
           replace BK294 := Aside0.mk (blk_drew BK294.out)
           replace BK295 := Aside0.mk (blk_drew BK295.out)
           replace HB := Aside0.mk (below_drew1 HB.out)
           refine start_ (n := 13) (S := fun w' => w'.cell? ⟨gb294, 0, none⟩ = some (.int .i64 a0_0) ∧ w'.cell? ⟨gb294, 1, none⟩ = some (.slice A0_1 l0_1.length c0_1) ∧ w'.cell? ⟨gb294, 2, none⟩ = some (.slice A0_2 l0_2.length c0_2) ∧ w'.cell? ⟨gb295, 0, none⟩ = some (.int .i64 a1_0) ∧ w'.cell? ⟨gb295, 1, none⟩ = some (.slice A1_1 l1_1.length c1_1) ∧ w'.cell? ⟨gb295, 2, none⟩ = some (.slice A1_2 l1_2.length c1_2)) (ds := []) (bm 13 0) (by kernel_rfl) rfl (bm0 _) ⟨bc0 BK294, bc1 BK294, bc2 BK294, bc0 BK295, bc1 BK295, bc2 BK295⟩ (fun hHeld => ?_); refine with_tabW impl_NextPairs.tab11 impl_NextPairs.bits11 (fun HT_ HW_ => ?_)
           generalize wr.drew = w39 at HO_9 HO_18 HO_32 BK294 BK295 HB hHeld ⊢
           refine pU 1 (some 39) (bm 13 2) HT_ rfl rfl ?_
           refine pU 2 (some 40) (bm 13 6) HT_ rfl rfl ?_
           refine pU 3 (some 41) (bm 13 14) HT_ rfl rfl ?_
           refine pU 6 (some 44) (bm 13 78) HT_ rfl rfl ?_
           refine pU 7 (some 45) (bm 13 206) HT_ rfl rfl ?_
           refine pU 8 (some 46) (bm 13 462) HT_ rfl rfl ?_
           refine pU 9 (some 47) (bm 13 974) HT_ rfl rfl ?_
           refine tU 0 (some 38) (bm 13 975) HT_ HW_ rfl rfl hHeld ?_
           refine tU 5 (some 43) (bm 13 1007) HT_ HW_ rfl rfl hHeld ?_
           refine one_ (i := 4) (N := some 42) (bm 13 1023) rfl rfl (one_of HT_.out (by kernel_rfl)) (by decide) (fun K hK => ?_)
           refine goes_ Try.func65 (by kernel_rfl) rfl #[.agg #[.int .i64 a0_0, .slice A0_1 l0_1.length c0_1, .slice A0_2 l0_2.length c0_2], .int .i64 a2, .bool (rdOf false y299 x20_1), .int .i64 (rd x12_15 x34_3)] (by rfl) rfl rfl zG ?_
           with_reducible refine (impl_MoveOf.calls a0_0 _ _ l0_1 _ _ l0_2 a2 (rdOf false y299 x20_1) (rd x12_15 x34_3) t310 _ ?side1 ?side2 ?side3 ?side4 A30.out).mono ?_
           (case side1 => exact cS HR0_1 HB)
           (case side2 => exact HC0_1.out)
           (case side3 => exact cS HR0_2 HB)
           (case side4 => exact HC0_2.out)
           rintro e w40 ⟨rfl, hb⟩
           refine ⟨_, rfl, ?_⟩
           replace HO_9 := Aside0.mk (Kd.S_below (zS HO_9) hb)
           replace HO_18 := Aside0.mk (Kd.R_below (zR HO_18) hb)
           replace HO_32 := Aside0.mk (Kd.R_below (zR HO_32) hb)
           replace BK294 := kB BK294 hb
           replace BK295 := kB BK295 hb
           replace HB := bS HB hb
           (try clear hb)
           (try clear hb2)
           (try clear hk)
           (try clear hi)
           refine hK.out _ _ ⟨bc0 BK294, bc1 BK294, bc2 BK294, bc0 BK295, bc1 BK295, bc2 BK295⟩ (fun hHeld => ?_)
           clear hK K
           refine norm_ (a' := ?_) ?_ ?_
           rotate_left
           ·show Act.put _ (some 42) _ = _
            simp only [Act.put, List.setIfInBounds_toArray, List.set_cons_zero, List.set_cons_succ, i64_w, i32_w]
            rfl
           refine one_ (i := 10) (N := some 48) (bm 13 2047) rfl rfl (one_of HT_.out (by kernel_rfl)) (by decide) (fun K hK => ?_)
           refine goes_ Try.func65 (by kernel_rfl) rfl #[.agg #[.int .i64 a1_0, .slice A1_1 l1_1.length c1_1, .slice A1_2 l1_2.length c1_2], .int .i64 a3, .bool (!(rdOf false y299 x20_1)), .int .i64 (rd x12_15 x34_3)] (by rfl) rfl rfl zG ?_
           with_reducible refine (impl_MoveOf.calls a1_0 _ _ l1_1 _ _ l1_2 a3 (!(rdOf false y299 x20_1)) (rd x12_15 x34_3) t311 _ ?side1 ?side2 ?side3 ?side4 A31.out).mono ?_
           (case side1 => exact cS HR1_1 HB)
           (case side2 => exact HC1_1.out)
           (case side3 => exact cS HR1_2 HB)
           (case side4 => exact HC1_2.out)
           rintro e w41 ⟨rfl, hb⟩
           refine ⟨_, rfl, ?_⟩
           replace HO_9 := Aside0.mk (Kd.S_below (zS HO_9) hb)
           replace HO_18 := Aside0.mk (Kd.R_below (zR HO_18) hb)
           replace HO_32 := Aside0.mk (Kd.R_below (zR HO_32) hb)
           replace BK294 := kB BK294 hb
           replace BK295 := kB BK295 hb
           replace HB := bS HB hb
           (try clear hb)
           (try clear hb2)
           (try clear hk)
           (try clear hi)
           refine hK.out _ _ ⟨bc0 BK294, bc1 BK294, bc2 BK294, bc0 BK295, bc1 BK295, bc2 BK295⟩ (fun hHeld => ?_)
           clear hK K
           refine norm_ (a' := ?_) ?_ ?_
           rotate_left
           ·show Act.put _ (some 48) _ = _
            simp only [Act.put, List.setIfInBounds_toArray, List.set_cons_zero, List.set_cons_succ, i64_w, i32_w]
            rfl
           refine pU 11 (some 15) (bm 13 4095) HT_ rfl rfl ?_
           refine pU 12 (some 16) (bm 13 8191) HT_ rfl rfl ?_
           refine done_ (done_of HT_.out (by kernel_rfl)) ?_
           try clear hHeld
           try go_wp2
           replace HO_9 := Aside0.mk (Kd.S_drew HO_9.out)
           replace HO_18 := Aside0.mk (Kd.R_drew HO_18.out)
           replace HO_32 := Aside0.mk (Kd.R_drew HO_32.out)
           replace BK294 := Aside0.mk (blk_drew BK294.out)
           replace BK295 := Aside0.mk (blk_drew BK295.out)
           replace HB := Aside0.mk (below_drew1 HB.out)
           have p312 : 0 ≤ (t310 : Int) := zD
           have q312 : t310 < (l0_2.length : Int) := zD
           obtain ⟨ad312, e312, hx312_0, hx312_1, hx312_2, hx312_3⟩ := at_T64 HR0_2.out t310 p312 q312
           have hw312_3 := hx312_3
           have hw312_2 := hx312_2
           have hw312_1 := hx312_1
           have hw312_0 := hx312_0
           cases e312
           replace hx312_0 := hL HB hx312_0
           replace hx312_1 := hL HB hx312_1
           replace hx312_2 := hL HB hx312_2
           replace hx312_3 := hL HB hx312_3
           replace p312 := eq_true p312
           replace q312 := eq_true q312
           have p313 : 0 ≤ (t311 : Int) := zD
           have q313 : t311 < (l1_2.length : Int) := zD
           obtain ⟨ad313, e313, hx313_0, hx313_1, hx313_2, hx313_3⟩ := at_T64 HR1_2.out t311 p313 q313
           have hw313_3 := hx313_3
           have hw313_2 := hx313_2
           have hw313_1 := hx313_1
           have hw313_0 := hx313_0
           cases e313
           replace hx313_0 := hL HB hx313_0
           replace hx313_1 := hL HB hx313_1
           replace hx313_2 := hL HB hx313_2
           replace hx313_3 := hL HB hx313_3
           replace p313 := eq_true p313
           replace q313 := eq_true q313
           refine start_ (n := 17) (S := fun w' => w'.cell? ⟨gb294, 0, none⟩ = some (.int .i64 a0_0) ∧ w'.cell? ⟨gb294, 1, none⟩ = some (.slice A0_1 l0_1.length c0_1) ∧ w'.cell? ⟨gb294, 2, none⟩ = some (.slice (some ad312) l0_2.length c0_2) ∧ w'.cell? ⟨gb295, 0, none⟩ = some (.int .i64 a1_0) ∧ w'.cell? ⟨gb295, 1, none⟩ = some (.slice A1_1 l1_1.length c1_1) ∧ w'.cell? ⟨gb295, 2, none⟩ = some (.slice (some ad313) l1_2.length c1_2) ∧ w'.cell? (ad312.add ((t310).toNat * 4)) = some (.int .i64 ((rd_T64 l0_2 t310).f0)) ∧ w'.cell? ⟨(ad312.add ((t310).toNat * 4)).block, (ad312.add ((t310).toNat * 4)).off + 1, none⟩ = some (.bool ((rd_T64 l0_2 t310).f1)) ∧ w'.cell? ⟨(ad312.add ((t310).toNat * 4)).block, (ad312.add ((t310).toNat * 4)).off + 2, none⟩ = some (.int .i64 ((rd_T64 l0_2 t310).f2)) ∧ w'.cell? ⟨(ad312.add ((t310).toNat * 4)).block, (ad312.add ((t310).toNat * 4)).off + 3, none⟩ = some (.int .i64 ((rd_T64 l0_2 t310).f3)) ∧ w'.cell? (ad313.add ((t311).toNat * 4)) = some (.int .i64 ((rd_T64 l1_2 t311).f0)) ∧ w'.cell? ⟨(ad313.add ((t311).toNat * 4)).block, (ad313.add ((t311).toNat * 4)).off + 1, none⟩ = some (.bool ((rd_T64 l1_2 t311).f1)) ∧ w'.cell? ⟨(ad313.add ((t311).toNat * 4)).block, (ad313.add ((t311).toNat * 4)).off + 2, none⟩ = some (.int .i64 ((rd_T64 l1_2 t311).f2)) ∧ w'.cell? ⟨(ad313.add ((t311).toNat * 4)).block, (ad313.add ((t311).toNat * 4)).off + 3, none⟩ = some (.int .i64 ((rd_T64 l1_2 t311).f3))) (ds := []) (bm 17 0) (by kernel_rfl) rfl (bm0 _) ⟨bc0 BK294, bc1 BK294, bc2 BK294, bc0 BK295, bc1 BK295, bc2 BK295, (hL HB hw312_0), (hL HB hw312_1), (hL HB hw312_2), (hL HB hw312_3), (hL HB hw313_0), (hL HB hw313_1), (hL HB hw313_2), (hL HB hw313_3)⟩ (fun hHeld => ?_); refine with_tabW impl_NextPairs.tab13 impl_NextPairs.bits13 (fun HT_ HW_ => ?_)
           generalize w41.drew = w42 at HO_9 HO_18 HO_32 BK294 BK295 HB hx312_0 hx312_1 hx312_2 hx312_3 hx313_0 hx313_1 hx313_2 hx313_3 hHeld ⊢
           refine pU 0 (some 55) (bm 17 1) HT_ rfl rfl ?_
           refine pU 1 (some 56) (bm 17 3) HT_ rfl rfl ?_
           refine pU 3 (some 58) (bm 17 11) HT_ rfl rfl ?_
           refine pU 7 (some 62) (bm 17 139) HT_ rfl rfl ?_
           refine pU 9 (some 64) (bm 17 651) HT_ rfl rfl ?_
           refine tU 2 (some 57) (bm 17 655) HT_ HW_ rfl rfl hHeld ?_
           refine pU 4 (some 59) (bm 17 671) HT_ rfl rfl ?_
           refine pU 5 (some 60) (bm 17 703) HT_ rfl rfl ?_
           refine tU 6 (some 61) (bm 17 767) HT_ HW_ rfl rfl hHeld ?_
           refine tU 8 (some 63) (bm 17 1023) HT_ HW_ rfl rfl hHeld ?_
           refine pU 10 (some 65) (bm 17 2047) HT_ rfl rfl ?_
           refine pU 11 (some 66) (bm 17 4095) HT_ rfl rfl ?_
           refine tU 12 (some 67) (bm 17 8191) HT_ HW_ rfl rfl hHeld ?_
           refine one_ (i := 13) (N := some 68) (bm 17 16383) rfl rfl (one_of HT_.out (by kernel_rfl)) (by decide) (fun K hK => ?_)
           refine Kd.R_lit_step (Kd.int .i64) _ 3 ?hg (N := 68) ?hd (xs := ([(rd_T64 l0_2 t310).f3, (rd_T64 l1_2 t311).f3] : List Int)) (inner := [.int .i64 ((rd_T64 l0_2 t310).f3), .int .i64 ((rd_T64 l1_2 t311).f3)]) (ok := fun _ => True) (okp := fun _ => True) ?hr ?hp (fun _ hk => hk) trivial (Below.refl _ _) (Nat.le_refl _) (by simp) ?_; (case hd => rfl); (case hg => rfl); (case hr => first | (go_simp; done) | (go_simp; rfl)); (case hp => exact (Reps.one (show Kd.M (Kd.int .i64) _ _ _ ((rd_T64 l0_2 t310).f3) [.int .i64 ((rd_T64 l0_2 t310).f3)] from rfl) (Reps.one (show Kd.M (Kd.int .i64) _ _ _ ((rd_T64 l1_2 t311).f3) [.int .i64 ((rd_T64 l1_2 t311).f3)] from rfl) (Reps.none _ _))))
           intro v315 w43 ho44 hb hg_ hnew_
           clear hg_ hnew_
           (first | rw [← Ny314.out] at ho44 | (simp only [Int.reduceToNat] at ho44; rw [← Ny314.out] at ho44))
           replace HO_9 := Aside0.mk (Kd.S_elder' (zS HO_9) (Kd.R_base ho44) hb)
           replace HO_18 := Aside0.mk (Kd.R_below (zR HO_18) hb)
           have HO316 := Aside0.mk (Kd.R_lower (Kd.R_new' ho44 (Kd.R_lt (zR HO_32))) (below_size (zB HB)))
           replace HO_32 := Aside0.mk (Kd.R_elder' (zR HO_32) (Kd.R_base ho44) hb)
           replace BK294 := kB BK294 hb
           replace BK295 := kB BK295 hb
           replace HB := bS HB hb
           clear hb ho44
           obtain ⟨Ao46, co46, eo46⟩ := Kd.R_slice HO316.out
           (first | subst eo46 | (injection eo46 with f1_ f2_ f3_; have f4_ := f1_.symm; have f5_ := f3_.symm; clear f1_ f2_ f3_; subst f4_; subst f5_))
           refine hK.out _ _ ⟨bc0 BK294, bc1 BK294, bc2 BK294, bc0 BK295, bc1 BK295, bc2 BK295, (hL HB hw312_0), (hL HB hw312_1), (hL HB hw312_2), (hL HB hw312_3), (hL HB hw313_0), (hL HB hw313_1), (hL HB hw313_2), (hL HB hw313_3)⟩ (fun hHeld => ?_)
           clear hK K
           refine norm_ (a' := ?_) ?_ ?_
           rotate_left
           ·show Act.put _ (some 68) _ = _
            simp only [Act.put, List.setIfInBounds_toArray, List.set_cons_zero, List.set_cons_succ, i64_w, i32_w]
            rfl
           refine one_ (i := 14) (N := some 69) (bm 17 32767) rfl rfl (one_of HT_.out (by kernel_rfl)) (by decide) (fun K hK => ?_)
           refine value_ (w1 := ?_) (v := ?_) (by rfl) rfl ?_ ?_
           rotate_left 2
           ·go_simp
            constructor
            ·rfl
            ·rfl
           refine hK.out _ _ ⟨(blk_cell (blk_alloc BK294.out _) 0).trans rfl, (blk_cell (blk_alloc BK294.out _) 1).trans rfl, (blk_cell (blk_alloc BK294.out _) 2).trans rfl, (blk_cell (blk_alloc BK295.out _) 0).trans rfl, (blk_cell (blk_alloc BK295.out _) 1).trans rfl, (blk_cell (blk_alloc BK295.out _) 2).trans rfl, (World.cell?_alloc_lt _ _ _ (World.block_lt_of_cell? _ _ ((hL HB hw312_0)))).trans ((hL HB hw312_0)), (World.cell?_alloc_lt _ _ _ (World.block_lt_of_cell? _ _ ((hL HB hw312_1)))).trans ((hL HB hw312_1)), (World.cell?_alloc_lt _ _ _ (World.block_lt_of_cell? _ _ ((hL HB hw312_2)))).trans ((hL HB hw312_2)), (World.cell?_alloc_lt _ _ _ (World.block_lt_of_cell? _ _ ((hL HB hw312_3)))).trans ((hL HB hw312_3)), (World.cell?_alloc_lt _ _ _ (World.block_lt_of_cell? _ _ ((hL HB hw313_0)))).trans ((hL HB hw313_0)), (World.cell?_alloc_lt _ _ _ (World.block_lt_of_cell? _ _ ((hL HB hw313_1)))).trans ((hL HB hw313_1)), (World.cell?_alloc_lt _ _ _ (World.block_lt_of_cell? _ _ ((hL HB hw313_2)))).trans ((hL HB hw313_2)), (World.cell?_alloc_lt _ _ _ (World.block_lt_of_cell? _ _ ((hL HB hw313_3)))).trans ((hL HB hw313_3))⟩ (fun hHeld => ?_)
           clear hK K
           refine norm_ (a' := ?_) ?_ ?_
           rotate_left
           ·show Act.put _ (some 69) _ = _
            simp only [Act.put, List.setIfInBounds_toArray, List.set_cons_zero, List.set_cons_succ, i64_w, i32_w]
            rfl
           refine one_ (i := 15) (N := some 70) (bm 17 65535) rfl rfl (one_of HT_.out (by kernel_rfl)) (by decide) (fun K hK => ?_)
           refine Kd.S_append_step (Kd.slice 3 (Kd.int .i64)) (w0 := w) w.heap.size (by rfl) (.tmp 55) (.tmp 69) 27 38 (.slice none 0 0) 24 rfl Try.underlying27 info38 rfl (by decide) (by omega) u9 x9_3 y314 [.slice Ao46 y314.length co46] (fun k_ => some k_ ≠ (.slice (some ad309) x12_15.length co26 : Value).ownBlock) (fun k_ => some k_ = (.slice Ao46 y314.length co46 : Value).ownBlock) rfl rfl ?aP (fun k_ hk_ => ((Kd.R_mono (ok' := fun k_ => ((fun k_ => some k_ ≠ (.slice (some ad309) x12_15.length co26 : Value).ownBlock)) k_ ∧ some k_ ≠ (u9 : Value).ownBlock) (Kd.R_apart' (HO316.out) (Kd.S_typed HO_9.out) (by decide)) (fun k_ hk => ⟨hk.1.2, hk.2⟩))).1 k_ hk_.symm) ?aF ?aO ?aB ?aS ?aL ?_
           (case aP => exact Kd.M_row (Kd.R_mono (Kd.R_tight rfl (Kd.R_mono (ok' := fun k_ => ((fun k_ => some k_ ≠ (.slice (some ad309) x12_15.length co26 : Value).ownBlock)) k_ ∧ some k_ ≠ (u9 : Value).ownBlock) (Kd.R_apart' (HO316.out) (Kd.S_typed HO_9.out) (by decide)) (fun k_ hk => ⟨hk.1.2, hk.2⟩))) (fun _ h_ => h_)))
           (case aB => exact (zB HB))
           (case aF => exact (fun k_ hk => Kd.fresh' (Kd.R_lt (zR HO_32)) k_ hk))
           (case aO => exact (by (with_reducible repeat (first | apply Kd.S_alloc | apply Kd.S_drewN | apply Kd.S_drew)); exact Kd.S_mono HO_9.out (fun k_ hk => ⟨hk.1, fun e_ => hk.2 e_⟩)))
           (case aS => exact (below_size (zB HB)))
           (case aL => have := LMc38.out; omega)
           intro v318 w45 ho hb hg hat
           rw [← Ny317.out] at ho
           replace HO_18 := Aside0.mk (Kd.R_over' (zR HO_18) (Kd.S_typed (zS HO_9)) (by decide) hg)
           replace HO_32 := Aside0.mk (Kd.R_over' (zR HO_32) (Kd.S_typed (zS HO_9)) (by decide) hg)
           replace BK294 := Aside0.mk (blk_grown (g := gb294) (o := .cells #[.int .i64 a0_0, .slice A0_1 l0_1.length c0_1, .slice (some ad312) l0_2.length c0_2] 31 (0, 0)) (zK BK294) hg (Kd.S_ne HO_9.out BK294.out (by decide)))
           replace BK295 := Aside0.mk (blk_grown (g := gb295) (o := .cells #[.int .i64 a1_0, .slice A1_1 l1_1.length c1_1, .slice (some ad313) l1_2.length c1_2] 31 (0, 0)) (zK BK295) hg (Kd.S_ne HO_9.out BK295.out (by decide)))
           replace HB := Aside0.mk (hb)
           have HO319 := Aside0.mk (ho)
           clear HO_9 HO316
           clear ho hb hg hat
           refine hK.out _ _ ⟨bc0 BK294, bc1 BK294, bc2 BK294, bc0 BK295, bc1 BK295, bc2 BK295, (hL HB hw312_0), (hL HB hw312_1), (hL HB hw312_2), (hL HB hw312_3), (hL HB hw313_0), (hL HB hw313_1), (hL HB hw313_2), (hL HB hw313_3)⟩ (fun hHeld => ?_)
           clear hK K
           refine norm_ (a' := ?_) ?_ ?_
           rotate_left
           ·show Act.put _ (some 70) _ = _
            simp only [Act.put, List.setIfInBounds_toArray, List.set_cons_zero, List.set_cons_succ, i64_w, i32_w]
            rfl
           refine pU 16 (some 9) (bm 17 131071) HT_ rfl rfl ?_
           refine done_ (done_of HT_.out (by kernel_rfl)) ?_
           try clear hHeld
           try go_wp2
           go_roundg k3
           case measure => have := HK1.out; have := HJ15.out; have := HK3.out; omega
           case rel => exact ⟨(y317), (wrap64 (x34_3 + 1)), zF, H', ⟨by have := HK1.out; have := HJ15.out; have := HK3.out; omega⟩, ⟨zS HO319⟩, ⟨zR HO_18⟩, ⟨by (with_reducible repeat (first | apply Kd.R_alloc | apply Kd.R_drewN | apply Kd.R_drew)); exact Kd.R_mono HO_32.out (fun _ hk => trivial)⟩, ⟨zK BK294⟩, ⟨zK BK295⟩, ⟨zB HB⟩⟩
          ·rw [if_neg c33] at H
           have c33b0 : decide (0 ≤ t311) = false := decide_eq_false c33
           clear c33
           have H' := Aside0.mk H
           clear H
           have p309 : 0 ≤ (x34_3 : Int) := zD
           have q309 : x34_3 < (x12_15.length : Int) := zD
           obtain ⟨ad309, e309, hx309_0⟩ := Kd.at_int (Kd.R_reads' HO_32.out).2.2 x34_3 p309 q309
           cases e309
           replace p309 := eq_true p309
           replace q309 := eq_true q309
           try go_wp2
           replace HO_9 := Aside0.mk (Kd.S_drew HO_9.out)
           replace HO_18 := Aside0.mk (Kd.R_drew HO_18.out)
           replace HO_32 := Aside0.mk (Kd.R_drew HO_32.out)
           replace BK294 := Aside0.mk (blk_drew BK294.out)
           replace BK295 := Aside0.mk (blk_drew BK295.out)
           replace HB := Aside0.mk (below_drew1 HB.out)
           refine start_ (n := 13) (S := fun w' => w'.cell? ⟨gb294, 0, none⟩ = some (.int .i64 a0_0) ∧ w'.cell? ⟨gb294, 1, none⟩ = some (.slice A0_1 l0_1.length c0_1) ∧ w'.cell? ⟨gb294, 2, none⟩ = some (.slice A0_2 l0_2.length c0_2) ∧ w'.cell? ⟨gb295, 0, none⟩ = some (.int .i64 a1_0) ∧ w'.cell? ⟨gb295, 1, none⟩ = some (.slice A1_1 l1_1.length c1_1) ∧ w'.cell? ⟨gb295, 2, none⟩ = some (.slice A1_2 l1_2.length c1_2)) (ds := []) (bm 13 0) (by kernel_rfl) rfl (bm0 _) ⟨bc0 BK294, bc1 BK294, bc2 BK294, bc0 BK295, bc1 BK295, bc2 BK295⟩ (fun hHeld => ?_); refine with_tabW impl_NextPairs.tab11 impl_NextPairs.bits11 (fun HT_ HW_ => ?_)
           generalize wr.drew = w47 at HO_9 HO_18 HO_32 BK294 BK295 HB hHeld ⊢
           refine pU 1 (some 39) (bm 13 2) HT_ rfl rfl ?_
           refine pU 2 (some 40) (bm 13 6) HT_ rfl rfl ?_
           refine pU 3 (some 41) (bm 13 14) HT_ rfl rfl ?_
           refine pU 6 (some 44) (bm 13 78) HT_ rfl rfl ?_
           refine pU 7 (some 45) (bm 13 206) HT_ rfl rfl ?_
           refine pU 8 (some 46) (bm 13 462) HT_ rfl rfl ?_
           refine pU 9 (some 47) (bm 13 974) HT_ rfl rfl ?_
           refine tU 0 (some 38) (bm 13 975) HT_ HW_ rfl rfl hHeld ?_
           refine tU 5 (some 43) (bm 13 1007) HT_ HW_ rfl rfl hHeld ?_
           refine one_ (i := 4) (N := some 42) (bm 13 1023) rfl rfl (one_of HT_.out (by kernel_rfl)) (by decide) (fun K hK => ?_)
           refine goes_ Try.func65 (by kernel_rfl) rfl #[.agg #[.int .i64 a0_0, .slice A0_1 l0_1.length c0_1, .slice A0_2 l0_2.length c0_2], .int .i64 a2, .bool (rdOf false y299 x20_1), .int .i64 (rd x12_15 x34_3)] (by rfl) rfl rfl zG ?_
           with_reducible refine (impl_MoveOf.calls a0_0 _ _ l0_1 _ _ l0_2 a2 (rdOf false y299 x20_1) (rd x12_15 x34_3) t310 _ ?side1 ?side2 ?side3 ?side4 A30.out).mono ?_
           (case side1 => exact cS HR0_1 HB)
           (case side2 => exact HC0_1.out)
           (case side3 => exact cS HR0_2 HB)
           (case side4 => exact HC0_2.out)
           rintro e w48 ⟨rfl, hb⟩
           refine ⟨_, rfl, ?_⟩
           replace HO_9 := Aside0.mk (Kd.S_below (zS HO_9) hb)
           replace HO_18 := Aside0.mk (Kd.R_below (zR HO_18) hb)
           replace HO_32 := Aside0.mk (Kd.R_below (zR HO_32) hb)
           replace BK294 := kB BK294 hb
           replace BK295 := kB BK295 hb
           replace HB := bS HB hb
           (try clear hb)
           (try clear hb2)
           (try clear hk)
           (try clear hi)
           refine hK.out _ _ ⟨bc0 BK294, bc1 BK294, bc2 BK294, bc0 BK295, bc1 BK295, bc2 BK295⟩ (fun hHeld => ?_)
           clear hK K
           refine norm_ (a' := ?_) ?_ ?_
           rotate_left
           ·show Act.put _ (some 42) _ = _
            simp only [Act.put, List.setIfInBounds_toArray, List.set_cons_zero, List.set_cons_succ, i64_w, i32_w]
            rfl
           refine one_ (i := 10) (N := some 48) (bm 13 2047) rfl rfl (one_of HT_.out (by kernel_rfl)) (by decide) (fun K hK => ?_)
           refine goes_ Try.func65 (by kernel_rfl) rfl #[.agg #[.int .i64 a1_0, .slice A1_1 l1_1.length c1_1, .slice A1_2 l1_2.length c1_2], .int .i64 a3, .bool (!(rdOf false y299 x20_1)), .int .i64 (rd x12_15 x34_3)] (by rfl) rfl rfl zG ?_
           with_reducible refine (impl_MoveOf.calls a1_0 _ _ l1_1 _ _ l1_2 a3 (!(rdOf false y299 x20_1)) (rd x12_15 x34_3) t311 _ ?side1 ?side2 ?side3 ?side4 A31.out).mono ?_
           (case side1 => exact cS HR1_1 HB)
           (case side2 => exact HC1_1.out)
           (case side3 => exact cS HR1_2 HB)
           (case side4 => exact HC1_2.out)
           rintro e w49 ⟨rfl, hb⟩
           refine ⟨_, rfl, ?_⟩
           replace HO_9 := Aside0.mk (Kd.S_below (zS HO_9) hb)
           replace HO_18 := Aside0.mk (Kd.R_below (zR HO_18) hb)
           replace HO_32 := Aside0.mk (Kd.R_below (zR HO_32) hb)
           replace BK294 := kB BK294 hb
           replace BK295 := kB BK295 hb
           replace HB := bS HB hb
           (try clear hb)
           (try clear hb2)
           (try clear hk)
           (try clear hi)
           refine hK.out _ _ ⟨bc0 BK294, bc1 BK294, bc2 BK294, bc0 BK295, bc1 BK295, bc2 BK295⟩ (fun hHeld => ?_)
           clear hK K
           refine norm_ (a' := ?_) ?_ ?_
           rotate_left
           ·show Act.put _ (some 48) _ = _
            simp only [Act.put, List.setIfInBounds_toArray, List.set_cons_zero, List.set_cons_succ, i64_w, i32_w]
            rfl
           refine pU 11 (some 15) (bm 13 4095) HT_ rfl rfl ?_
           refine pU 12 (some 16) (bm 13 8191) HT_ rfl rfl ?_
           refine done_ (done_of HT_.out (by kernel_rfl)) ?_
           try clear hHeld
           try go_wp2
           go_roundg k3
           case measure => have := HK1.out; have := HJ15.out; have := HK3.out; omega
           case rel => exact ⟨(x9_3), (wrap64 (x34_3 + 1)), zF, H', ⟨by have := HK1.out; have := HJ15.out; have := HK3.out; omega⟩, ⟨zS HO_9⟩, ⟨zR HO_18⟩, ⟨zR HO_32⟩, ⟨zK BK294⟩, ⟨zK BK295⟩, ⟨zB HB⟩⟩
         ·rw [if_neg c32] at H
          have c32b0 : decide (0 ≤ t310) = false := decide_eq_false c32
          clear c32
          have H' := Aside0.mk H
          clear H
          have p309 : 0 ≤ (x34_3 : Int) := zD
          have q309 : x34_3 < (x12_15.length : Int) := zD
          obtain ⟨ad309, e309, hx309_0⟩ := Kd.at_int (Kd.R_reads' HO_32.out).2.2 x34_3 p309 q309
          cases e309
          replace p309 := eq_true p309
          replace q309 := eq_true q309
          try go_wp2
          replace HO_9 := Aside0.mk (Kd.S_drew HO_9.out)
          replace HO_18 := Aside0.mk (Kd.R_drew HO_18.out)
          replace HO_32 := Aside0.mk (Kd.R_drew HO_32.out)
          replace BK294 := Aside0.mk (blk_drew BK294.out)
          replace BK295 := Aside0.mk (blk_drew BK295.out)
          replace HB := Aside0.mk (below_drew1 HB.out)
          refine start_ (n := 13) (S := fun w' => w'.cell? ⟨gb294, 0, none⟩ = some (.int .i64 a0_0) ∧ w'.cell? ⟨gb294, 1, none⟩ = some (.slice A0_1 l0_1.length c0_1) ∧ w'.cell? ⟨gb294, 2, none⟩ = some (.slice A0_2 l0_2.length c0_2) ∧ w'.cell? ⟨gb295, 0, none⟩ = some (.int .i64 a1_0) ∧ w'.cell? ⟨gb295, 1, none⟩ = some (.slice A1_1 l1_1.length c1_1) ∧ w'.cell? ⟨gb295, 2, none⟩ = some (.slice A1_2 l1_2.length c1_2)) (ds := []) (bm 13 0) (by kernel_rfl) rfl (bm0 _) ⟨bc0 BK294, bc1 BK294, bc2 BK294, bc0 BK295, bc1 BK295, bc2 BK295⟩ (fun hHeld => ?_); refine with_tabW impl_NextPairs.tab11 impl_NextPairs.bits11 (fun HT_ HW_ => ?_)
          generalize wr.drew = w50 at HO_9 HO_18 HO_32 BK294 BK295 HB hHeld ⊢
          refine pU 1 (some 39) (bm 13 2) HT_ rfl rfl ?_
          refine pU 2 (some 40) (bm 13 6) HT_ rfl rfl ?_
          refine pU 3 (some 41) (bm 13 14) HT_ rfl rfl ?_
          refine pU 6 (some 44) (bm 13 78) HT_ rfl rfl ?_
          refine pU 7 (some 45) (bm 13 206) HT_ rfl rfl ?_
          refine pU 8 (some 46) (bm 13 462) HT_ rfl rfl ?_
          refine pU 9 (some 47) (bm 13 974) HT_ rfl rfl ?_
          refine tU 0 (some 38) (bm 13 975) HT_ HW_ rfl rfl hHeld ?_
          refine tU 5 (some 43) (bm 13 1007) HT_ HW_ rfl rfl hHeld ?_
          refine one_ (i := 4) (N := some 42) (bm 13 1023) rfl rfl (one_of HT_.out (by kernel_rfl)) (by decide) (fun K hK => ?_)
          refine goes_ Try.func65 (by kernel_rfl) rfl #[.agg #[.int .i64 a0_0, .slice A0_1 l0_1.length c0_1, .slice A0_2 l0_2.length c0_2], .int .i64 a2, .bool (rdOf false y299 x20_1), .int .i64 (rd x12_15 x34_3)] (by rfl) rfl rfl zG ?_
          with_reducible refine (impl_MoveOf.calls a0_0 _ _ l0_1 _ _ l0_2 a2 (rdOf false y299 x20_1) (rd x12_15 x34_3) t310 _ ?side1 ?side2 ?side3 ?side4 A30.out).mono ?_
          (case side1 => exact cS HR0_1 HB)
          (case side2 => exact HC0_1.out)
          (case side3 => exact cS HR0_2 HB)
          (case side4 => exact HC0_2.out)
          rintro e w51 ⟨rfl, hb⟩
          refine ⟨_, rfl, ?_⟩
          replace HO_9 := Aside0.mk (Kd.S_below (zS HO_9) hb)
          replace HO_18 := Aside0.mk (Kd.R_below (zR HO_18) hb)
          replace HO_32 := Aside0.mk (Kd.R_below (zR HO_32) hb)
          replace BK294 := kB BK294 hb
          replace BK295 := kB BK295 hb
          replace HB := bS HB hb
          (try clear hb)
          (try clear hb2)
          (try clear hk)
          (try clear hi)
          refine hK.out _ _ ⟨bc0 BK294, bc1 BK294, bc2 BK294, bc0 BK295, bc1 BK295, bc2 BK295⟩ (fun hHeld => ?_)
          clear hK K
          refine norm_ (a' := ?_) ?_ ?_
          rotate_left
          ·show Act.put _ (some 42) _ = _
           simp only [Act.put, List.setIfInBounds_toArray, List.set_cons_zero, List.set_cons_succ, i64_w, i32_w]
           rfl
          refine one_ (i := 10) (N := some 48) (bm 13 2047) rfl rfl (one_of HT_.out (by kernel_rfl)) (by decide) (fun K hK => ?_)
          refine goes_ Try.func65 (by kernel_rfl) rfl #[.agg #[.int .i64 a1_0, .slice A1_1 l1_1.length c1_1, .slice A1_2 l1_2.length c1_2], .int .i64 a3, .bool (!(rdOf false y299 x20_1)), .int .i64 (rd x12_15 x34_3)] (by rfl) rfl rfl zG ?_
          with_reducible refine (impl_MoveOf.calls a1_0 _ _ l1_1 _ _ l1_2 a3 (!(rdOf false y299 x20_1)) (rd x12_15 x34_3) t311 _ ?side1 ?side2 ?side3 ?side4 A31.out).mono ?_
          (case side1 => exact cS HR1_1 HB)
          (case side2 => exact HC1_1.out)
          (case side3 => exact cS HR1_2 HB)
          (case side4 => exact HC1_2.out)
          rintro e w52 ⟨rfl, hb⟩
          refine ⟨_, rfl, ?_⟩
          replace HO_9 := Aside0.mk (Kd.S_below (zS HO_9) hb)
          replace HO_18 := Aside0.mk (Kd.R_below (zR HO_18) hb)
          replace HO_32 := Aside0.mk (Kd.R_below (zR HO_32) hb)
          replace BK294 := kB BK294 hb
          replace BK295 := kB BK295 hb
          replace HB := bS HB hb
          (try clear hb)
          (try clear hb2)
          (try clear hk)
          (try clear hi)
          refine hK.out _ _ ⟨bc0 BK294, bc1 BK294, bc2 BK294, bc0 BK295, bc1 BK295, bc2 BK295⟩ (fun hHeld => ?_)
          clear hK K
          refine norm_ (a' := ?_) ?_ ?_
          rotate_left
          ·show Act.put _ (some 48) _ = _
           simp only [Act.put, List.setIfInBounds_toArray, List.set_cons_zero, List.set_cons_succ, i64_w, i32_w]
           rfl
          refine pU 11 (some 15) (bm 13 4095) HT_ rfl rfl ?_
          refine pU 12 (some 16) (bm 13 8191) HT_ rfl rfl ?_
          refine done_ (done_of HT_.out (by kernel_rfl)) ?_
          try clear hHeld
          try go_wp2
          go_roundg k3
          case measure => have := HK1.out; have := HJ15.out; have := HK3.out; omega
          case rel => exact ⟨(x9_3), (wrap64 (x34_3 + 1)), zF, H', ⟨by have := HK1.out; have := HJ15.out; have := HK3.out; omega⟩, ⟨zS HO_9⟩, ⟨zR HO_18⟩, ⟨zR HO_32⟩, ⟨zK BK294⟩, ⟨zK BK295⟩, ⟨zB HB⟩⟩
        ·rw [if_neg c27] at H
         have c27b0 : decide (x34_3 < (x12_15.length : Int)) = false := decide_eq_false c27
         clear c27
         have H' := Aside0.mk H
         clear H
         go_wp2
         go_roundg k3
         case measure => have := HK1.out; have := HJ15.out; have := HK3.out; omega
         case rel => exact ⟨(x9_3), (wrap64 (x20_1 + 1)), zF, H', ⟨by have := HK1.out; have := HJ15.out; have := HK3.out; omega⟩, ⟨by (with_reducible repeat (first | apply Kd.S_alloc | apply Kd.S_drewN | apply Kd.S_drew)); exact Kd.S_mono HO_9.out (fun _ hk => trivial)⟩, ⟨zR HO_18⟩, ⟨zK BK294⟩, ⟨zK BK295⟩, ⟨zB HB⟩⟩
   ·rw [if_neg c12] at H
    have c12b0 : decide (x20_1 < (y299.length : Int)) = false := decide_eq_false c12
    clear c12
    obtain rfl := Option.some.inj H
    go_wp2
    go_ret
    exact ⟨_, zE, by (with_reducible repeat (first | apply Kd.S_alloc | apply Kd.S_drewN | apply Kd.S_drew)); exact HO_9.out, zB HB⟩

end Go.Proofs.Ytmenijbpglknbaa.PFnExactPairsOf
