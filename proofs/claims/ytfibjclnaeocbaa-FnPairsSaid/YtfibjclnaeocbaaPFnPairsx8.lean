-- WRITTEN by pp.py, this session's own wrapper around the print; not trusted: Lean checks it
import Derived.Test.YtfibjclnaeocbaaPFnPairsx0
import Derived.Test.YtfibjclnaeocbaaPFnPairsx7
namespace Go.Proofs.Ytfibjclnaeocbaa.PFnPairs
open Go.RowKit Go.Proofs.Ytfibjclnaeocbaa.Hw Go.Proofs.YtfibjclnaeocbaaW.PrintWords Go.Proofs.YtfibjclnaeocbaaW.PrintLast Go.Proofs.YtfibjclnaeocbaaW.PrintMore
attribute [local go_sem] max2_int min2_int max_two min_two max_three min_three max_four min_four   -- for this text's walks alone
set_option linter.unusedVariables false
set_option linter.unusedSimpArgs false
set_option linter.unusedSectionVars false

/-! ### impl_MoveOf_idx: functions 46 and 47 (by hand) -/
theorem impl_MoveOf_idx.lit (x : S46)  (a1 : Int) (a2 : Bool) (a3 : Int) (W : World)   {B1_ B2_ B3_ : Nat} (hB1_ : W.heap[B1_]? = some (.cells #[.int .i64 a1] 3 (0, 0))) (hB2_ : W.heap[B2_]? = some (.cells #[.bool a2] 4 (0, 0))) (hB3_ : W.heap[B3_]? = some (.cells #[.int .i64 a3] 3 (0, 0))) :
  Calls Try.prog 47 #[.agg #[.int .i64 x.f0, .bool x.f1, .int .i64 x.f2, .int .i64 x.f3], .pointer (some ⟨B1_, 0, none⟩), .pointer (some ⟨B2_, 0, none⟩), .pointer (some ⟨B3_, 0, none⟩)] W fun e w' => e = .returned (.bool (x.f0 == a1 && (x.f1 == a2 && x.f2 == a3))) ∧ Below W.heap.size W w' := by
 have hcl1_0 : W.cell? ⟨B1_, 0, none⟩ = some (.int .i64 a1) := (blk_cell hB1_ 0).trans rfl
 have hbk1_ := blk_lt hB1_
 have hcl2_0 : W.cell? ⟨B2_, 0, none⟩ = some (.bool a2) := (blk_cell hB2_ 0).trans rfl
 have hbk2_ := blk_lt hB2_
 have hcl3_0 : W.cell? ⟨B3_, 0, none⟩ = some (.int .i64 a3) := (blk_cell hB3_ 0).trans rfl
 have hbk3_ := blk_lt hB3_
 have hu46 := Try.underlying46
 go_enter Try.func47, Try.ntmps47
 cases q1 : (x.f0 == a1) <;> cases q2 : (x.f1 == a2) <;> cases q3 : (x.f2 == a3) <;> (go_wp2; go_ret; exact ⟨by first | rfl | (simp_all; done), by repeat (first | exact Below.refl _ _ | apply below_alloc | apply pw_below_drewN | apply below_drew1)⟩)
set_option maxHeartbeats 4000000 in
set_option maxRecDepth 100000 in
theorem impl_MoveOf_idx.idx (A0 : Option Addr) (c0 : Nat) (l0 : List (S46)) (a1 : Int) (a2 : Bool) (a3 : Int) (w : World) (hr0 : Kd.C k46 w A0 l0.length l0) (hc0 : l0.length ≤ c0)  {B1_ B2_ B3_ : Nat} (hB1_ : w.heap[B1_]? = some (.cells #[.int .i64 a1] 3 (0, 0))) (hB2_ : w.heap[B2_]? = some (.cells #[.bool a2] 4 (0, 0))) (hB3_ : w.heap[B3_]? = some (.cells #[.int .i64 a3] 3 (0, 0))) :
  Calls Try.prog 46 #[.slice A0 l0.length c0, .func (.func 47) #[] #[.pointer (some ⟨B1_, 0, none⟩), .pointer (some ⟨B2_, 0, none⟩), .pointer (some ⟨B3_, 0, none⟩)]] w fun e w' => e = .returned (.int .i64 (idxOf (fun x => x.f0 == a1 && (x.f1 == a2 && x.f2 == a3)) l0)) ∧ Below w.heap.size w w' := by
 have hu46 := Try.underlying46
 have HL_ := aM hr0.2.1
 have HR0 := aM hr0
 have HhB1_ := aM hB1_
 have HhB2_ := aM hB2_
 have HhB3_ := aM hB3_
 obtain ⟨m_, hm_⟩ : ∃ m_ : Int, m_ = idxOf (fun x => x.f0 == a1 && (x.f1 == a2 && x.f2 == a3)) l0 := ⟨_, rfl⟩
 rw [← hm_]
 have HM_ := aM hm_
 clear hr0 hc0 hm_ hB1_ hB2_ hB3_
 go_enter Try.func46, Try.ntmps46
 go_wp2
 go_loopg [5, 8] l0.length (fun gg _ s8 wr => ∃ kk : Int, 0 ≤ kk ∧ kk ≤ l0.length ∧ l0.length - kk.toNat ≤ gg ∧ s8 = .int .i64 kk ∧ Aside0 (Below w.heap.size w wr) ∧ Aside0 (m_ = idxAt (fun x => x.f0 == a1 && (x.f1 == a2 && x.f2 == a3)) l0 kk))
 case atStart => exact ⟨0, by omega, by omega, by omega, rfl, ⟨Below.refl _ w⟩, ⟨by rw [HM_.o, idxAt_zero]⟩⟩
 case round =>
  obtain ⟨kk, h0, hkk, hg, rfl, BW, A_⟩ := hrel
  by_cases hlt : kk < (l0.length : Int)
  ·obtain ⟨ad, e_, hx0, hx1, hx2, hx3⟩ := at_T46 HR0.o kk h0 hlt
   cases e_
   replace hx0 := cell_later BW.o hx0
   replace hx1 := cell_later BW.o hx1
   replace hx2 := cell_later BW.o hx2
   replace hx3 := cell_later BW.o hx3
   have hlit := impl_MoveOf_idx.lit (rd_T46 l0 kk)  a1 a2 a3 wr  (blk_below HhB1_.o BW.o) (blk_below HhB2_.o BW.o) (blk_below HhB3_.o BW.o)
   have HLIT := aM hlit
   clear hlit 
   obtain ⟨b, hb⟩ : ∃ b : Bool, b = (fun x : S46 => x.f0 == a1 && (x.f1 == a2 && x.f2 == a3)) (rd_T46 l0 kk) := ⟨_, rfl⟩
   have HQ := aM hb
   replace HLIT : Aside0 (Calls Try.prog 47 #[.agg #[.int .i64 ((rd_T46 l0 kk).f0), .bool ((rd_T46 l0 kk).f1), .int .i64 ((rd_T46 l0 kk).f2), .int .i64 ((rd_T46 l0 kk).f3)], .pointer (some ⟨B1_, 0, none⟩), .pointer (some ⟨B2_, 0, none⟩), .pointer (some ⟨B3_, 0, none⟩)] wr fun e w' => e = .returned (.bool b) ∧ Below wr.heap.size wr w') := by rw [hb]; exact HLIT
   clear hb
   cases b with
   | true =>
    go_wp2_with (go_at_call 47; refine HLIT.o.mono ?_; rintro e w' ⟨rfl, hb'⟩)
    go_ret
    exact ⟨ret_int (by rw [A_.o]; exact (idxAt_hit (fun x => x.f0 == a1 && (x.f1 == a2 && x.f2 == a3)) l0 z46 kk h0 hlt HQ.o.symm).symm), below_trans BW.o hb'⟩
   | false =>
    go_wp2_with (go_at_call 47; refine HLIT.o.mono ?_; rintro e w' ⟨rfl, hb'⟩)
    have hw1 := wrap_kk h0 hlt HL_.o
    go_roundg (l0.length - (kk.toNat + 1))
    case measure => omega
    case rel => exact ⟨kk + 1, by omega, by omega, by omega, by first | rfl | (rw [hw1]) | (simp only [hw1]), ⟨below_trans BW.o hb'⟩, ⟨by rw [A_.o]; exact idxAt_go (fun x => x.f0 == a1 && (x.f1 == a2 && x.f2 == a3)) l0 z46 kk h0 hlt HQ.o.symm⟩⟩
  ·go_wp2
   go_ret
   exact ⟨ret_int (by rw [A_.o]; exact (idxAt_end _ _ _ (by omega)).symm), BW.o⟩
def impl_MoveOf_idx.f (l0 : List (S46)) (a1 : Int) (a2 : Bool) (a3 : Int) : Option (Int) := some (idxOf (fun x => x.f0 == a1 && (x.f1 == a2 && x.f2 == a3)) l0)
theorem impl_MoveOf_idx.calls (A0 : Option Addr) (c0 : Nat) (l0 : List (S46)) (a1 : Int) (a2 : Bool) (a3 : Int) (r : Int) (w : World) (hr0 : Kd.C k46 w A0 l0.length l0) (hc0 : l0.length ≤ c0)  {B1_ B2_ B3_ : Nat} (hB1_ : w.heap[B1_]? = some (.cells #[.int .i64 a1] 3 (0, 0))) (hB2_ : w.heap[B2_]? = some (.cells #[.bool a2] 4 (0, 0))) (hB3_ : w.heap[B3_]? = some (.cells #[.int .i64 a3] 3 (0, 0))) (h : impl_MoveOf_idx.f l0 a1 a2 a3 = some r) :
  Calls Try.prog 46 #[.slice A0 l0.length c0, .func (.func 47) #[] #[.pointer (some ⟨B1_, 0, none⟩), .pointer (some ⟨B2_, 0, none⟩), .pointer (some ⟨B3_, 0, none⟩)]] w fun e w' => e = .returned (.int .i64 r) ∧ Below w.heap.size w w' := by
 obtain rfl := oI h
 have HX := aM (impl_MoveOf_idx.idx A0 c0 l0 a1 a2 a3 w hr0 hc0 hB1_ hB2_ hB3_)
 exact HX.o
/-! ### impl_MoveOf: function 29 -/
def impl_MoveOf.f (a0_0 : Int) (l0_1 : List Bool) (l0_2 : List (S46)) (a1 : Int) (a2 : Bool) (a3 : Int) : Option (Int) := (impl_MoveOf_idx.f l0_2 a1 a2 a3).bind fun t392 => (some t392)
set_option maxHeartbeats 8000000 in
set_option maxRecDepth 100000 in
theorem impl_MoveOf.calls (a0_0 : Int) (A0_1 : Option Addr) (c0_1 : Nat) (l0_1 : List Bool) (A0_2 : Option Addr) (c0_2 : Nat) (l0_2 : List (S46)) (a1 : Int) (a2 : Bool) (a3 : Int) (r : Int) (w : World) (hr0_1 : Kd.C Kd.bool w A0_1 l0_1.length l0_1) (hc0_1 : l0_1.length ≤ c0_1) (hr0_2 : Kd.C k46 w A0_2 l0_2.length l0_2) (hc0_2 : l0_2.length ≤ c0_2) (h : impl_MoveOf.f a0_0 l0_1 l0_2 a1 a2 a3 = some r) :
  Calls Try.prog 29 #[.agg #[.int .i64 a0_0, .slice A0_1 l0_1.length c0_1, .slice A0_2 l0_2.length c0_2], .int .i64 a1, .bool a2, .int .i64 a3] w fun e w' => e = .returned (.int .i64 r) ∧ Below w.heap.size w w' := by
 have hu27 := Try.underlying27
 have HR0_1 := aM hr0_1
 have HC0_1 := aM hc0_1
 clear hr0_1 hc0_1
 have HR0_2 := aM hr0_2
 have HC0_2 := aM hc0_2
 clear hr0_2 hc0_2
 have HB := aM (Below.refl w.heap.size w)
 have H : ((impl_MoveOf_idx.f l0_2 a1 a2 a3).bind fun t392 => (some t392)) = some r := h
 clear h
 obtain ⟨t392, A5, H⟩ := bindS H
 obtain rfl := oI H
 go_enter Try.func29, Try.ntmps29
 go_wp2_with (first | ((with_reducible refine gD (N := 4) rfl ?_); refine box_event ?hg (N := 4) ?hd (cs := #[.int .i64 a0_0, .slice A0_1 l0_1.length c0_1, .slice A0_2 l0_2.length c0_2]) (t := 27) ?hr ?_; (case hd => rfl); (case hg => rfl); (case hr => first | (go_simp; done) | (go_simp; rfl)); intro gb388 hg w6 hbox hb; have BK388 := aM (hbox); have GW388 := gS HB hg; have GE388 := gS HB hg; replace HB := bS HB hb; clear hb hbox hg) | ((with_reducible refine gD (N := 5) rfl ?_); refine box_event ?hg (N := 5) ?hd (cs := #[.int .i64 a1]) (t := 3) ?hr ?_; (case hd => rfl); (case hg => rfl); (case hr => first | (go_simp; done) | (go_simp; rfl)); intro gb389 hg w7 hbox hb; have BK389 := aM (hbox); have GW389 := gS HB hg; have GE389 := gS HB hg; replace HB := bS HB hb; have NB388_389 := nL BK388 hg; have NB389_388 := nR BK388 hg; replace BK388 := kB BK388 hb; clear hb hbox hg) | ((with_reducible refine gD (N := 6) rfl ?_); refine box_event ?hg (N := 6) ?hd (cs := #[.bool a2]) (t := 4) ?hr ?_; (case hd => rfl); (case hg => rfl); (case hr => first | (go_simp; done) | (go_simp; rfl)); intro gb390 hg w8 hbox hb; have BK390 := aM (hbox); have GW390 := gS HB hg; have GE390 := gS HB hg; replace HB := bS HB hb; have NB388_390 := nL BK388 hg; have NB390_388 := nR BK388 hg; replace BK388 := kB BK388 hb; have NB389_390 := nL BK389 hg; have NB390_389 := nR BK389 hg; replace BK389 := kB BK389 hb; clear hb hbox hg) | ((with_reducible refine gD (N := 7) rfl ?_); refine box_event ?hg (N := 7) ?hd (cs := #[.int .i64 a3]) (t := 3) ?hr ?_; (case hd => rfl); (case hg => rfl); (case hr => first | (go_simp; done) | (go_simp; rfl)); intro gb391 hg w9 hbox hb; have BK391 := aM (hbox); have GW391 := gS HB hg; have GE391 := gS HB hg; replace HB := bS HB hb; have NB388_391 := nL BK388 hg; have NB391_388 := nR BK388 hg; replace BK388 := kB BK388 hb; have NB389_391 := nL BK389 hg; have NB391_389 := nR BK389 hg; replace BK389 := kB BK389 hb; have NB390_391 := nL BK390 hg; have NB391_390 := nR BK390 hg; replace BK390 := kB BK390 hb; clear hb hbox hg; have hnb10 := NB388_389.o; have hnc10 := NB389_388.o; have hnb11 := NB388_390.o; have hnc11 := NB390_388.o; have hnb12 := NB388_391.o; have hnc12 := NB391_388.o; obtain ⟨z13_0, z13_1, z13_2, f13_0, f13_1, f13_2⟩ := bq3 BK388) | ((with_reducible refine gC (f := 46) rfl ?_); refine goesL_ (some 12) rfl rfl Try.func46 (by kernel_rfl) rfl #[.slice A0_2 l0_2.length c0_2, .func (.func 47) #[] #[.pointer (some ⟨gb389, 0, none⟩), .pointer (some ⟨gb390, 0, none⟩), .pointer (some ⟨gb391, 0, none⟩)]] rfl zG ?_; (with_reducible refine (impl_MoveOf_idx.calls _ _ l0_2 a1 a2 a3 t392 _ ?s1 ?s2 ?s3 ?s4 ?s5 A5.o).mono ?_); (case s1 => exact cS HR0_2 HB); (case s2 => exact HC0_2.o); (case s3 => exact (fun h_ => h_) (zK BK389)); (case s4 => exact (fun h_ => h_) (zK BK390)); (case s5 => exact (fun h_ => h_) (zK BK391)); rintro e w14 ⟨rfl, hb⟩; refine ⟨_, rfl, ?_⟩; replace BK388 := kB BK388 hb; replace BK389 := kB BK389 hb; replace BK390 := kB BK390 hb; replace BK391 := kB BK391 hb; replace HB := bS HB hb; (try clear hb)))
 go_ret
 exact ⟨zE, zB HB⟩

/-! ### impl_NextPairs: function 14 -/
mutual
def impl_NextPairs.l0 : Nat → Int → Int → List (List Int) → List Bool → Int → Int → Int → List Bool → List (S46) → Int → List Bool → List (S46) → Option ((List (List Int)))
 | 0, _, _, _, _, _, _, _, _, _, _, _, _ => none
 | k + 1, x2, x3, x9, x18, x19, x20, x394000, x394001, x394002, x395000, x395001, x395002 => if x20 < x19 then (if 0 ≤ x20 then (if x20 < (x18.length : Int) then ((impl_MovesFrom.f k x394000 x394001 x394002 x2 true).bind fun t402 => (if rdOf false x18 x20 = true then (impl_NextPairs.j1 k x2 x3 x9 (rdOf false x18 x20) t402 x18 x19 x20 x394000 x394001 x394002 x395000 x395001 x395002) else ((impl_MovesFrom.f k x395000 x395001 x395002 x3 true).bind fun t405 => (impl_NextPairs.j1 k x2 x3 x9 (rdOf false x18 x20) t405 x18 x19 x20 x394000 x394001 x394002 x395000 x395001 x395002)))) else (none)) else (none)) else (some x9)
def impl_NextPairs.j1 : Nat → Int → Int → List (List Int) → Bool → List Int → List Bool → Int → Int → Int → List Bool → List (S46) → Int → List Bool → List (S46) → Option ((List (List Int)))
 | 0, _, _, _, _, _, _, _, _, _, _, _, _, _, _ => none
 | k + 1, x2, x3, x9, x11, x12, x18, x19, x20, x394000, x394001, x394002, x395000, x395001, x395002 => impl_NextPairs.l1 k x2 x3 x9 x11 x18 x19 x20 x12 (x12.length : Int) 0 x394000 x394001 x394002 x395000 x395001 x395002
def impl_NextPairs.l1 : Nat → Int → Int → List (List Int) → Bool → List Bool → Int → Int → List Int → Int → Int → Int → List Bool → List (S46) → Int → List Bool → List (S46) → Option ((List (List Int)))
 | 0, _, _, _, _, _, _, _, _, _, _, _, _, _, _, _, _ => none
 | k + 1, x2, x3, x9, x11, x18, x19, x20, x32, x33, x34, x394000, x394001, x394002, x395000, x395001, x395002 => if x34 < x33 then (if 0 ≤ x34 then (if x34 < (x32.length : Int) then ((impl_MoveOf.f x394000 x394001 x394002 x2 x11 (rd x32 x34)).bind fun t409 => ((impl_MoveOf.f x395000 x395001 x395002 x3 (!x11) (rd x32 x34)).bind fun t410 => (if t409 ≥ 0 then (if t410 ≥ 0 then (if 0 ≤ t409 then (if t409 < (x394002.length : Int) then (if 0 ≤ t410 then (if t410 < (x395002.length : Int) then (if x9.length < 5864062014805 then (impl_NextPairs.l1 k x2 x3 (x9 ++ [(([(rd_T46 x394002 t409).f3, (rd_T46 x395002 t410).f3] : List Int))]) x11 x18 x19 x20 x32 x33 (wrap64 (x34 + 1)) x394000 x394001 x394002 x395000 x395001 x395002) else (none)) else (none)) else (none)) else (none)) else (none)) else (impl_NextPairs.l1 k x2 x3 x9 x11 x18 x19 x20 x32 x33 (wrap64 (x34 + 1)) x394000 x394001 x394002 x395000 x395001 x395002)) else (impl_NextPairs.l1 k x2 x3 x9 x11 x18 x19 x20 x32 x33 (wrap64 (x34 + 1)) x394000 x394001 x394002 x395000 x395001 x395002)))) else (none)) else (none)) else (impl_NextPairs.l0 k x2 x3 x9 x18 x19 (wrap64 (x20 + 1)) x394000 x394001 x394002 x395000 x395001 x395002)
end
def impl_NextPairs.f (k : Nat) (a0_0 : Int) (l0_1 : List Bool) (l0_2 : List (S46)) (a1_0 : Int) (l1_1 : List Bool) (l1_2 : List (S46)) (a2 : Int) (a3 : Int) : Option ((List (List Int))) := (some (([true, false] : List Bool) : List Bool)).bind fun y398 => (impl_NextPairs.l0 k a2 a3 (([] : List (List Int))) y398 (y398.length : Int) 0 a0_0 l0_1 l0_2 a1_0 l1_1 l1_2)
theorem impl_NextPairs.mono_l : ∀ k, (∀ y0 y1 y2 y3 y4 y5 y6 y7 y8 y9 y10 y11, LeO (impl_NextPairs.l0 k y0 y1 y2 y3 y4 y5 y6 y7 y8 y9 y10 y11) (impl_NextPairs.l0 (k + 1) y0 y1 y2 y3 y4 y5 y6 y7 y8 y9 y10 y11)) ∧ (∀ y0 y1 y2 y3 y4 y5 y6 y7 y8 y9 y10 y11 y12 y13, LeO (impl_NextPairs.j1 k y0 y1 y2 y3 y4 y5 y6 y7 y8 y9 y10 y11 y12 y13) (impl_NextPairs.j1 (k + 1) y0 y1 y2 y3 y4 y5 y6 y7 y8 y9 y10 y11 y12 y13)) ∧ (∀ y0 y1 y2 y3 y4 y5 y6 y7 y8 y9 y10 y11 y12 y13 y14 y15, LeO (impl_NextPairs.l1 k y0 y1 y2 y3 y4 y5 y6 y7 y8 y9 y10 y11 y12 y13 y14 y15) (impl_NextPairs.l1 (k + 1) y0 y1 y2 y3 y4 y5 y6 y7 y8 y9 y10 y11 y12 y13 y14 y15))
 | 0 => ⟨fun _ _ _ _ _ _ _ _ _ _ _ _ r h => by simp [impl_NextPairs.l0] at h, fun _ _ _ _ _ _ _ _ _ _ _ _ _ _ r h => by simp [impl_NextPairs.j1] at h, fun _ _ _ _ _ _ _ _ _ _ _ _ _ _ _ _ r h => by simp [impl_NextPairs.l1] at h⟩
 | k + 1 => by
  obtain ⟨ih0, ih1, ih2⟩ := impl_NextPairs.mono_l k
  refine ⟨?a0, ?a1, ?a2⟩
  case' a0 => intros; unfold impl_NextPairs.l0
  case' a1 => intros; unfold impl_NextPairs.j1
  case' a2 => intros; unfold impl_NextPairs.l1
  all_goals repeat' first
  | (with_reducible first | exact ih0 _ _ _ _ _ _ _ _ _ _ _ _ | exact ih1 _ _ _ _ _ _ _ _ _ _ _ _ _ _ | exact ih2 _ _ _ _ _ _ _ _ _ _ _ _ _ _ _ _ | exact impl_MovesFrom.mono _ _ _ _ _ _ | exact LeO.refl _ | exact LeO.none _ | refine LeO.ite ?_ ?_ | refine LeO.bind ?_ (fun _ => ?_))
  | exact ih0 _ _ _ _ _ _ _ _ _ _ _ _
  | exact ih1 _ _ _ _ _ _ _ _ _ _ _ _ _ _
  | exact ih2 _ _ _ _ _ _ _ _ _ _ _ _ _ _ _ _
  | exact impl_MovesFrom.mono _ _ _ _ _ _
  | exact LeO.none _
  | refine LeO.ite ?_ ?_
  | refine LeO.bind ?_ (fun _ => ?_)
theorem impl_NextPairs.mono : ∀ a0 a1 a2 a3 a4 a5 a6 a7 k, LeO (impl_NextPairs.f k a0 a1 a2 a3 a4 a5 a6 a7) (impl_NextPairs.f (k + 1) a0 a1 a2 a3 a4 a5 a6 a7) := by
 intro a0 a1 a2 a3 a4 a5 a6 a7 k
 obtain ⟨ih0, ih1, ih2⟩ := impl_NextPairs.mono_l k
 unfold impl_NextPairs.f
 repeat' first
   | (with_reducible first | exact ih0 _ _ _ _ _ _ _ _ _ _ _ _ | exact ih1 _ _ _ _ _ _ _ _ _ _ _ _ _ _ | exact ih2 _ _ _ _ _ _ _ _ _ _ _ _ _ _ _ _ | exact impl_MovesFrom.mono _ _ _ _ _ _ | exact LeO.refl _ | exact LeO.none _ | refine LeO.ite ?_ ?_ | refine LeO.bind ?_ (fun _ => ?_))
   | exact ih0 _ _ _ _ _ _ _ _ _ _ _ _
   | exact ih1 _ _ _ _ _ _ _ _ _ _ _ _ _ _
   | exact ih2 _ _ _ _ _ _ _ _ _ _ _ _ _ _ _ _
   | exact impl_MovesFrom.mono _ _ _ _ _ _
   | exact LeO.none _
   | refine LeO.ite ?_ ?_
   | refine LeO.bind ?_ (fun _ => ?_)
def impl_NextPairs.T11 : Bool × List (List Nat × List Nat) := (true, [([], []), ([], []), ([], []), ([], []), ([0, 1, 2, 3], [0, 1, 2, 3]), ([], []), ([], []), ([], []), ([7], [7]), ([], []), ([5, 6, 8, 9, 4], [5, 6, 8, 9]), ([4, 10, 0, 1, 2, 3, 4], [4]), ([10, 11, 0, 1, 2, 3, 4, 5, 6, 7, 8, 9, 10, 11], [10])])
def impl_NextPairs.B11 : List Nat := [0, 0, 0, 0, 15, 0, 0, 0, 128, 0, 1023, 2047, 4095]
theorem impl_NextPairs.tab11 : rtab .any (opsOf Try.f14 11) = impl_NextPairs.T11 := by kernel_rfl
theorem impl_NextPairs.bits11 : waitsOk impl_NextPairs.T11.2 impl_NextPairs.B11 = true := by kernel_rfl
def impl_NextPairs.T13 : Bool × List (List Nat × List Nat) := (true, [([], []), ([], []), ([1], [1]), ([], []), ([2, 3], [2, 3]), ([4], [4]), ([5], [5]), ([], []), ([7], [7]), ([], []), ([8, 9], [8, 9]), ([10], [10]), ([11], [11]), ([6, 12], [6, 12]), ([13], [13]), ([0, 14], [0, 14]), ([15, 15, 0, 1, 2, 3, 4, 5, 6, 7, 8, 9, 10, 11, 12, 13, 14, 15], [0, 15])])
def impl_NextPairs.B13 : List Nat := [0, 0, 2, 0, 14, 30, 62, 0, 128, 0, 896, 1920, 3968, 8190, 16382, 32767, 65535]
theorem impl_NextPairs.tab13 : rtab .any (opsOf Try.f14 13) = impl_NextPairs.T13 := by kernel_rfl
theorem impl_NextPairs.bits13 : waitsOk impl_NextPairs.T13.2 impl_NextPairs.B13 = true := by kernel_rfl
set_option maxHeartbeats 8000000 in
set_option maxRecDepth 100000 in
theorem impl_NextPairs.calls (k : Nat) (a0_0 : Int) (A0_1 : Option Addr) (c0_1 : Nat) (l0_1 : List Bool) (A0_2 : Option Addr) (c0_2 : Nat) (l0_2 : List (S46)) (a1_0 : Int) (A1_1 : Option Addr) (c1_1 : Nat) (l1_1 : List Bool) (A1_2 : Option Addr) (c1_2 : Nat) (l1_2 : List (S46)) (a2 : Int) (a3 : Int) (r : List (List Int)) (w : World) (hr0_1 : Kd.C Kd.bool w A0_1 l0_1.length l0_1) (hc0_1 : l0_1.length ≤ c0_1) (hr0_2 : Kd.C k46 w A0_2 l0_2.length l0_2) (hc0_2 : l0_2.length ≤ c0_2) (hr1_1 : Kd.C Kd.bool w A1_1 l1_1.length l1_1) (hc1_1 : l1_1.length ≤ c1_1) (hr1_2 : Kd.C k46 w A1_2 l1_2.length l1_2) (hc1_2 : l1_2.length ≤ c1_2) (h : impl_NextPairs.f k a0_0 l0_1 l0_2 a1_0 l1_1 l1_2 a2 a3 = some r) :
  Calls Try.prog 14 #[.agg #[.int .i64 a0_0, .slice A0_1 l0_1.length c0_1, .slice A0_2 l0_2.length c0_2], .agg #[.int .i64 a1_0, .slice A1_1 l1_1.length c1_1, .slice A1_2 l1_2.length c1_2], .int .i64 a2, .int .i64 a3] w fun e w' => ∃ v0_ : Value, e = .returned (v0_) ∧ Kd.S (Kd.slice 3 (Kd.int .i64)) 31 w' w.heap.size (fun _ => True) v0_ r ∧ Below w.heap.size w w' := by
 have hu27 := Try.underlying27
 have HR0_1 := aM hr0_1
 have HC0_1 := aM hc0_1
 clear hr0_1 hc0_1
 have HR0_2 := aM hr0_2
 have HC0_2 := aM hc0_2
 clear hr0_2 hc0_2
 have HR1_1 := aM hr1_1
 have HC1_1 := aM hc1_1
 clear hr1_1 hc1_1
 have HR1_2 := aM hr1_2
 have HC1_2 := aM hc1_2
 clear hr1_2 hc1_2
 have HB := aM (Below.refl w.heap.size w)
 have H : ((some (([true, false] : List Bool) : List Bool)).bind fun y398 => (impl_NextPairs.l0 k a2 a3 (([] : List (List Int))) y398 (y398.length : Int) 0 a0_0 l0_1 l0_2 a1_0 l1_1 l1_2)) = some r := h
 clear h
 obtain ⟨y395, hy395⟩ : ∃ y_ : List (List Int), y_ = (([] : List (List Int))) := ⟨_, rfl⟩
 replace H : ((some (([true, false] : List Bool) : List Bool)).bind fun y398 => (impl_NextPairs.l0 k a2 a3 y395 y398 (y398.length : Int) 0 a0_0 l0_1 l0_2 a1_0 l1_1 l1_2)) = some r := by first | (rw [hy395]; with_reducible exact H) | (rw [hy395]; exact H) | exact H
 have Ny395 := aM hy395
 clear hy395
 obtain ⟨y398, hy398⟩ : ∃ y_ : List Bool, y_ = (([true, false] : List Bool)) := ⟨_, rfl⟩
 replace H : (impl_NextPairs.l0 k a2 a3 y395 y398 (y398.length : Int) 0 a0_0 l0_1 l0_2 a1_0 l1_1 l1_2) = some r := by first | (rw [hy398]; with_reducible exact H) | (rw [hy398]; exact H) | exact H
 have Ny398 := aM hy398
 clear hy398
 have H' := aM H
 clear H
 go_enter Try.func14, Try.ntmps14
 go_wp2_with (first | ((with_reducible refine gD (N := 4) rfl ?_); refine box_event ?hg (N := 4) ?hd (cs := #[.int .i64 a0_0, .slice A0_1 l0_1.length c0_1, .slice A0_2 l0_2.length c0_2]) (t := 27) ?hr ?_; (case hd => rfl); (case hg => rfl); (case hr => first | (go_simp; done) | (go_simp; rfl)); intro gb393 hg w5 hbox hb; have BK393 := aM (hbox); have GW393 := gS HB hg; have GE393 := gS HB hg; replace HB := bS HB hb; clear hb hbox hg) | ((with_reducible refine gD (N := 5) rfl ?_); refine box_event ?hg (N := 5) ?hd (cs := #[.int .i64 a1_0, .slice A1_1 l1_1.length c1_1, .slice A1_2 l1_2.length c1_2]) (t := 27) ?hr ?_; (case hd => rfl); (case hg => rfl); (case hr => first | (go_simp; done) | (go_simp; rfl)); intro gb394 hg w6 hbox hb; have BK394 := aM (hbox); have GW394 := gS HB hg; have GE394 := gS HB hg; replace HB := bS HB hb; have NB393_394 := nL BK393 hg; have NB394_393 := nR BK393 hg; replace BK393 := kB BK393 hb; clear hb hbox hg) | ((with_reducible refine gD (N := 17) rfl ?_); refine Kd.S_lit (Kd.slice 3 (Kd.int .i64)) _ 31 ?hg (N := 17) ?hd (xs := ([] : List (List Int))) (inner := []) (ok := fun _ => True) (okp := fun _ => True) ?hr ?hp (fun _ hk => hk) trivial (Below.refl _ _) (Nat.le_refl _) (by simp) ?_; (case hd => rfl); (case hg => rfl); (case hr => first | (go_simp; done) | (go_simp; rfl)); (case hp => exact (Reps.none _ _)); intro v396 w7 ho8 hb hg_ hnew_; clear hg_ hnew_; (first | rw [← Ny395.o] at ho8 | (simp only [Int.reduceToNat] at ho8; rw [← Ny395.o] at ho8)); have HO397 := aM (Kd.S_lower ho8 (bZ (zB HB))); replace BK393 := kB BK393 hb; replace BK394 := kB BK394 hb; replace HB := bS HB hb; clear hb ho8) | ((with_reducible refine gD (N := 18) rfl ?_); refine Kd.R_lit Kd.bool _ 4 ?hg (N := 18) ?hd (xs := ([true, false] : List Bool)) (inner := [.bool true, .bool false]) (ok := fun _ => True) (okp := fun _ => True) ?hr ?hp (fun _ hk => hk) trivial (Below.refl _ _) (Nat.le_refl _) (by simp) ?_; (case hd => rfl); (case hg => rfl); (case hr => first | (go_simp; done) | (go_simp; rfl)); (case hp => exact (Reps.one (show Kd.M Kd.bool _ _ _ true [.bool true] from rfl) (Reps.one (show Kd.M Kd.bool _ _ _ false [.bool false] from rfl) (Reps.none _ _)))); intro v399 w9 ho10 hb hg_ hnew_; clear hg_ hnew_; (first | rw [← Ny398.o] at ho10 | (simp only [Int.reduceToNat] at ho10; rw [← Ny398.o] at ho10)); replace HO397 := aM (Kd.S_below (zS HO397) hb); have HO400 := aM (rO ho10 (bZ (zB HB))); replace BK393 := kB BK393 hb; replace BK394 := kB BK394 hb; replace HB := bS HB hb; clear hb ho10; obtain ⟨Ao11, co11, eo11⟩ := rL HO400.o; subst eo11))
 go_loopg [9, 20] k (fun kq v9 v20 w' => ∃ (x9_1 : List (List Int)) (x20_1 : Int), v20 = .int .i64 x20_1 ∧ Aside0 (impl_NextPairs.l0 kq a2 a3 x9_1 y398 (y398.length : Int) x20_1 a0_0 l0_1 l0_2 a1_0 l1_1 l1_2 = some r) ∧ Aside0 (kq ≤ k) ∧ Aside0 (Kd.S (Kd.slice 3 (Kd.int .i64)) 31 w' w.heap.size (fun _ => True) v9 x9_1) ∧ Aside0 (Kd.R Kd.bool 4 w' w.heap.size (fun _ => True) (.slice Ao11 y398.length co11) y398) ∧ Aside0 (w'.heap[gb393]? = some (.cells #[.int .i64 a0_0, (.slice A0_1 l0_1.length c0_1), (.slice A0_2 l0_2.length c0_2)] 27 (0, 0))) ∧ Aside0 (w'.heap[gb394]? = some (.cells #[.int .i64 a1_0, (.slice A1_1 l1_1.length c1_1), (.slice A1_2 l1_2.length c1_2)] 27 (0, 0))) ∧ Aside0 (Below w.heap.size w w'))
 case atStart => exact ⟨(y395), (0), zF, H', ⟨Nat.le_refl _⟩, ⟨zS HO397⟩, ⟨zR HO400⟩, ⟨zK BK393⟩, ⟨zK BK394⟩, ⟨zB HB⟩⟩
 case round =>
  clear H'
  try clear c1
  try clear p2
  obtain ⟨x9_1, x20_1, rfl, HA, HK1, HO_9, HO_18, BK393, BK394, HB⟩ := hrel
  cases gk with
  | zero => exact absurd HA.o (by simp [impl_NextPairs.l0])
  | succ k1 =>
   have H := HA.o
   clear HA
   simp only [impl_NextPairs.l0] at H
   by_cases c12 : x20_1 < (y398.length : Int)
   ·rw [if_pos c12] at H
    have c12b0 : decide (x20_1 < (y398.length : Int)) = true := dT c12
    clear c12
    obtain ⟨c13, H⟩ := ifS H
    have c13b0 : decide (0 ≤ x20_1) = true := dT c13
    clear c13
    obtain ⟨c14, H⟩ := ifS H
    have c14b0 : decide (x20_1 < (y398.length : Int)) = true := dT c14
    clear c14
    obtain ⟨t402, A15, H⟩ := bindS H
    have HC16 := aM H
    clear H
    have p401 : 0 ≤ (x20_1 : Int) := zD
    have q401 : x20_1 < (y398.length : Int) := zD
    obtain ⟨ad401, e401, hx401_0⟩ := Kd.at_bool (rQ HO_18.o).2.2 x20_1 p401 q401
    cases e401
    replace p401 := eq_true p401
    replace q401 := eq_true q401
    have hnb17 := NB393_394.o
    have hnc17 := NB394_393.o
    obtain ⟨z18_0, z18_1, z18_2, f18_0, f18_1, f18_2⟩ := bq3 BK393
    go_upto_if 28 with (first | ((with_reducible refine gC (f := 27) rfl ?_); refine goesL_ (some 26) rfl rfl Try.func27 (by kernel_rfl) rfl #[.agg #[.int .i64 a0_0, .slice A0_1 l0_1.length c0_1, .slice A0_2 l0_2.length c0_2], .int .i64 a2, .bool true] rfl zG ?_; (with_reducible refine (impl_MovesFrom.calls k1 a0_0 _ _ l0_1 _ _ l0_2 a2 true t402 _ ?s1 ?s2 ?s3 ?s4 A15.o).mono ?_); (case s1 => exact cS HR0_1 HB); (case s2 => exact HC0_1.o); (case s3 => exact cS HR0_2 HB); (case s4 => exact HC0_2.o); rintro e w19 ⟨v403, rfl, ho0, hb⟩; refine ⟨_, rfl, ?_⟩; replace HO_9 := aM (Kd.S_elder' (zS HO_9) (Kd.R_base ho0) hb); replace HO_18 := aM (rW (zR HO_18) hb); have HO404 := aM (rO ho0 (bZ (zB HB))); replace BK393 := kB BK393 hb; replace BK394 := kB BK394 hb; replace HB := bS HB hb; (try clear hb); (try clear ho0)))
    (try simp only [Act.put, lA, lB, lC])
    obtain ⟨bq20, hbq20⟩ : ∃ b_ : Bool, b_ = (rdOf false y398 x20_1) := ⟨_, rfl⟩
    (try rw [← hbq20])
    have Nbq20 := aM hbq20
    clear hbq20
    go_cut [12] (fun v12 wc => ∃ (kq : Nat) (x12_15 : List Int), Aside0 (impl_NextPairs.j1 kq a2 a3 x9_1 bq20 x12_15 y398 (y398.length : Int) x20_1 a0_0 l0_1 l0_2 a1_0 l1_1 l1_2 = some r) ∧ Aside0 (kq ≤ k1) ∧ Aside0 (Kd.S (Kd.slice 3 (Kd.int .i64)) 31 wc w.heap.size (fun k_ => some k_ ≠ (v12 : Value).ownBlock) u9 x9_1) ∧ Aside0 (Kd.R (Kd.int .i64) 3 wc w.heap.size (fun _ => True) v12 x12_15) ∧ Aside0 (Kd.R Kd.bool 4 wc w.heap.size (fun _ => True) (.slice (some ad401) y398.length co11) y398) ∧ Aside0 (wc.heap[gb393]? = some (.cells #[.int .i64 a0_0, (.slice A0_1 l0_1.length c0_1), (.slice A0_2 l0_2.length c0_2)] 27 (0, 0))) ∧ Aside0 (wc.heap[gb394]? = some (.cells #[.int .i64 a1_0, (.slice A1_1 l1_1.length c1_1), (.slice A1_2 l1_2.length c1_2)] 27 (0, 0))) ∧ Aside0 (Below w.heap.size w wc))
    case first =>
     have H := HC16.o
     clear HC16
     replace H : (if bq20 = true then (impl_NextPairs.j1 k1 a2 a3 x9_1 bq20 t402 y398 (y398.length : Int) x20_1 a0_0 l0_1 l0_2 a1_0 l1_1 l1_2) else ((impl_MovesFrom.f k1 a1_0 l1_1 l1_2 a3 true).bind fun t405 => (impl_NextPairs.j1 k1 a2 a3 x9_1 bq20 t405 y398 (y398.length : Int) x20_1 a0_0 l0_1 l0_2 a1_0 l1_1 l1_2))) = some r := by rw [← Nbq20.o] at H; exact H
     by_cases c21 : bq20 = true
     ·subst c21
      rename_i hm1_ hm2_
      have hm3_ := hm1_
      clear hm1_
      have H1 : (impl_NextPairs.j1 k1 a2 a3 x9_1 true t402 y398 (y398.length : Int) x20_1 a0_0 l0_1 l0_2 a1_0 l1_1 l1_2) = some r := by rw [if_pos rfl] at H; exact H
      clear H
      have H := H1
      clear H1
      have H' := aM H
      clear H
      go_wp2
      go_meet
      case rel => exact ⟨_, (t402), H', ⟨by have := HK1.o; first | omega | exact Nat.le_refl _⟩, ⟨by (with_reducible repeat (first | apply Kd.S_alloc | apply Kd.S_drewN | apply Kd.S_drew)); exact Kd.S_mono HO_9.o (fun _ hk => hk.2)⟩, ⟨zR HO404⟩, ⟨zR HO_18⟩, ⟨zK BK393⟩, ⟨zK BK394⟩, ⟨zB HB⟩⟩
     ·replace c21 := Bool.eq_false_iff.mpr c21
      subst c21
      rename_i hm1_ hm2_
      have hm3_ := hm1_
      clear hm1_
      have H1 : ((impl_MovesFrom.f k1 a1_0 l1_1 l1_2 a3 true).bind fun t405 => (impl_NextPairs.j1 k1 a2 a3 x9_1 false t405 y398 (y398.length : Int) x20_1 a0_0 l0_1 l0_2 a1_0 l1_1 l1_2)) = some r := by rw [if_neg (show ¬ (false = true) by decide)] at H; exact H
      clear H
      have H := H1
      clear H1
      obtain ⟨t405, A22, H⟩ := bindS H
      have H' := aM H
      clear H
      have hnb23 := NB394_393.o
      have hnc23 := NB393_394.o
      obtain ⟨z24_0, z24_1, z24_2, f24_0, f24_1, f24_2⟩ := bq3 BK394
      go_wp2_with (first | ((with_reducible refine gC (f := 27) rfl ?_); refine goesL_ (some 31) rfl rfl Try.func27 (by kernel_rfl) rfl #[.agg #[.int .i64 a1_0, .slice A1_1 l1_1.length c1_1, .slice A1_2 l1_2.length c1_2], .int .i64 a3, .bool true] rfl zG ?_; (with_reducible refine (impl_MovesFrom.calls k1 a1_0 _ _ l1_1 _ _ l1_2 a3 true t405 _ ?s1 ?s2 ?s3 ?s4 A22.o).mono ?_); (case s1 => exact cS HR1_1 HB); (case s2 => exact HC1_1.o); (case s3 => exact cS HR1_2 HB); (case s4 => exact HC1_2.o); rintro e w25 ⟨v406, rfl, ho0, hb⟩; refine ⟨_, rfl, ?_⟩; replace HO_9 := aM (Kd.S_elder' (zS HO_9) (Kd.R_base ho0) hb); replace HO_18 := aM (rW (zR HO_18) hb); have HO407 := aM (rO (Kd.R_new' ho0 (Kd.R_lt (zR HO404))) (bZ (zB HB))); replace HO404 := aM (Kd.R_elder' (zR HO404) (Kd.R_base ho0) hb); replace BK393 := kB BK393 hb; replace BK394 := kB BK394 hb; replace HB := bS HB hb; (try clear hb); (try clear ho0)))
      go_meet
      case rel => exact ⟨_, (t405), H', ⟨by have := HK1.o; first | omega | exact Nat.le_refl _⟩, ⟨by (with_reducible repeat (first | apply Kd.S_alloc | apply Kd.S_drewN | apply Kd.S_drew)); exact Kd.S_mono HO_9.o (fun _ hk => hk.2)⟩, ⟨by (with_reducible repeat (first | apply rA | apply rN | apply rD)); exact rM HO407.o (fun _ hk => trivial)⟩, ⟨zR HO_18⟩, ⟨zK BK393⟩, ⟨zK BK394⟩, ⟨zB HB⟩⟩
    case rest =>
     have Nbq20_ := Nbq20.o
     clear Nbq20
     subst Nbq20_
     clear HC16
     try clear c1
     try clear c2
     try clear p2
     try clear q2
     try clear p4
     try clear q4
     try clear hx4
     try clear c12
     try clear c12b0
     try clear c13
     try clear c13b0
     try clear c14
     try clear c14b0
     try clear c17
     try clear q20
     try clear c21
     try clear c23
     try clear z18_0
     try clear z18_1
     try clear z18_2
     try clear z24_0
     try clear z24_1
     try clear z24_2
     try clear f18_0
     try clear f18_1
     try clear f18_2
     try clear f24_0
     try clear f24_1
     try clear f24_2
     try clear hx401_0
     try clear p2
     try clear p401
     try clear q401
     obtain ⟨kq, x12_15, HA, HJ15, HO_9, HO_12, HO_18, BK393, BK394, HB⟩ := hcut
     cases kq with
     | zero => exact absurd HA.o (by simp [impl_NextPairs.j1])
     | succ kj15 =>
      have H := HA.o
      clear HA
      simp only [impl_NextPairs.j1] at H
      have H' := aM H
      clear H
      obtain ⟨Ao26, co26, eo26⟩ := rL HO_12.o
      subst eo26
      go_wp2
      go_loopg [9, 34] kj15 (fun kq v9 v34 w' => ∃ (x9_3 : List (List Int)) (x34_3 : Int), v34 = .int .i64 x34_3 ∧ Aside0 (impl_NextPairs.l1 kq a2 a3 x9_3 (rdOf false y398 x20_1) y398 (y398.length : Int) x20_1 x12_15 (x12_15.length : Int) x34_3 a0_0 l0_1 l0_2 a1_0 l1_1 l1_2 = some r) ∧ Aside0 (kq ≤ kj15) ∧ Aside0 (Kd.S (Kd.slice 3 (Kd.int .i64)) 31 w' w.heap.size (fun k_ => some k_ ≠ ((.slice Ao26 x12_15.length co26) : Value).ownBlock) v9 x9_3) ∧ Aside0 (Kd.R Kd.bool 4 w' w.heap.size (fun _ => True) (.slice (some ad401) y398.length co11) y398) ∧ Aside0 (Kd.R (Kd.int .i64) 3 w' w.heap.size (fun _ => True) (.slice Ao26 x12_15.length co26) x12_15) ∧ Aside0 (w'.heap[gb393]? = some (.cells #[.int .i64 a0_0, (.slice A0_1 l0_1.length c0_1), (.slice A0_2 l0_2.length c0_2)] 27 (0, 0))) ∧ Aside0 (w'.heap[gb394]? = some (.cells #[.int .i64 a1_0, (.slice A1_1 l1_1.length c1_1), (.slice A1_2 l1_2.length c1_2)] 27 (0, 0))) ∧ Aside0 (Below w.heap.size w w'))
      case atStart => exact ⟨(x9_1), (0), zF, H', ⟨Nat.le_refl _⟩, ⟨zS HO_9⟩, ⟨zR HO_18⟩, ⟨zR HO_12⟩, ⟨zK BK393⟩, ⟨zK BK394⟩, ⟨zB HB⟩⟩
      case round =>
       clear H'
       try clear c1
       try clear c2
       try clear p2
       try clear q2
       try clear p4
       try clear q4
       try clear hx4
       try clear c12
       try clear c12b0
       try clear c13
       try clear c13b0
       try clear c14
       try clear c14b0
       try clear c17
       try clear q20
       try clear c21
       try clear c23
       try clear z18_0
       try clear z18_1
       try clear z18_2
       try clear z24_0
       try clear z24_1
       try clear z24_2
       try clear f18_0
       try clear f18_1
       try clear f18_2
       try clear f24_0
       try clear f24_1
       try clear f24_2
       try clear hx401_0
       try clear p2
       try clear p4
       try clear p401
       try clear q2
       try clear q20
       try clear q4
       try clear q401
       obtain ⟨x9_3, x34_3, rfl, HA, HK3, HO_9, HO_18, HO_32, BK393, BK394, HB⟩ := hrel
       cases gk with
       | zero => exact absurd HA.o (by simp [impl_NextPairs.l1])
       | succ k3 =>
        have H := HA.o
        clear HA
        simp only [impl_NextPairs.l1] at H
        by_cases c27 : x34_3 < (x12_15.length : Int)
        ·rw [if_pos c27] at H
         have c27b0 : decide (x34_3 < (x12_15.length : Int)) = true := dT c27
         clear c27
         obtain ⟨c28, H⟩ := ifS H
         have c28b0 : decide (0 ≤ x34_3) = true := dT c28
         clear c28
         obtain ⟨c29, H⟩ := ifS H
         have c29b0 : decide (x34_3 < (x12_15.length : Int)) = true := dT c29
         clear c29
         obtain ⟨t409, A30, H⟩ := bindS H
         obtain ⟨t410, A31, H⟩ := bindS H
         by_cases c32 : t409 ≥ 0
         ·rw [if_pos c32] at H
          have c32b0 : decide (0 ≤ t409) = true := dT c32
          clear c32
          by_cases c33 : t410 ≥ 0
          ·rw [if_pos c33] at H
           have c33b0 : decide (0 ≤ t410) = true := dT c33
           clear c33
           obtain ⟨c34, H⟩ := ifS H
           have c34b0 : decide (0 ≤ t409) = true := dT c34
           clear c34
           obtain ⟨c35, H⟩ := ifS H
           have c35b0 : decide (t409 < (l0_2.length : Int)) = true := dT c35
           clear c35
           obtain ⟨c36, H⟩ := ifS H
           have c36b0 : decide (0 ≤ t410) = true := dT c36
           clear c36
           obtain ⟨c37, H⟩ := ifS H
           have c37b0 : decide (t410 < (l1_2.length : Int)) = true := dT c37
           clear c37
           obtain ⟨y413, hy413⟩ : ∃ y_ : List Int, y_ = (([(rd_T46 l0_2 t409).f3, (rd_T46 l1_2 t410).f3] : List Int)) := ⟨_, rfl⟩
           replace H : (if x9_3.length < 5864062014805 then (impl_NextPairs.l1 k3 a2 a3 (x9_3 ++ [y413]) (rdOf false y398 x20_1) y398 (y398.length : Int) x20_1 x12_15 (x12_15.length : Int) (wrap64 (x34_3 + 1)) a0_0 l0_1 l0_2 a1_0 l1_1 l1_2) else (none)) = some r := by first | (rw [hy413]; with_reducible exact H) | (rw [hy413]; exact H) | exact H
           have Ny413 := aM hy413
           clear hy413
           obtain ⟨c38, H⟩ := ifS H
           have LMc38 := aM c38
           clear c38
           obtain ⟨y416, hy416⟩ : ∃ y_ : List (List Int), y_ = (x9_3 ++ [y413]) := ⟨_, rfl⟩
           replace H : (impl_NextPairs.l1 k3 a2 a3 y416 (rdOf false y398 x20_1) y398 (y398.length : Int) x20_1 x12_15 (x12_15.length : Int) (wrap64 (x34_3 + 1)) a0_0 l0_1 l0_2 a1_0 l1_1 l1_2) = some r := by first | (rw [hy416]; with_reducible exact H) | (rw [hy416]; exact H) | exact H
           have Ny416 := aM hy416
           clear hy416
           have H' := aM H
           clear H
           have p408 : 0 ≤ (x34_3 : Int) := zD
           have q408 : x34_3 < (x12_15.length : Int) := zD
           obtain ⟨ad408, e408, hx408_0⟩ := Kd.at_int (rQ HO_32.o).2.2 x34_3 p408 q408
           cases e408
           replace p408 := eq_true p408
           replace q408 := eq_true q408
           try go_wp2
           replace HO_9 := aM (Kd.S_drew HO_9.o)
           replace HO_18 := aM (rD HO_18.o)
           replace HO_32 := aM (rD HO_32.o)
           replace BK393 := aM (bD BK393.o)
           replace BK394 := aM (bD BK394.o)
           replace HB := aM (below_drew1 HB.o)
           refine start_ (n := 13) (S := fun w' => w'.cell? ⟨gb393, 0, none⟩ = some (.int .i64 a0_0) ∧ w'.cell? ⟨gb393, 1, none⟩ = some (.slice A0_1 l0_1.length c0_1) ∧ w'.cell? ⟨gb393, 2, none⟩ = some (.slice A0_2 l0_2.length c0_2) ∧ w'.cell? ⟨gb394, 0, none⟩ = some (.int .i64 a1_0) ∧ w'.cell? ⟨gb394, 1, none⟩ = some (.slice A1_1 l1_1.length c1_1) ∧ w'.cell? ⟨gb394, 2, none⟩ = some (.slice A1_2 l1_2.length c1_2)) (ds := []) (bm 13 0) (by kernel_rfl) rfl (bm0 _) ⟨bc0 BK393, bc1 BK393, bc2 BK393, bc0 BK394, bc1 BK394, bc2 BK394⟩ (fun hK4 => ?_); refine with_tabW impl_NextPairs.tab11 impl_NextPairs.bits11 (fun HT_ HW_ => ?_)
           generalize wr.drew = w39 at HO_9 HO_18 HO_32 BK393 BK394 HB hK4 ⊢
           refine pW 1 39 13 2 HT_ rfl rfl ?_
           refine pW 2 40 13 6 HT_ rfl rfl ?_
           refine pW 3 41 13 14 HT_ rfl rfl ?_
           refine pW 6 44 13 78 HT_ rfl rfl ?_
           refine pW 7 45 13 206 HT_ rfl rfl ?_
           refine pW 8 46 13 462 HT_ rfl rfl ?_
           refine pW 9 47 13 974 HT_ rfl rfl ?_
           refine tW 0 38 13 975 HT_ HW_ rfl rfl hK4 ?_
           refine tW 5 43 13 1007 HT_ HW_ rfl rfl hK4 ?_
           refine one_ (i := 4) (N := some 42) (bm 13 1023) rfl rfl (one_of HT_.o (by kernel_rfl)) (by decide) (fun K hK => ?_)
           refine goes_ Try.func29 (by kernel_rfl) rfl #[.agg #[.int .i64 a0_0, .slice A0_1 l0_1.length c0_1, .slice A0_2 l0_2.length c0_2], .int .i64 a2, .bool (rdOf false y398 x20_1), .int .i64 (rd x12_15 x34_3)] (by rfl) rfl rfl zG ?_
           with_reducible refine (impl_MoveOf.calls a0_0 _ _ l0_1 _ _ l0_2 a2 (rdOf false y398 x20_1) (rd x12_15 x34_3) t409 _ ?s1 ?s2 ?s3 ?s4 A30.o).mono ?_
           (case s1 => exact cS HR0_1 HB)
           (case s2 => exact HC0_1.o)
           (case s3 => exact cS HR0_2 HB)
           (case s4 => exact HC0_2.o)
           rintro e w40 ⟨rfl, hb⟩
           refine ⟨_, rfl, ?_⟩
           replace HO_9 := aM (Kd.S_below (zS HO_9) hb)
           replace HO_18 := aM (rW (zR HO_18) hb)
           replace HO_32 := aM (rW (zR HO_32) hb)
           replace BK393 := kB BK393 hb
           replace BK394 := kB BK394 hb
           replace HB := bS HB hb
           (try clear hb); (try clear hb2); (try clear hk); (try clear hi)
           refine hK.out _ _ ⟨bc0 BK393, bc1 BK393, bc2 BK393, bc0 BK394, bc1 BK394, bc2 BK394⟩ (fun hK4 => ?_)
           clear hK K
           refine nU 42 ?_
           refine one_ (i := 10) (N := some 48) (bm 13 2047) rfl rfl (one_of HT_.o (by kernel_rfl)) (by decide) (fun K hK => ?_)
           refine goes_ Try.func29 (by kernel_rfl) rfl #[.agg #[.int .i64 a1_0, .slice A1_1 l1_1.length c1_1, .slice A1_2 l1_2.length c1_2], .int .i64 a3, .bool (!(rdOf false y398 x20_1)), .int .i64 (rd x12_15 x34_3)] (by rfl) rfl rfl zG ?_
           with_reducible refine (impl_MoveOf.calls a1_0 _ _ l1_1 _ _ l1_2 a3 (!(rdOf false y398 x20_1)) (rd x12_15 x34_3) t410 _ ?s1 ?s2 ?s3 ?s4 A31.o).mono ?_
           (case s1 => exact cS HR1_1 HB)
           (case s2 => exact HC1_1.o)
           (case s3 => exact cS HR1_2 HB)
           (case s4 => exact HC1_2.o)
           rintro e w41 ⟨rfl, hb⟩
           refine ⟨_, rfl, ?_⟩
           replace HO_9 := aM (Kd.S_below (zS HO_9) hb)
           replace HO_18 := aM (rW (zR HO_18) hb)
           replace HO_32 := aM (rW (zR HO_32) hb)
           replace BK393 := kB BK393 hb
           replace BK394 := kB BK394 hb
           replace HB := bS HB hb
           (try clear hb); (try clear hb2); (try clear hk); (try clear hi)
           refine hK.out _ _ ⟨bc0 BK393, bc1 BK393, bc2 BK393, bc0 BK394, bc1 BK394, bc2 BK394⟩ (fun hK4 => ?_)
           clear hK K
           refine nU 48 ?_
           refine pW 11 15 13 4095 HT_ rfl rfl ?_
           refine pW 12 16 13 8191 HT_ rfl rfl ?_
           refine done_ (done_of HT_.o (by kernel_rfl)) ?_
           try clear hK4
           try go_wp2
           replace HO_9 := aM (Kd.S_drew HO_9.o)
           replace HO_18 := aM (rD HO_18.o)
           replace HO_32 := aM (rD HO_32.o)
           replace BK393 := aM (bD BK393.o)
           replace BK394 := aM (bD BK394.o)
           replace HB := aM (below_drew1 HB.o)
           have p411 : 0 ≤ (t409 : Int) := zD
           have q411 : t409 < (l0_2.length : Int) := zD
           obtain ⟨ad411, e411, hx411_0, hx411_1, hx411_2, hx411_3⟩ := at_T46 HR0_2.o t409 p411 q411
           have hw411_3 := hx411_3
           have hw411_2 := hx411_2
           have hw411_1 := hx411_1
           have hw411_0 := hx411_0
           cases e411
           replace hx411_0 := hL HB hx411_0
           replace hx411_1 := hL HB hx411_1
           replace hx411_2 := hL HB hx411_2
           replace hx411_3 := hL HB hx411_3
           replace p411 := eq_true p411
           replace q411 := eq_true q411
           have p412 : 0 ≤ (t410 : Int) := zD
           have q412 : t410 < (l1_2.length : Int) := zD
           obtain ⟨ad412, e412, hx412_0, hx412_1, hx412_2, hx412_3⟩ := at_T46 HR1_2.o t410 p412 q412
           have hw412_3 := hx412_3
           have hw412_2 := hx412_2
           have hw412_1 := hx412_1
           have hw412_0 := hx412_0
           cases e412
           replace hx412_0 := hL HB hx412_0
           replace hx412_1 := hL HB hx412_1
           replace hx412_2 := hL HB hx412_2
           replace hx412_3 := hL HB hx412_3
           replace p412 := eq_true p412
           replace q412 := eq_true q412
           refine start_ (n := 17) (S := fun w' => w'.cell? ⟨gb393, 0, none⟩ = some (.int .i64 a0_0) ∧ w'.cell? ⟨gb393, 1, none⟩ = some (.slice A0_1 l0_1.length c0_1) ∧ w'.cell? ⟨gb393, 2, none⟩ = some (.slice (some ad411) l0_2.length c0_2) ∧ w'.cell? ⟨gb394, 0, none⟩ = some (.int .i64 a1_0) ∧ w'.cell? ⟨gb394, 1, none⟩ = some (.slice A1_1 l1_1.length c1_1) ∧ w'.cell? ⟨gb394, 2, none⟩ = some (.slice (some ad412) l1_2.length c1_2) ∧ w'.cell? (ad411.add ((t409).toNat * 4)) = some (.int .i64 ((rd_T46 l0_2 t409).f0)) ∧ w'.cell? ⟨(ad411.add ((t409).toNat * 4)).block, (ad411.add ((t409).toNat * 4)).off + 1, none⟩ = some (.bool ((rd_T46 l0_2 t409).f1)) ∧ w'.cell? ⟨(ad411.add ((t409).toNat * 4)).block, (ad411.add ((t409).toNat * 4)).off + 2, none⟩ = some (.int .i64 ((rd_T46 l0_2 t409).f2)) ∧ w'.cell? ⟨(ad411.add ((t409).toNat * 4)).block, (ad411.add ((t409).toNat * 4)).off + 3, none⟩ = some (.int .i64 ((rd_T46 l0_2 t409).f3)) ∧ w'.cell? (ad412.add ((t410).toNat * 4)) = some (.int .i64 ((rd_T46 l1_2 t410).f0)) ∧ w'.cell? ⟨(ad412.add ((t410).toNat * 4)).block, (ad412.add ((t410).toNat * 4)).off + 1, none⟩ = some (.bool ((rd_T46 l1_2 t410).f1)) ∧ w'.cell? ⟨(ad412.add ((t410).toNat * 4)).block, (ad412.add ((t410).toNat * 4)).off + 2, none⟩ = some (.int .i64 ((rd_T46 l1_2 t410).f2)) ∧ w'.cell? ⟨(ad412.add ((t410).toNat * 4)).block, (ad412.add ((t410).toNat * 4)).off + 3, none⟩ = some (.int .i64 ((rd_T46 l1_2 t410).f3))) (ds := []) (bm 17 0) (by kernel_rfl) rfl (bm0 _) ⟨bc0 BK393, bc1 BK393, bc2 BK393, bc0 BK394, bc1 BK394, bc2 BK394, (hL HB hw411_0), (hL HB hw411_1), (hL HB hw411_2), (hL HB hw411_3), (hL HB hw412_0), (hL HB hw412_1), (hL HB hw412_2), (hL HB hw412_3)⟩ (fun hK4 => ?_); refine with_tabW impl_NextPairs.tab13 impl_NextPairs.bits13 (fun HT_ HW_ => ?_)
           generalize w41.drew = w42 at HO_9 HO_18 HO_32 BK393 BK394 HB hx411_0 hx411_1 hx411_2 hx411_3 hx412_0 hx412_1 hx412_2 hx412_3 hK4 ⊢
           refine pW 0 55 17 1 HT_ rfl rfl ?_
           refine pW 1 56 17 3 HT_ rfl rfl ?_
           refine pW 3 58 17 11 HT_ rfl rfl ?_
           refine pW 7 62 17 139 HT_ rfl rfl ?_
           refine pW 9 64 17 651 HT_ rfl rfl ?_
           refine tW 2 57 17 655 HT_ HW_ rfl rfl hK4 ?_
           refine pW 4 59 17 671 HT_ rfl rfl ?_
           refine pW 5 60 17 703 HT_ rfl rfl ?_
           refine tW 6 61 17 767 HT_ HW_ rfl rfl hK4 ?_
           refine tW 8 63 17 1023 HT_ HW_ rfl rfl hK4 ?_
           refine pW 10 65 17 2047 HT_ rfl rfl ?_
           refine pW 11 66 17 4095 HT_ rfl rfl ?_
           refine tW 12 67 17 8191 HT_ HW_ rfl rfl hK4 ?_
           refine one_ (i := 13) (N := some 68) (bm 17 16383) rfl rfl (one_of HT_.o (by kernel_rfl)) (by decide) (fun K hK => ?_)
           refine Kd.R_lit_step (Kd.int .i64) _ 3 ?hg (N := 68) ?hd (xs := ([(rd_T46 l0_2 t409).f3, (rd_T46 l1_2 t410).f3] : List Int)) (inner := [.int .i64 ((rd_T46 l0_2 t409).f3), .int .i64 ((rd_T46 l1_2 t410).f3)]) (ok := fun _ => True) (okp := fun _ => True) ?hr ?hp (fun _ hk => hk) trivial (Below.refl _ _) (Nat.le_refl _) (by simp) ?_; (case hd => rfl); (case hg => rfl); (case hr => first | (go_simp; done) | (go_simp; rfl)); (case hp => exact (Reps.one (show Kd.M (Kd.int .i64) _ _ _ ((rd_T46 l0_2 t409).f3) [.int .i64 ((rd_T46 l0_2 t409).f3)] from rfl) (Reps.one (show Kd.M (Kd.int .i64) _ _ _ ((rd_T46 l1_2 t410).f3) [.int .i64 ((rd_T46 l1_2 t410).f3)] from rfl) (Reps.none _ _))))
           intro v414 w43 ho44 hb hg_ hnew_
           clear hg_ hnew_
           (first | rw [← Ny413.o] at ho44 | (simp only [Int.reduceToNat] at ho44; rw [← Ny413.o] at ho44))
           replace HO_9 := aM (Kd.S_elder' (zS HO_9) (Kd.R_base ho44) hb)
           replace HO_18 := aM (rW (zR HO_18) hb)
           have HO415 := aM (rO (Kd.R_new' ho44 (Kd.R_lt (zR HO_32))) (bZ (zB HB)))
           replace HO_32 := aM (Kd.R_elder' (zR HO_32) (Kd.R_base ho44) hb)
           replace BK393 := kB BK393 hb
           replace BK394 := kB BK394 hb
           replace HB := bS HB hb
           clear hb ho44
           obtain ⟨Ao46, co46, eo46⟩ := rL HO415.o
           (first | subst eo46 | (obtain ⟨f4_, f5_⟩ := slI eo46; subst f4_; subst f5_))
           refine hK.out _ _ ⟨bc0 BK393, bc1 BK393, bc2 BK393, bc0 BK394, bc1 BK394, bc2 BK394, (hL HB hw411_0), (hL HB hw411_1), (hL HB hw411_2), (hL HB hw411_3), (hL HB hw412_0), (hL HB hw412_1), (hL HB hw412_2), (hL HB hw412_3)⟩ (fun hK4 => ?_)
           clear hK K
           refine nU 68 ?_
           refine one_ (i := 14) (N := some 69) (bm 17 32767) rfl rfl (one_of HT_.o (by kernel_rfl)) (by decide) (fun K hK => ?_)
           refine value_ (w1 := ?_) (v := ?_) (by rfl) rfl ?_ ?_
           rotate_left 2
           ·go_simp
            constructor
            ·rfl
            ·rfl
           refine hK.out _ _ ⟨(blk_cell (bA BK393.o _) 0).trans rfl, (blk_cell (bA BK393.o _) 1).trans rfl, (blk_cell (bA BK393.o _) 2).trans rfl, (blk_cell (bA BK394.o _) 0).trans rfl, (blk_cell (bA BK394.o _) 1).trans rfl, (blk_cell (bA BK394.o _) 2).trans rfl, (World.cell?_alloc_lt _ _ _ (wL _ _ ((hL HB hw411_0)))).trans ((hL HB hw411_0)), (World.cell?_alloc_lt _ _ _ (wL _ _ ((hL HB hw411_1)))).trans ((hL HB hw411_1)), (World.cell?_alloc_lt _ _ _ (wL _ _ ((hL HB hw411_2)))).trans ((hL HB hw411_2)), (World.cell?_alloc_lt _ _ _ (wL _ _ ((hL HB hw411_3)))).trans ((hL HB hw411_3)), (World.cell?_alloc_lt _ _ _ (wL _ _ ((hL HB hw412_0)))).trans ((hL HB hw412_0)), (World.cell?_alloc_lt _ _ _ (wL _ _ ((hL HB hw412_1)))).trans ((hL HB hw412_1)), (World.cell?_alloc_lt _ _ _ (wL _ _ ((hL HB hw412_2)))).trans ((hL HB hw412_2)), (World.cell?_alloc_lt _ _ _ (wL _ _ ((hL HB hw412_3)))).trans ((hL HB hw412_3))⟩ (fun hK4 => ?_)
           clear hK K
           refine nU 69 ?_
           refine one_ (i := 15) (N := some 70) (bm 17 65535) rfl rfl (one_of HT_.o (by kernel_rfl)) (by decide) (fun K hK => ?_)
           refine Kd.S_append_step (Kd.slice 3 (Kd.int .i64)) (w0 := w) w.heap.size (by rfl) (.tmp 55) (.tmp 69) 33 31 (.slice none 0 0) 24 rfl Try.underlying33 info31 rfl (by decide) (by omega) u9 x9_3 y413 [.slice Ao46 y413.length co46] (fun k_ => some k_ ≠ (.slice (some ad408) x12_15.length co26 : Value).ownBlock) (fun k_ => some k_ = (.slice Ao46 y413.length co46 : Value).ownBlock) rfl rfl ?aP (fun k_ hk_ => ((rM (ok' := fun k_ => ((fun k_ => some k_ ≠ (.slice (some ad408) x12_15.length co26 : Value).ownBlock)) k_ ∧ some k_ ≠ (u9 : Value).ownBlock) (Kd.R_apart' (HO415.o) (Kd.S_typed HO_9.o) (by decide)) (fun k_ hk => ⟨hk.1.2, hk.2⟩))).1 k_ hk_.symm) ?aF ?aO ?aB ?aS ?aL ?_
           (case aP => exact Kd.M_row (rM (Kd.R_tight rfl (rM (ok' := fun k_ => ((fun k_ => some k_ ≠ (.slice (some ad408) x12_15.length co26 : Value).ownBlock)) k_ ∧ some k_ ≠ (u9 : Value).ownBlock) (Kd.R_apart' (HO415.o) (Kd.S_typed HO_9.o) (by decide)) (fun k_ hk => ⟨hk.1.2, hk.2⟩))) (fun _ h_ => h_)))
           (case aB => exact (zB HB))
           (case aF => exact (fun k_ hk => Kd.fresh' (Kd.R_lt (zR HO_32)) k_ hk))
           (case aO => exact (by (with_reducible repeat (first | apply Kd.S_alloc | apply Kd.S_drewN | apply Kd.S_drew)); exact Kd.S_mono HO_9.o (fun k_ hk => ⟨hk.1, fun e_ => hk.2 e_⟩)))
           (case aS => exact (bZ (zB HB)))
           (case aL => have := LMc38.o; omega)
           intro v417 w45 ho hb hg hat
           rw [← Ny416.o] at ho
           replace HO_18 := aM (Kd.R_over' (zR HO_18) (Kd.S_typed (zS HO_9)) (by decide) hg)
           replace HO_32 := aM (Kd.R_over' (zR HO_32) (Kd.S_typed (zS HO_9)) (by decide) hg)
           replace BK393 := aM (blk_grown (g := gb393) (o := .cells #[.int .i64 a0_0, .slice A0_1 l0_1.length c0_1, .slice (some ad411) l0_2.length c0_2] 27 (0, 0)) (zK BK393) hg (Kd.S_ne HO_9.o BK393.o (by decide)))
           replace BK394 := aM (blk_grown (g := gb394) (o := .cells #[.int .i64 a1_0, .slice A1_1 l1_1.length c1_1, .slice (some ad412) l1_2.length c1_2] 27 (0, 0)) (zK BK394) hg (Kd.S_ne HO_9.o BK394.o (by decide)))
           replace HB := aM (hb)
           have HO418 := aM (ho)
           clear HO_9 HO415
           clear ho hb hg hat
           refine hK.out _ _ ⟨bc0 BK393, bc1 BK393, bc2 BK393, bc0 BK394, bc1 BK394, bc2 BK394, (hL HB hw411_0), (hL HB hw411_1), (hL HB hw411_2), (hL HB hw411_3), (hL HB hw412_0), (hL HB hw412_1), (hL HB hw412_2), (hL HB hw412_3)⟩ (fun hK4 => ?_)
           clear hK K
           refine nU 70 ?_
           refine pW 16 9 17 131071 HT_ rfl rfl ?_
           refine done_ (done_of HT_.o (by kernel_rfl)) ?_
           try clear hK4
           try go_wp2
           go_roundg k3
           case measure => have := HK1.o; have := HJ15.o; have := HK3.o; omega
           case rel => exact ⟨(y416), (wrap64 (x34_3 + 1)), zF, H', ⟨by have := HK1.o; have := HJ15.o; have := HK3.o; omega⟩, ⟨zS HO418⟩, ⟨zR HO_18⟩, ⟨by (with_reducible repeat (first | apply rA | apply rN | apply rD)); exact rM HO_32.o (fun _ hk => trivial)⟩, ⟨zK BK393⟩, ⟨zK BK394⟩, ⟨zB HB⟩⟩
          ·rw [if_neg c33] at H
           have c33b0 : decide (0 ≤ t410) = false := decide_eq_false c33
           clear c33
           have H' := aM H
           clear H
           have p408 : 0 ≤ (x34_3 : Int) := zD
           have q408 : x34_3 < (x12_15.length : Int) := zD
           obtain ⟨ad408, e408, hx408_0⟩ := Kd.at_int (rQ HO_32.o).2.2 x34_3 p408 q408
           cases e408
           replace p408 := eq_true p408
           replace q408 := eq_true q408
           try go_wp2
           replace HO_9 := aM (Kd.S_drew HO_9.o)
           replace HO_18 := aM (rD HO_18.o)
           replace HO_32 := aM (rD HO_32.o)
           replace BK393 := aM (bD BK393.o)
           replace BK394 := aM (bD BK394.o)
           replace HB := aM (below_drew1 HB.o)
           refine start_ (n := 13) (S := fun w' => w'.cell? ⟨gb393, 0, none⟩ = some (.int .i64 a0_0) ∧ w'.cell? ⟨gb393, 1, none⟩ = some (.slice A0_1 l0_1.length c0_1) ∧ w'.cell? ⟨gb393, 2, none⟩ = some (.slice A0_2 l0_2.length c0_2) ∧ w'.cell? ⟨gb394, 0, none⟩ = some (.int .i64 a1_0) ∧ w'.cell? ⟨gb394, 1, none⟩ = some (.slice A1_1 l1_1.length c1_1) ∧ w'.cell? ⟨gb394, 2, none⟩ = some (.slice A1_2 l1_2.length c1_2)) (ds := []) (bm 13 0) (by kernel_rfl) rfl (bm0 _) ⟨bc0 BK393, bc1 BK393, bc2 BK393, bc0 BK394, bc1 BK394, bc2 BK394⟩ (fun hK4 => ?_); refine with_tabW impl_NextPairs.tab11 impl_NextPairs.bits11 (fun HT_ HW_ => ?_)
           generalize wr.drew = w47 at HO_9 HO_18 HO_32 BK393 BK394 HB hK4 ⊢
           refine pW 1 39 13 2 HT_ rfl rfl ?_
           refine pW 2 40 13 6 HT_ rfl rfl ?_
           refine pW 3 41 13 14 HT_ rfl rfl ?_
           refine pW 6 44 13 78 HT_ rfl rfl ?_
           refine pW 7 45 13 206 HT_ rfl rfl ?_
           refine pW 8 46 13 462 HT_ rfl rfl ?_
           refine pW 9 47 13 974 HT_ rfl rfl ?_
           refine tW 0 38 13 975 HT_ HW_ rfl rfl hK4 ?_
           refine tW 5 43 13 1007 HT_ HW_ rfl rfl hK4 ?_
           refine one_ (i := 4) (N := some 42) (bm 13 1023) rfl rfl (one_of HT_.o (by kernel_rfl)) (by decide) (fun K hK => ?_)
           refine goes_ Try.func29 (by kernel_rfl) rfl #[.agg #[.int .i64 a0_0, .slice A0_1 l0_1.length c0_1, .slice A0_2 l0_2.length c0_2], .int .i64 a2, .bool (rdOf false y398 x20_1), .int .i64 (rd x12_15 x34_3)] (by rfl) rfl rfl zG ?_
           with_reducible refine (impl_MoveOf.calls a0_0 _ _ l0_1 _ _ l0_2 a2 (rdOf false y398 x20_1) (rd x12_15 x34_3) t409 _ ?s1 ?s2 ?s3 ?s4 A30.o).mono ?_
           (case s1 => exact cS HR0_1 HB)
           (case s2 => exact HC0_1.o)
           (case s3 => exact cS HR0_2 HB)
           (case s4 => exact HC0_2.o)
           rintro e w48 ⟨rfl, hb⟩
           refine ⟨_, rfl, ?_⟩
           replace HO_9 := aM (Kd.S_below (zS HO_9) hb)
           replace HO_18 := aM (rW (zR HO_18) hb)
           replace HO_32 := aM (rW (zR HO_32) hb)
           replace BK393 := kB BK393 hb
           replace BK394 := kB BK394 hb
           replace HB := bS HB hb
           (try clear hb); (try clear hb2); (try clear hk); (try clear hi)
           refine hK.out _ _ ⟨bc0 BK393, bc1 BK393, bc2 BK393, bc0 BK394, bc1 BK394, bc2 BK394⟩ (fun hK4 => ?_)
           clear hK K
           refine nU 42 ?_
           refine one_ (i := 10) (N := some 48) (bm 13 2047) rfl rfl (one_of HT_.o (by kernel_rfl)) (by decide) (fun K hK => ?_)
           refine goes_ Try.func29 (by kernel_rfl) rfl #[.agg #[.int .i64 a1_0, .slice A1_1 l1_1.length c1_1, .slice A1_2 l1_2.length c1_2], .int .i64 a3, .bool (!(rdOf false y398 x20_1)), .int .i64 (rd x12_15 x34_3)] (by rfl) rfl rfl zG ?_
           with_reducible refine (impl_MoveOf.calls a1_0 _ _ l1_1 _ _ l1_2 a3 (!(rdOf false y398 x20_1)) (rd x12_15 x34_3) t410 _ ?s1 ?s2 ?s3 ?s4 A31.o).mono ?_
           (case s1 => exact cS HR1_1 HB)
           (case s2 => exact HC1_1.o)
           (case s3 => exact cS HR1_2 HB)
           (case s4 => exact HC1_2.o)
           rintro e w49 ⟨rfl, hb⟩
           refine ⟨_, rfl, ?_⟩
           replace HO_9 := aM (Kd.S_below (zS HO_9) hb)
           replace HO_18 := aM (rW (zR HO_18) hb)
           replace HO_32 := aM (rW (zR HO_32) hb)
           replace BK393 := kB BK393 hb
           replace BK394 := kB BK394 hb
           replace HB := bS HB hb
           (try clear hb); (try clear hb2); (try clear hk); (try clear hi)
           refine hK.out _ _ ⟨bc0 BK393, bc1 BK393, bc2 BK393, bc0 BK394, bc1 BK394, bc2 BK394⟩ (fun hK4 => ?_)
           clear hK K
           refine nU 48 ?_
           refine pW 11 15 13 4095 HT_ rfl rfl ?_
           refine pW 12 16 13 8191 HT_ rfl rfl ?_
           refine done_ (done_of HT_.o (by kernel_rfl)) ?_
           try clear hK4
           try go_wp2
           go_roundg k3
           case measure => have := HK1.o; have := HJ15.o; have := HK3.o; omega
           case rel => exact ⟨(x9_3), (wrap64 (x34_3 + 1)), zF, H', ⟨by have := HK1.o; have := HJ15.o; have := HK3.o; omega⟩, ⟨zS HO_9⟩, ⟨zR HO_18⟩, ⟨zR HO_32⟩, ⟨zK BK393⟩, ⟨zK BK394⟩, ⟨zB HB⟩⟩
         ·rw [if_neg c32] at H
          have c32b0 : decide (0 ≤ t409) = false := decide_eq_false c32
          clear c32
          have H' := aM H
          clear H
          have p408 : 0 ≤ (x34_3 : Int) := zD
          have q408 : x34_3 < (x12_15.length : Int) := zD
          obtain ⟨ad408, e408, hx408_0⟩ := Kd.at_int (rQ HO_32.o).2.2 x34_3 p408 q408
          cases e408
          replace p408 := eq_true p408
          replace q408 := eq_true q408
          try go_wp2
          replace HO_9 := aM (Kd.S_drew HO_9.o)
          replace HO_18 := aM (rD HO_18.o)
          replace HO_32 := aM (rD HO_32.o)
          replace BK393 := aM (bD BK393.o)
          replace BK394 := aM (bD BK394.o)
          replace HB := aM (below_drew1 HB.o)
          refine start_ (n := 13) (S := fun w' => w'.cell? ⟨gb393, 0, none⟩ = some (.int .i64 a0_0) ∧ w'.cell? ⟨gb393, 1, none⟩ = some (.slice A0_1 l0_1.length c0_1) ∧ w'.cell? ⟨gb393, 2, none⟩ = some (.slice A0_2 l0_2.length c0_2) ∧ w'.cell? ⟨gb394, 0, none⟩ = some (.int .i64 a1_0) ∧ w'.cell? ⟨gb394, 1, none⟩ = some (.slice A1_1 l1_1.length c1_1) ∧ w'.cell? ⟨gb394, 2, none⟩ = some (.slice A1_2 l1_2.length c1_2)) (ds := []) (bm 13 0) (by kernel_rfl) rfl (bm0 _) ⟨bc0 BK393, bc1 BK393, bc2 BK393, bc0 BK394, bc1 BK394, bc2 BK394⟩ (fun hK4 => ?_); refine with_tabW impl_NextPairs.tab11 impl_NextPairs.bits11 (fun HT_ HW_ => ?_)
          generalize wr.drew = w50 at HO_9 HO_18 HO_32 BK393 BK394 HB hK4 ⊢
          refine pW 1 39 13 2 HT_ rfl rfl ?_
          refine pW 2 40 13 6 HT_ rfl rfl ?_
          refine pW 3 41 13 14 HT_ rfl rfl ?_
          refine pW 6 44 13 78 HT_ rfl rfl ?_
          refine pW 7 45 13 206 HT_ rfl rfl ?_
          refine pW 8 46 13 462 HT_ rfl rfl ?_
          refine pW 9 47 13 974 HT_ rfl rfl ?_
          refine tW 0 38 13 975 HT_ HW_ rfl rfl hK4 ?_
          refine tW 5 43 13 1007 HT_ HW_ rfl rfl hK4 ?_
          refine one_ (i := 4) (N := some 42) (bm 13 1023) rfl rfl (one_of HT_.o (by kernel_rfl)) (by decide) (fun K hK => ?_)
          refine goes_ Try.func29 (by kernel_rfl) rfl #[.agg #[.int .i64 a0_0, .slice A0_1 l0_1.length c0_1, .slice A0_2 l0_2.length c0_2], .int .i64 a2, .bool (rdOf false y398 x20_1), .int .i64 (rd x12_15 x34_3)] (by rfl) rfl rfl zG ?_
          with_reducible refine (impl_MoveOf.calls a0_0 _ _ l0_1 _ _ l0_2 a2 (rdOf false y398 x20_1) (rd x12_15 x34_3) t409 _ ?s1 ?s2 ?s3 ?s4 A30.o).mono ?_
          (case s1 => exact cS HR0_1 HB)
          (case s2 => exact HC0_1.o)
          (case s3 => exact cS HR0_2 HB)
          (case s4 => exact HC0_2.o)
          rintro e w51 ⟨rfl, hb⟩
          refine ⟨_, rfl, ?_⟩
          replace HO_9 := aM (Kd.S_below (zS HO_9) hb)
          replace HO_18 := aM (rW (zR HO_18) hb)
          replace HO_32 := aM (rW (zR HO_32) hb)
          replace BK393 := kB BK393 hb
          replace BK394 := kB BK394 hb
          replace HB := bS HB hb
          (try clear hb); (try clear hb2); (try clear hk); (try clear hi)
          refine hK.out _ _ ⟨bc0 BK393, bc1 BK393, bc2 BK393, bc0 BK394, bc1 BK394, bc2 BK394⟩ (fun hK4 => ?_)
          clear hK K
          refine nU 42 ?_
          refine one_ (i := 10) (N := some 48) (bm 13 2047) rfl rfl (one_of HT_.o (by kernel_rfl)) (by decide) (fun K hK => ?_)
          refine goes_ Try.func29 (by kernel_rfl) rfl #[.agg #[.int .i64 a1_0, .slice A1_1 l1_1.length c1_1, .slice A1_2 l1_2.length c1_2], .int .i64 a3, .bool (!(rdOf false y398 x20_1)), .int .i64 (rd x12_15 x34_3)] (by rfl) rfl rfl zG ?_
          with_reducible refine (impl_MoveOf.calls a1_0 _ _ l1_1 _ _ l1_2 a3 (!(rdOf false y398 x20_1)) (rd x12_15 x34_3) t410 _ ?s1 ?s2 ?s3 ?s4 A31.o).mono ?_
          (case s1 => exact cS HR1_1 HB)
          (case s2 => exact HC1_1.o)
          (case s3 => exact cS HR1_2 HB)
          (case s4 => exact HC1_2.o)
          rintro e w52 ⟨rfl, hb⟩
          refine ⟨_, rfl, ?_⟩
          replace HO_9 := aM (Kd.S_below (zS HO_9) hb)
          replace HO_18 := aM (rW (zR HO_18) hb)
          replace HO_32 := aM (rW (zR HO_32) hb)
          replace BK393 := kB BK393 hb
          replace BK394 := kB BK394 hb
          replace HB := bS HB hb
          (try clear hb); (try clear hb2); (try clear hk); (try clear hi)
          refine hK.out _ _ ⟨bc0 BK393, bc1 BK393, bc2 BK393, bc0 BK394, bc1 BK394, bc2 BK394⟩ (fun hK4 => ?_)
          clear hK K
          refine nU 48 ?_
          refine pW 11 15 13 4095 HT_ rfl rfl ?_
          refine pW 12 16 13 8191 HT_ rfl rfl ?_
          refine done_ (done_of HT_.o (by kernel_rfl)) ?_
          try clear hK4
          try go_wp2
          go_roundg k3
          case measure => have := HK1.o; have := HJ15.o; have := HK3.o; omega
          case rel => exact ⟨(x9_3), (wrap64 (x34_3 + 1)), zF, H', ⟨by have := HK1.o; have := HJ15.o; have := HK3.o; omega⟩, ⟨zS HO_9⟩, ⟨zR HO_18⟩, ⟨zR HO_32⟩, ⟨zK BK393⟩, ⟨zK BK394⟩, ⟨zB HB⟩⟩
        ·rw [if_neg c27] at H
         have c27b0 : decide (x34_3 < (x12_15.length : Int)) = false := decide_eq_false c27
         clear c27
         have H' := aM H
         clear H
         go_wp2
         go_roundg k3
         case measure => have := HK1.o; have := HJ15.o; have := HK3.o; omega
         case rel => exact ⟨(x9_3), (wrap64 (x20_1 + 1)), zF, H', ⟨by have := HK1.o; have := HJ15.o; have := HK3.o; omega⟩, ⟨by (with_reducible repeat (first | apply Kd.S_alloc | apply Kd.S_drewN | apply Kd.S_drew)); exact Kd.S_mono HO_9.o (fun _ hk => trivial)⟩, ⟨zR HO_18⟩, ⟨zK BK393⟩, ⟨zK BK394⟩, ⟨zB HB⟩⟩
   ·rw [if_neg c12] at H
    have c12b0 : decide (x20_1 < (y398.length : Int)) = false := decide_eq_false c12
    clear c12
    obtain rfl := oI H
    go_wp2
    go_ret
    exact ⟨_, zE, by (with_reducible repeat (first | apply Kd.S_alloc | apply Kd.S_drewN | apply Kd.S_drew)); exact HO_9.o, zB HB⟩

-- NOT PRINTED: function 56 (slices_IndexFunc_int_int)

-- NOT PRINTED: function 39 (slices_ContainsFunc_int_int)

/-! ### slices_Equal_int_int: function 41 -/
def slices_Equal_int_int.l0 : Nat → List Int → List Int → Int → Int → Option (Bool)
 | 0, _, _, _, _ => none
 | k + 1, x0, x1, x12, x13 => if x13 < x12 then (if 0 ≤ x13 then (if x13 < (x0.length : Int) then (if x13 < (x1.length : Int) then (if (rd x0 x13) = (rd x1 x13) then (slices_Equal_int_int.l0 k x0 x1 x12 (wrap64 (x13 + 1))) else (some false)) else (none)) else (none)) else (none)) else (some true)
def slices_Equal_int_int.f (k : Nat) (l0 : List Int) (l1 : List Int) : Option (Bool) := if (l0.length : Int) = (l1.length : Int) then (slices_Equal_int_int.l0 k l0 l1 (l0.length : Int) 0) else (some false)
theorem slices_Equal_int_int.mono_l : ∀ k, (∀ y0 y1 y2 y3, LeO (slices_Equal_int_int.l0 k y0 y1 y2 y3) (slices_Equal_int_int.l0 (k + 1) y0 y1 y2 y3))
 | 0 => fun _ _ _ _ r h => by simp [slices_Equal_int_int.l0] at h
 | k + 1 => by
  have ih0 := slices_Equal_int_int.mono_l k
  ·intro y0 y1 y2 y3
   unfold slices_Equal_int_int.l0
   repeat' first
   | (with_reducible first | exact ih0 _ _ _ _ | exact LeO.refl _ | exact LeO.none _ | refine LeO.ite ?_ ?_ | refine LeO.bind ?_ (fun _ => ?_))
   | exact ih0 _ _ _ _
   | exact LeO.none _
   | refine LeO.ite ?_ ?_
   | refine LeO.bind ?_ (fun _ => ?_)
theorem slices_Equal_int_int.mono : ∀ a0 a1 k, LeO (slices_Equal_int_int.f k a0 a1) (slices_Equal_int_int.f (k + 1) a0 a1) := by
 intro a0 a1 k
 have ih0 := slices_Equal_int_int.mono_l k
 unfold slices_Equal_int_int.f
 repeat' first
   | (with_reducible first | exact ih0 _ _ _ _ | exact LeO.refl _ | exact LeO.none _ | refine LeO.ite ?_ ?_ | refine LeO.bind ?_ (fun _ => ?_))
   | exact ih0 _ _ _ _
   | exact LeO.none _
   | refine LeO.ite ?_ ?_
   | refine LeO.bind ?_ (fun _ => ?_)
set_option maxHeartbeats 8000000 in
set_option maxRecDepth 100000 in
theorem slices_Equal_int_int.calls (k : Nat) (A0 : Option Addr) (c0 : Nat) (l0 : List Int) (A1 : Option Addr) (c1 : Nat) (l1 : List Int) (r : Bool) (w : World) (hr0 : Kd.C (Kd.int .i64) w A0 l0.length l0) (hc0 : l0.length ≤ c0) (hr1 : Kd.C (Kd.int .i64) w A1 l1.length l1) (hc1 : l1.length ≤ c1) (h : slices_Equal_int_int.f k l0 l1 = some r) :
  Calls Try.prog 41 #[.slice A0 l0.length c0, .slice A1 l1.length c1] w fun e w' => e = .returned (.bool r) ∧ Drawn0 w w' := by
 have HR0 := aM hr0
 have HC0 := aM hc0
 clear hr0 hc0
 have HR1 := aM hr1
 have HC1 := aM hc1
 clear hr1 hc1
 have H : (if (l0.length : Int) = (l1.length : Int) then (slices_Equal_int_int.l0 k l0 l1 (l0.length : Int) 0) else (some false)) = some r := h
 clear h
 by_cases c3 : (l0.length : Int) = (l1.length : Int)
 ·rw [if_pos c3] at H
  have c3b0 : ((l0.length : Int) == (l1.length : Int)) = true := beq_iff_eq.mpr c3
  have c3b1 : ((l0.length : Int) != (l1.length : Int)) = false := bne_eq_false_iff_eq.mpr c3
  have c3b2 : (l0.length == l1.length) = true := by first | simpa using c3 | (simp at c3 ⊢; omega)
  clear c3
  have H' := aM H
  clear H
  go_enter Try.func41, Try.ntmps41
  go_wp2
  repeat (go_quiet (fail); try go_wp2)
  go_loopg [13] k (fun kq v13 w' => ∃ (x13_1 : Int), v13 = .int .i64 x13_1 ∧ Aside0 (slices_Equal_int_int.l0 kq l0 l1 (l0.length : Int) x13_1 = some r) ∧ Aside0 (kq ≤ k) ∧ Drawn0 w w')
  case atStart => exact ⟨(0), zF, H', ⟨Nat.le_refl _⟩, by repeat (first | exact Drawn0.refl _ | apply Drawn0.step)⟩
  case round =>
   clear H'
   try clear c1
   try clear p2
   try clear c3
   try clear c3b0
   try clear c3b1
   try clear c3b2
   obtain ⟨x13_1, rfl, HA, HK1, ⟨m1, rfl⟩⟩ := hrel
   cases gk with
   | zero => exact absurd HA.o (by simp [slices_Equal_int_int.l0])
   | succ k1 =>
    have H := HA.o
    clear HA
    simp only [slices_Equal_int_int.l0] at H
    by_cases c4 : x13_1 < (l0.length : Int)
    ·rw [if_pos c4] at H
     have c4b0 : decide (x13_1 < (l0.length : Int)) = true := dT c4
     clear c4
     obtain ⟨c5, H⟩ := ifS H
     have c5b0 : decide (0 ≤ x13_1) = true := dT c5
     clear c5
     obtain ⟨c6, H⟩ := ifS H
     have c6b0 : decide (x13_1 < (l0.length : Int)) = true := dT c6
     clear c6
     obtain ⟨c7, H⟩ := ifS H
     have c7b0 : decide (x13_1 < (l1.length : Int)) = true := dT c7
     clear c7
     by_cases c8 : (rd l0 x13_1) = (rd l1 x13_1)
     ·rw [if_pos c8] at H
      have c8b0 : ((rd l0 x13_1) == (rd l1 x13_1)) = true := beq_iff_eq.mpr c8
      have c8b1 : ((rd l0 x13_1) != (rd l1 x13_1)) = false := bne_eq_false_iff_eq.mpr c8
      clear c8
      have H' := aM H
      clear H
      have p419 : 0 ≤ (x13_1 : Int) := zD
      have q419 : x13_1 < (l0.length : Int) := zD
      obtain ⟨ad419, e419, hx419_0⟩ := Kd.at_int HR0.o x13_1 p419 q419
      cases e419
      replace p419 := eq_true p419
      replace q419 := eq_true q419
      have p420 : 0 ≤ (x13_1 : Int) := zD
      have q420 : x13_1 < (l1.length : Int) := zD
      obtain ⟨ad420, e420, hx420_0⟩ := Kd.at_int HR1.o x13_1 p420 q420
      cases e420
      replace p420 := eq_true p420
      replace q420 := eq_true q420
      go_wp2
      repeat (go_quiet (fail); try go_wp2)
      go_roundg k1
      case measure => have := HK1.o; omega
      case rel => exact ⟨(wrap64 (x13_1 + 1)), zF, H', ⟨by have := HK1.o; omega⟩, by repeat (first | exact Drawn0.refl _ | apply Drawn0.step)⟩
     ·rw [if_neg c8] at H
      have c8b0 : ((rd l0 x13_1) == (rd l1 x13_1)) = false := beq_eq_false_iff_ne.mpr c8
      have c8b1 : ((rd l0 x13_1) != (rd l1 x13_1)) = true := bne_iff_ne.mpr c8
      obtain rfl := oI H
      have p419 : 0 ≤ (x13_1 : Int) := zD
      have q419 : x13_1 < (l0.length : Int) := zD
      obtain ⟨ad419, e419, hx419_0⟩ := Kd.at_int HR0.o x13_1 p419 q419
      cases e419
      replace p419 := eq_true p419
      replace q419 := eq_true q419
      have p420 : 0 ≤ (x13_1 : Int) := zD
      have q420 : x13_1 < (l1.length : Int) := zD
      obtain ⟨ad420, e420, hx420_0⟩ := Kd.at_int HR1.o x13_1 p420 q420
      cases e420
      replace p420 := eq_true p420
      replace q420 := eq_true q420
      go_wp2
      repeat (go_quiet (fail); try go_wp2)
      go_ret
      exact ⟨by first | rfl | (simp; done) | (simp [*]; done), by repeat (first | exact Drawn0.refl _ | apply Drawn0.step)⟩
    ·rw [if_neg c4] at H
     have c4b0 : decide (x13_1 < (l0.length : Int)) = false := decide_eq_false c4
     clear c4
     obtain rfl := oI H
     go_wp2
     repeat (go_quiet (fail); try go_wp2)
     go_ret
     exact ⟨by first | rfl | (simp; done) | (simp [*]; done), by repeat (first | exact Drawn0.refl _ | apply Drawn0.step)⟩
 ·rw [if_neg c3] at H
  have c3b0 : ((l0.length : Int) == (l1.length : Int)) = false := beq_eq_false_iff_ne.mpr c3
  have c3b1 : ((l0.length : Int) != (l1.length : Int)) = true := bne_iff_ne.mpr c3
  have c3b2 : (l0.length == l1.length) = false := by first | simpa using c3 | (simp at c3 ⊢; omega)
  obtain rfl := oI H
  go_enter Try.func41, Try.ntmps41
  go_wp2
  repeat (go_quiet (fail); try go_wp2)
  go_ret
  exact ⟨by first | rfl | (simp; done) | (simp [*]; done), by repeat (first | exact Drawn0.refl _ | apply Drawn0.step)⟩

end Go.Proofs.Ytfibjclnaeocbaa.PFnPairs
