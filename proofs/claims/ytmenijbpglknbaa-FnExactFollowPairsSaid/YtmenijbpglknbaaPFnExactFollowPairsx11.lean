-- WRITTEN by pp.py, this session's own wrapper around the print; not trusted: Lean checks it
import Derived.Test.YtmenijbpglknbaaPFnExactFollowPairsx0
import Derived.Test.YtmenijbpglknbaaPFnExactFollowPairsx8
import Derived.Test.YtmenijbpglknbaaPFnExactFollowPairsx9
import Derived.Test.YtmenijbpglknbaaPFnExactFollowPairsx10
namespace Go.Proofs.Ytmenijbpglknbaa.PFnExactFollowPairs
open Go.RowKit Go.Proofs.Ytmenijbpglknbaa.Hw Go.Proofs.YtmenijbpglknbaaW.PrintWords Go.Proofs.YtmenijbpglknbaaW.PrintLast Go.Proofs.YtmenijbpglknbaaW.PrintMore
attribute [local go_sem] max2_int min2_int max_two min_two max_three min_three max_four min_four   -- for this text's walks alone
set_option linter.unusedVariables false
set_option linter.unusedSimpArgs false
set_option linter.unusedSectionVars false

/-! ### impl_FollowPairs_reach: functions 42 and 51 (by hand) -/
set_option maxRecDepth 100000 in
theorem impl_FollowPairs_reach.lit (k : Nat) (x y : Int) (a0_0 : Int) (A0_1 : Option Addr) (c0_1 : Nat) (l0_1 : List Bool) (A0_2 : Option Addr) (c0_2 : Nat) (l0_2 : List (S64)) (a1_0 : Int) (A1_1 : Option Addr) (c1_1 : Nat) (l1_1 : List Bool) (A1_2 : Option Addr) (c1_2 : Nat) (l1_2 : List (S64)) (r : List (List Int)) (W : World) (hr0_1 : Kd.C Kd.bool W A0_1 l0_1.length l0_1) (hc0_1 : l0_1.length ≤ c0_1) (hr0_2 : Kd.C k64 W A0_2 l0_2.length l0_2) (hc0_2 : l0_2.length ≤ c0_2) (hr1_1 : Kd.C Kd.bool W A1_1 l1_1.length l1_1) (hc1_1 : l1_1.length ≤ c1_1) (hr1_2 : Kd.C k64 W A1_2 l1_2.length l1_2) (hc1_2 : l1_2.length ≤ c1_2) {B0_ B1_ : Nat} (hB0_ : W.heap[B0_]? = some (.cells #[.int .i64 a0_0, .slice A0_1 l0_1.length c0_1, .slice A0_2 l0_2.length c0_2] 31 (0, 0))) (hB1_ : W.heap[B1_]? = some (.cells #[.int .i64 a1_0, .slice A1_1 l1_1.length c1_1, .slice A1_2 l1_2.length c1_2] 31 (0, 0))) (h : impl_nextFollowed.f k a0_0 l0_1 l0_2 a1_0 l1_1 l1_2 x y = some r) :
  Calls Try.prog 51 #[.int .i64 x, .int .i64 y, .pointer (some ⟨B0_, 0, none⟩), .pointer (some ⟨B1_, 0, none⟩)] W fun e w' => ∃ v0_ : Value, e = .returned (v0_) ∧ Kd.S (Kd.slice 3 (Kd.int .i64)) 38 w' W.heap.size (fun _ => True) v0_ r ∧ Below W.heap.size W w' := by
 have hcl0_0 : W.cell? ⟨B0_, 0, none⟩ = some (.int .i64 a0_0) := (blk_cell hB0_ 0).trans rfl
 have hcl0_1 : W.cell? ⟨B0_, 1, none⟩ = some (.slice A0_1 l0_1.length c0_1) := (blk_cell hB0_ 1).trans rfl
 have hcl0_2 : W.cell? ⟨B0_, 2, none⟩ = some (.slice A0_2 l0_2.length c0_2) := (blk_cell hB0_ 2).trans rfl
 have hbk0_ := blk_lt hB0_
 have hcl1_0 : W.cell? ⟨B1_, 0, none⟩ = some (.int .i64 a1_0) := (blk_cell hB1_ 0).trans rfl
 have hcl1_1 : W.cell? ⟨B1_, 1, none⟩ = some (.slice A1_1 l1_1.length c1_1) := (blk_cell hB1_ 1).trans rfl
 have hcl1_2 : W.cell? ⟨B1_, 2, none⟩ = some (.slice A1_2 l1_2.length c1_2) := (blk_cell hB1_ 2).trans rfl
 have hbk1_ := blk_lt hB1_
 have hu31 := Try.underlying31
 have HX := Aside0.mk (impl_nextFollowed.calls k a0_0 A0_1 c0_1 l0_1 A0_2 c0_2 l0_2 a1_0 A1_1 c1_1 l1_1 A1_2 c1_2 l1_2 x y r W hr0_1 hc0_1 hr0_2 hc0_2 hr1_1 hc1_1 hr1_2 hc1_2 h)
 clear h hr0_1 hc0_1 hr0_2 hc0_2 hr1_1 hc1_1 hr1_2 hc1_2
 go_enter Try.func51, Try.ntmps51
 go_wp2_with (go_at_call 52; refine HX.out.mono ?_; rintro e w' ⟨v_, rfl, hs, hb⟩)
 go_ret
 exact ⟨v_, rfl, hs, hb⟩
def impl_FollowPairs_reach.f (k : Nat) (a0_0 : Int) (l0_1 : List Bool) (l0_2 : List (S64)) (a1_0 : Int) (l1_1 : List Bool) (l1_2 : List (S64)) : Option (List (List Int)) := impl_reached.f (inst_ := ⟨fun k_ x_ y_ => impl_nextFollowed.f k_ a0_0 l0_1 l0_2 a1_0 l1_1 l1_2 x_ y_, fun x_ y_ k_ => impl_nextFollowed.mono a0_0 l0_1 l0_2 a1_0 l1_1 l1_2 x_ y_ k_⟩) k
theorem impl_FollowPairs_reach.mono : ∀ y0 y1 y2 y3 y4 y5 k, LeO (impl_FollowPairs_reach.f k y0 y1 y2 y3 y4 y5) (impl_FollowPairs_reach.f (k + 1) y0 y1 y2 y3 y4 y5) := fun y0 y1 y2 y3 y4 y5 => impl_reached.mono (inst_ := ⟨fun k_ x_ y_ => impl_nextFollowed.f k_ y0 y1 y2 y3 y4 y5 x_ y_, fun x_ y_ k_ => impl_nextFollowed.mono y0 y1 y2 y3 y4 y5 x_ y_ k_⟩)
theorem impl_FollowPairs_reach.calls (k : Nat) (a0_0 : Int) (A0_1 : Option Addr) (c0_1 : Nat) (l0_1 : List Bool) (A0_2 : Option Addr) (c0_2 : Nat) (l0_2 : List (S64)) (a1_0 : Int) (A1_1 : Option Addr) (c1_1 : Nat) (l1_1 : List Bool) (A1_2 : Option Addr) (c1_2 : Nat) (l1_2 : List (S64)) (r : List (List Int)) (w : World) (hr0_1 : Kd.C Kd.bool w A0_1 l0_1.length l0_1) (hc0_1 : l0_1.length ≤ c0_1) (hr0_2 : Kd.C k64 w A0_2 l0_2.length l0_2) (hc0_2 : l0_2.length ≤ c0_2) (hr1_1 : Kd.C Kd.bool w A1_1 l1_1.length l1_1) (hc1_1 : l1_1.length ≤ c1_1) (hr1_2 : Kd.C k64 w A1_2 l1_2.length l1_2) (hc1_2 : l1_2.length ≤ c1_2) {B0_ B1_ : Nat} (hB0_ : w.heap[B0_]? = some (.cells #[.int .i64 a0_0, .slice A0_1 l0_1.length c0_1, .slice A0_2 l0_2.length c0_2] 31 (0, 0))) (hB1_ : w.heap[B1_]? = some (.cells #[.int .i64 a1_0, .slice A1_1 l1_1.length c1_1, .slice A1_2 l1_2.length c1_2] 31 (0, 0))) (h : impl_FollowPairs_reach.f k a0_0 l0_1 l0_2 a1_0 l1_1 l1_2 = some r) :
  Calls Try.prog 42 #[.func (.func 51) #[] #[.pointer (some ⟨B0_, 0, none⟩), .pointer (some ⟨B1_, 0, none⟩)]] w fun e w' => ∃ v0_ : Value, e = .returned (v0_) ∧ Kd.S (Kd.slice 3 (Kd.int .i64)) 38 w' w.heap.size (fun _ => True) v0_ r ∧ Below w.heap.size w w' :=
 impl_reached.calls (inst_ := ⟨fun k_ x_ y_ => impl_nextFollowed.f k_ a0_0 l0_1 l0_2 a1_0 l1_1 l1_2 x_ y_, fun x_ y_ k_ => impl_nextFollowed.mono a0_0 l0_1 l0_2 a1_0 l1_1 l1_2 x_ y_ k_⟩) k r w Try.func51 (by kernel_rfl) rfl (lb_ := #[.pointer (some ⟨B0_, 0, none⟩), .pointer (some ⟨B1_, 0, none⟩)]) (fun k x y r W hb hf => impl_FollowPairs_reach.lit k x y a0_0 A0_1 c0_1 l0_1 A0_2 c0_2 l0_2 a1_0 A1_1 c1_1 l1_1 A1_2 c1_2 l1_2 r W (Kd.C_below hr0_1 hb) hc0_1 (Kd.C_below hr0_2 hb) hc0_2 (Kd.C_below hr1_1 hb) hc1_1 (Kd.C_below hr1_2 hb) hc1_2 (blk_below hB0_ hb) (blk_below hB1_ hb) hf) h
/-! ### impl_FollowPairs: function 19 -/
def impl_FollowPairs.f (k : Nat) (a0_0 : Int) (l0_1 : List Bool) (l0_2 : List (S64)) (a1_0 : Int) (l1_1 : List Bool) (l1_2 : List (S64)) : Option ((List (List Int))) := (impl_IsMachine.f k a0_0 l0_1 l0_2).bind fun t327 => (if t327 = true then ((impl_IsMachine.f k a1_0 l1_1 l1_2).bind fun t328 => (if t328 = true then ((impl_FollowPairs_reach.f k a0_0 l0_1 l0_2 a1_0 l1_1 l1_2).bind fun t329 => (some t329)) else (some ([] : List (List Int))))) else (some ([] : List (List Int))))
theorem impl_FollowPairs.mono : ∀ a0 a1 a2 a3 a4 a5 k, LeO (impl_FollowPairs.f k a0 a1 a2 a3 a4 a5) (impl_FollowPairs.f (k + 1) a0 a1 a2 a3 a4 a5) := by
 intro a0 a1 a2 a3 a4 a5 k
 unfold impl_FollowPairs.f
 repeat' first
   | (with_reducible exact impl_FollowPairs_reach.mono _ _ _ _ _ _ _)
   | (with_reducible exact impl_IsMachine.mono _ _ _ _)
   | (with_reducible exact LeO.refl _)
   | (with_reducible exact LeO.none _)
   | (with_reducible refine LeO.ite ?_ ?_)
   | (with_reducible refine LeO.bind ?_ (fun _ => ?_))
   | exact impl_FollowPairs_reach.mono _ _ _ _ _ _ _
   | exact impl_IsMachine.mono _ _ _ _
   | exact LeO.none _
   | refine LeO.ite ?_ ?_
   | refine LeO.bind ?_ (fun _ => ?_)
set_option maxHeartbeats 8000000 in
set_option maxRecDepth 100000 in
theorem impl_FollowPairs.calls (k : Nat) (a0_0 : Int) (A0_1 : Option Addr) (c0_1 : Nat) (l0_1 : List Bool) (A0_2 : Option Addr) (c0_2 : Nat) (l0_2 : List (S64)) (a1_0 : Int) (A1_1 : Option Addr) (c1_1 : Nat) (l1_1 : List Bool) (A1_2 : Option Addr) (c1_2 : Nat) (l1_2 : List (S64)) (r : List (List Int)) (w : World) (hr0_1 : Kd.C Kd.bool w A0_1 l0_1.length l0_1) (hc0_1 : l0_1.length ≤ c0_1) (hr0_2 : Kd.C k64 w A0_2 l0_2.length l0_2) (hc0_2 : l0_2.length ≤ c0_2) (hr1_1 : Kd.C Kd.bool w A1_1 l1_1.length l1_1) (hc1_1 : l1_1.length ≤ c1_1) (hr1_2 : Kd.C k64 w A1_2 l1_2.length l1_2) (hc1_2 : l1_2.length ≤ c1_2) (h : impl_FollowPairs.f k a0_0 l0_1 l0_2 a1_0 l1_1 l1_2 = some r) :
  Calls Try.prog 19 #[.agg #[.int .i64 a0_0, .slice A0_1 l0_1.length c0_1, .slice A0_2 l0_2.length c0_2], .agg #[.int .i64 a1_0, .slice A1_1 l1_1.length c1_1, .slice A1_2 l1_2.length c1_2]] w fun e w' => ∃ v0_ : Value, e = .returned (v0_) ∧ Kd.S (Kd.slice 3 (Kd.int .i64)) 38 w' w.heap.size (fun _ => True) v0_ r ∧ Below w.heap.size w w' := by
 have hu31 := Try.underlying31
 have HR0_1 := Aside0.mk hr0_1
 have HC0_1 := Aside0.mk hc0_1
 clear hr0_1 hc0_1
 have HR0_2 := Aside0.mk hr0_2
 have HC0_2 := Aside0.mk hc0_2
 clear hr0_2 hc0_2
 have HR1_1 := Aside0.mk hr1_1
 have HC1_1 := Aside0.mk hc1_1
 clear hr1_1 hc1_1
 have HR1_2 := Aside0.mk hr1_2
 have HC1_2 := Aside0.mk hc1_2
 clear hr1_2 hc1_2
 have HB := Aside0.mk (Below.refl w.heap.size w)
 have H : ((impl_IsMachine.f k a0_0 l0_1 l0_2).bind fun t327 => (if t327 = true then ((impl_IsMachine.f k a1_0 l1_1 l1_2).bind fun t328 => (if t328 = true then ((impl_FollowPairs_reach.f k a0_0 l0_1 l0_2 a1_0 l1_1 l1_2).bind fun t329 => (some t329)) else (some ([] : List (List Int))))) else (some ([] : List (List Int))))) = some r := h
 clear h
 obtain ⟨t327, A3, H⟩ := bindS H
 by_cases c4 : t327 = true
 ·subst c4
  have H1 : ((impl_IsMachine.f k a1_0 l1_1 l1_2).bind fun t328 => (if t328 = true then ((impl_FollowPairs_reach.f k a0_0 l0_1 l0_2 a1_0 l1_1 l1_2).bind fun t329 => (some t329)) else (some ([] : List (List Int))))) = some r := by rw [if_pos rfl] at H; exact H
  clear H
  have H := H1
  clear H1
  obtain ⟨t328, A5, H⟩ := bindS H
  by_cases c6 : t328 = true
  ·subst c6
   have H1 : ((impl_FollowPairs_reach.f k a0_0 l0_1 l0_2 a1_0 l1_1 l1_2).bind fun t329 => (some t329)) = some r := by rw [if_pos rfl] at H; exact H
   clear H
   have H := H1
   clear H1
   obtain ⟨t329, A7, H⟩ := bindS H
   obtain rfl := Option.some.inj H
   go_enter Try.func19, Try.ntmps19
   go_wp2_with (first | ((with_reducible refine gate_dst (N := 2) rfl ?_); refine box_event ?hg (N := 2) ?hd (cs := #[.int .i64 a0_0, .slice A0_1 l0_1.length c0_1, .slice A0_2 l0_2.length c0_2]) (t := 31) ?hr ?_; (case hd => rfl); (case hg => rfl); (case hr => first | (go_simp; done) | (go_simp; rfl)); intro gb325 hg w8 hbox hb; have BK325 := Aside0.mk (hbox); have GW325 := gS HB hg; have GE325 := gS HB hg; replace HB := bS HB hb; clear hb hbox hg) | ((with_reducible refine gate_dst (N := 3) rfl ?_); refine box_event ?hg (N := 3) ?hd (cs := #[.int .i64 a1_0, .slice A1_1 l1_1.length c1_1, .slice A1_2 l1_2.length c1_2]) (t := 31) ?hr ?_; (case hd => rfl); (case hg => rfl); (case hr => first | (go_simp; done) | (go_simp; rfl)); intro gb326 hg w9 hbox hb; have BK326 := Aside0.mk (hbox); have GW326 := gS HB hg; have GE326 := gS HB hg; replace HB := bS HB hb; have NB325_326 := nL BK325 hg; have NB326_325 := nR BK325 hg; replace BK325 := kB BK325 hb; clear hb hbox hg; have hnb10 := NB325_326.out; have hnc10 := NB326_325.out; have hcz11_0 := bc0 BK325; have hcz11_1 := bc1 BK325; have hcz11_2 := bc2 BK325; have hfz11_0 := bf BK325 0; have hfz11_1 := bf BK325 1; have hfz11_2 := bf BK325 2) | ((with_reducible refine gate_callee (f := 41) rfl ?_); refine goesL_ (some 6) rfl rfl Try.func41 (by kernel_rfl) rfl #[.agg #[.int .i64 a0_0, .slice A0_1 l0_1.length c0_1, .slice A0_2 l0_2.length c0_2]] rfl zG ?_; (with_reducible refine (impl_IsMachine.calls k a0_0 _ _ l0_1 _ _ l0_2 true _ ?side1 ?side2 ?side3 ?side4 A3.out).mono ?_); (case side1 => exact cS HR0_1 HB); (case side2 => exact HC0_1.out); (case side3 => exact cS HR0_2 HB); (case side4 => exact HC0_2.out); rintro e w12 ⟨rfl, hb⟩; refine ⟨_, rfl, ?_⟩; replace BK325 := kB BK325 hb; replace BK326 := kB BK326 hb; replace HB := bS HB hb; (try clear hb); have hcz13_0 := bc0 BK326; have hcz13_1 := bc1 BK326; have hcz13_2 := bc2 BK326; have hfz13_0 := bf BK326 0; have hfz13_1 := bf BK326 1; have hfz13_2 := bf BK326 2) | (go_at_call 41; (with_reducible refine (impl_IsMachine.calls k a1_0 _ _ l1_1 _ _ l1_2 true _ ?side1 ?side2 ?side3 ?side4 A5.out).mono ?_); (case side1 => exact cS HR1_1 HB); (case side2 => exact HC1_1.out); (case side3 => exact cS HR1_2 HB); (case side4 => exact HC1_2.out); rintro e w14 ⟨rfl, hb⟩; replace BK325 := kB BK325 hb; replace BK326 := kB BK326 hb; replace HB := bS HB hb; (try clear hb)) | ((with_reducible refine gate_callee (f := 42) rfl ?_); refine goesL_ (some 14) rfl rfl Try.func42 (by kernel_rfl) rfl #[.func (.func 51) #[] #[.pointer (some ⟨gb325, 0, none⟩), .pointer (some ⟨gb326, 0, none⟩)]] rfl zG ?_; (with_reducible refine (impl_FollowPairs_reach.calls k a0_0 A0_1 c0_1 l0_1 A0_2 c0_2 l0_2 a1_0 A1_1 c1_1 l1_1 A1_2 c1_2 l1_2 t329 _ ?side1 ?side2 ?side3 ?side4 ?side5 ?side6 ?side7 ?side8 ?side9 ?side10 A7.out).mono ?_); (case side1 => exact cS HR0_1 HB); (case side2 => exact HC0_1.out); (case side3 => exact cS HR0_2 HB); (case side4 => exact HC0_2.out); (case side5 => exact cS HR1_1 HB); (case side6 => exact HC1_1.out); (case side7 => exact cS HR1_2 HB); (case side8 => exact HC1_2.out); (case side9 => exact (fun h_ => h_) (zK BK325)); (case side10 => exact (fun h_ => h_) (zK BK326)); rintro e w15 ⟨v330, rfl, ho0, hb⟩; refine ⟨_, rfl, ?_⟩; have HO331 := Aside0.mk (Kd.S_lower ho0 (below_size (zB HB))); replace BK325 := kB BK325 hb; replace BK326 := kB BK326 hb; replace HB := bS HB hb; (try clear hb); (try clear ho0)))
   go_ret
   exact ⟨_, zE, by (with_reducible repeat (first | apply Kd.S_alloc | apply Kd.S_drewN | apply Kd.S_drew)); exact HO331.out, zB HB⟩
  ·replace c6 := Bool.eq_false_iff.mpr c6
   subst c6
   have H1 : (some ([] : List (List Int))) = some r := by rw [if_neg (show ¬ (false = true) by decide)] at H; exact H
   clear H
   have H := H1
   clear H1
   obtain rfl := Option.some.inj H
   go_enter Try.func19, Try.ntmps19
   go_wp2_with (first | ((with_reducible refine gate_dst (N := 2) rfl ?_); refine box_event ?hg (N := 2) ?hd (cs := #[.int .i64 a0_0, .slice A0_1 l0_1.length c0_1, .slice A0_2 l0_2.length c0_2]) (t := 31) ?hr ?_; (case hd => rfl); (case hg => rfl); (case hr => first | (go_simp; done) | (go_simp; rfl)); intro gb325 hg w16 hbox hb; have BK325 := Aside0.mk (hbox); have GW325 := gS HB hg; have GE325 := gS HB hg; replace HB := bS HB hb; clear hb hbox hg) | ((with_reducible refine gate_dst (N := 3) rfl ?_); refine box_event ?hg (N := 3) ?hd (cs := #[.int .i64 a1_0, .slice A1_1 l1_1.length c1_1, .slice A1_2 l1_2.length c1_2]) (t := 31) ?hr ?_; (case hd => rfl); (case hg => rfl); (case hr => first | (go_simp; done) | (go_simp; rfl)); intro gb326 hg w17 hbox hb; have BK326 := Aside0.mk (hbox); have GW326 := gS HB hg; have GE326 := gS HB hg; replace HB := bS HB hb; have NB325_326 := nL BK325 hg; have NB326_325 := nR BK325 hg; replace BK325 := kB BK325 hb; clear hb hbox hg; have hnb18 := NB325_326.out; have hnc18 := NB326_325.out; have hcz19_0 := bc0 BK325; have hcz19_1 := bc1 BK325; have hcz19_2 := bc2 BK325; have hfz19_0 := bf BK325 0; have hfz19_1 := bf BK325 1; have hfz19_2 := bf BK325 2) | ((with_reducible refine gate_callee (f := 41) rfl ?_); refine goesL_ (some 6) rfl rfl Try.func41 (by kernel_rfl) rfl #[.agg #[.int .i64 a0_0, .slice A0_1 l0_1.length c0_1, .slice A0_2 l0_2.length c0_2]] rfl zG ?_; (with_reducible refine (impl_IsMachine.calls k a0_0 _ _ l0_1 _ _ l0_2 true _ ?side1 ?side2 ?side3 ?side4 A3.out).mono ?_); (case side1 => exact cS HR0_1 HB); (case side2 => exact HC0_1.out); (case side3 => exact cS HR0_2 HB); (case side4 => exact HC0_2.out); rintro e w20 ⟨rfl, hb⟩; refine ⟨_, rfl, ?_⟩; replace BK325 := kB BK325 hb; replace BK326 := kB BK326 hb; replace HB := bS HB hb; (try clear hb); have hcz21_0 := bc0 BK326; have hcz21_1 := bc1 BK326; have hcz21_2 := bc2 BK326; have hfz21_0 := bf BK326 0; have hfz21_1 := bf BK326 1; have hfz21_2 := bf BK326 2) | (go_at_call 41; (with_reducible refine (impl_IsMachine.calls k a1_0 _ _ l1_1 _ _ l1_2 false _ ?side1 ?side2 ?side3 ?side4 A5.out).mono ?_); (case side1 => exact cS HR1_1 HB); (case side2 => exact HC1_1.out); (case side3 => exact cS HR1_2 HB); (case side4 => exact HC1_2.out); rintro e w22 ⟨rfl, hb⟩; replace BK325 := kB BK325 hb; replace BK326 := kB BK326 hb; replace HB := bS HB hb; (try clear hb)))
   go_ret
   exact ⟨_, zE, by first | exact Kd.S_nil _ _ _ _ _ | exact Kd.N_nil _ _ _ _ _ | exact Kd.V_nil _ _ _ _ _ | exact Kd.Q_nil _ _ _ _ _ | exact Kd.R_nil _ _ _ _ _, zB HB⟩
 ·replace c4 := Bool.eq_false_iff.mpr c4
  subst c4
  have H1 : (some ([] : List (List Int))) = some r := by rw [if_neg (show ¬ (false = true) by decide)] at H; exact H
  clear H
  have H := H1
  clear H1
  obtain rfl := Option.some.inj H
  go_enter Try.func19, Try.ntmps19
  go_wp2_with (first | ((with_reducible refine gate_dst (N := 2) rfl ?_); refine box_event ?hg (N := 2) ?hd (cs := #[.int .i64 a0_0, .slice A0_1 l0_1.length c0_1, .slice A0_2 l0_2.length c0_2]) (t := 31) ?hr ?_; (case hd => rfl); (case hg => rfl); (case hr => first | (go_simp; done) | (go_simp; rfl)); intro gb325 hg w23 hbox hb; have BK325 := Aside0.mk (hbox); have GW325 := gS HB hg; have GE325 := gS HB hg; replace HB := bS HB hb; clear hb hbox hg) | ((with_reducible refine gate_dst (N := 3) rfl ?_); refine box_event ?hg (N := 3) ?hd (cs := #[.int .i64 a1_0, .slice A1_1 l1_1.length c1_1, .slice A1_2 l1_2.length c1_2]) (t := 31) ?hr ?_; (case hd => rfl); (case hg => rfl); (case hr => first | (go_simp; done) | (go_simp; rfl)); intro gb326 hg w24 hbox hb; have BK326 := Aside0.mk (hbox); have GW326 := gS HB hg; have GE326 := gS HB hg; replace HB := bS HB hb; have NB325_326 := nL BK325 hg; have NB326_325 := nR BK325 hg; replace BK325 := kB BK325 hb; clear hb hbox hg; have hnb25 := NB325_326.out; have hnc25 := NB326_325.out; have hcz26_0 := bc0 BK325; have hcz26_1 := bc1 BK325; have hcz26_2 := bc2 BK325; have hfz26_0 := bf BK325 0; have hfz26_1 := bf BK325 1; have hfz26_2 := bf BK325 2) | ((with_reducible refine gate_callee (f := 41) rfl ?_); refine goesL_ (some 6) rfl rfl Try.func41 (by kernel_rfl) rfl #[.agg #[.int .i64 a0_0, .slice A0_1 l0_1.length c0_1, .slice A0_2 l0_2.length c0_2]] rfl zG ?_; (with_reducible refine (impl_IsMachine.calls k a0_0 _ _ l0_1 _ _ l0_2 false _ ?side1 ?side2 ?side3 ?side4 A3.out).mono ?_); (case side1 => exact cS HR0_1 HB); (case side2 => exact HC0_1.out); (case side3 => exact cS HR0_2 HB); (case side4 => exact HC0_2.out); rintro e w27 ⟨rfl, hb⟩; refine ⟨_, rfl, ?_⟩; replace BK325 := kB BK325 hb; replace BK326 := kB BK326 hb; replace HB := bS HB hb; (try clear hb)))
  go_ret
  exact ⟨_, zE, by first | exact Kd.S_nil _ _ _ _ _ | exact Kd.N_nil _ _ _ _ _ | exact Kd.V_nil _ _ _ _ _ | exact Kd.Q_nil _ _ _ _ _ | exact Kd.R_nil _ _ _ _ _, zB HB⟩

end Go.Proofs.Ytmenijbpglknbaa.PFnExactFollowPairs
