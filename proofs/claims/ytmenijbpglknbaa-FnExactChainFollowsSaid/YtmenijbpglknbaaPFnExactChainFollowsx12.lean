-- WRITTEN by pp.py, this session's own wrapper around the print; not trusted: Lean checks it
import Derived.Test.YtmenijbpglknbaaPFnExactChainFollowsx0
import Derived.Test.YtmenijbpglknbaaPFnExactChainFollowsx8
import Derived.Test.YtmenijbpglknbaaPFnExactChainFollowsx9
import Derived.Test.YtmenijbpglknbaaPFnExactChainFollowsx10
import Derived.Test.YtmenijbpglknbaaPFnExactChainFollowsx11
namespace Go.Proofs.Ytmenijbpglknbaa.PFnExactChainFollows
open Go.RowKit Go.Proofs.Ytmenijbpglknbaa.Hw Go.Proofs.YtmenijbpglknbaaW.PrintWords Go.Proofs.YtmenijbpglknbaaW.PrintLast Go.Proofs.YtmenijbpglknbaaW.PrintMore
attribute [local go_sem] max2_int min2_int max_two min_two max_three min_three max_four min_four   -- for this text's walks alone
set_option linter.unusedVariables false
set_option linter.unusedSimpArgs false
set_option linter.unusedSectionVars false

/-! ### impl_FollowPairs_reach: functions 42 and 51 (by hand) -/
set_option maxRecDepth 100000 in
theorem impl_FollowPairs_reach.lit (k : Nat) (x y : Int) (a0_0 : Int) (A0_1 : Option Addr) (c0_1 : Nat) (l0_1 : List Bool) (A0_2 : Option Addr) (c0_2 : Nat) (l0_2 : List (S64)) (a1_0 : Int) (A1_1 : Option Addr) (c1_1 : Nat) (l1_1 : List Bool) (A1_2 : Option Addr) (c1_2 : Nat) (l1_2 : List (S64)) (r : List (List Int)) (W : World) (hr0_1 : Kd.C Kd.bool W A0_1 l0_1.length l0_1) (hc0_1 : l0_1.length ≤ c0_1) (hr0_2 : Kd.C k64 W A0_2 l0_2.length l0_2) (hc0_2 : l0_2.length ≤ c0_2) (hr1_1 : Kd.C Kd.bool W A1_1 l1_1.length l1_1) (hc1_1 : l1_1.length ≤ c1_1) (hr1_2 : Kd.C k64 W A1_2 l1_2.length l1_2) (hc1_2 : l1_2.length ≤ c1_2) {B0_ B1_ : Nat} (hB0_ : W.heap[B0_]? = some (.cells #[.int .i64 a0_0, .slice A0_1 l0_1.length c0_1, .slice A0_2 l0_2.length c0_2] 31 (0, 0))) (hB1_ : W.heap[B1_]? = some (.cells #[.int .i64 a1_0, .slice A1_1 l1_1.length c1_1, .slice A1_2 l1_2.length c1_2] 31 (0, 0))) (h : impl_nextFollowed.f k a0_0 l0_1 l0_2 a1_0 l1_1 l1_2 x y = some r) :
  Calls Try.prog 51 #[.int .i64 x, .int .i64 y, .pointer (some ⟨B0_, 0, none⟩), .pointer (some ⟨B1_, 0, none⟩)] W fun e w' => ∃ v0_ : Value, e = .returned (v0_) ∧ Kd.S (Kd.slice 3 (Kd.int .i64)) 38 w' W.heap.size (fun _ => True) v0_ r ∧ Below W.heap.size W w' := by
 have hcl0_0 : W.cell? ⟨B0_, 0, none⟩ = some (.int .i64 a0_0) := (blk_cell hB0_ 0).trans rfl
 have hcl0_1 : W.cell? ⟨B0_, 1, none⟩ = some (.slice A0_1 l0_1.length c0_1) := (blk_cell hB0_ 1).trans rfl
 have hcl0_2 : W.cell? ⟨B0_, 2, none⟩ = some (.slice A0_2 l0_2.length c0_2) := (blk_cell hB0_ 2).trans rfl
 have hbk0_ := blk_lt hB0_
 have hcl1_0 : W.cell? ⟨B1_, 0, none⟩ = some (.int .i64 a1_0) := (blk_cell hB1_ 0).trans rfl
 have hcl1_1 : W.cell? ⟨B1_, 1, none⟩ = some (.slice A1_1 l1_1.length c1_1) := (blk_cell hB1_ 1).trans rfl
 have hcl1_2 : W.cell? ⟨B1_, 2, none⟩ = some (.slice A1_2 l1_2.length c1_2) := (blk_cell hB1_ 2).trans rfl
 have hbk1_ := blk_lt hB1_
 have hu31 := Try.underlying31
 have HX := Aside0.mk (impl_nextFollowed.calls k a0_0 A0_1 c0_1 l0_1 A0_2 c0_2 l0_2 a1_0 A1_1 c1_1 l1_1 A1_2 c1_2 l1_2 x y r W hr0_1 hc0_1 hr0_2 hc0_2 hr1_1 hc1_1 hr1_2 hc1_2 h)
 clear h hr0_1 hc0_1 hr0_2 hc0_2 hr1_1 hc1_1 hr1_2 hc1_2
 go_enter Try.func51, Try.ntmps51
 go_wp2_with (go_at_call 52; refine HX.out.mono ?_; rintro e w' ⟨v_, rfl, hs, hb⟩)
 go_ret
 exact ⟨v_, rfl, hs, hb⟩
def impl_FollowPairs_reach.f (k : Nat) (a0_0 : Int) (l0_1 : List Bool) (l0_2 : List (S64)) (a1_0 : Int) (l1_1 : List Bool) (l1_2 : List (S64)) : Option (List (List Int)) := impl_reached.f (inst_ := ⟨fun k_ x_ y_ => impl_nextFollowed.f k_ a0_0 l0_1 l0_2 a1_0 l1_1 l1_2 x_ y_, fun x_ y_ k_ => impl_nextFollowed.mono a0_0 l0_1 l0_2 a1_0 l1_1 l1_2 x_ y_ k_⟩) k
theorem impl_FollowPairs_reach.mono : ∀ y0 y1 y2 y3 y4 y5 k, LeO (impl_FollowPairs_reach.f k y0 y1 y2 y3 y4 y5) (impl_FollowPairs_reach.f (k + 1) y0 y1 y2 y3 y4 y5) := fun y0 y1 y2 y3 y4 y5 => impl_reached.mono (inst_ := ⟨fun k_ x_ y_ => impl_nextFollowed.f k_ y0 y1 y2 y3 y4 y5 x_ y_, fun x_ y_ k_ => impl_nextFollowed.mono y0 y1 y2 y3 y4 y5 x_ y_ k_⟩)
theorem impl_FollowPairs_reach.calls (k : Nat) (a0_0 : Int) (A0_1 : Option Addr) (c0_1 : Nat) (l0_1 : List Bool) (A0_2 : Option Addr) (c0_2 : Nat) (l0_2 : List (S64)) (a1_0 : Int) (A1_1 : Option Addr) (c1_1 : Nat) (l1_1 : List Bool) (A1_2 : Option Addr) (c1_2 : Nat) (l1_2 : List (S64)) (r : List (List Int)) (w : World) (hr0_1 : Kd.C Kd.bool w A0_1 l0_1.length l0_1) (hc0_1 : l0_1.length ≤ c0_1) (hr0_2 : Kd.C k64 w A0_2 l0_2.length l0_2) (hc0_2 : l0_2.length ≤ c0_2) (hr1_1 : Kd.C Kd.bool w A1_1 l1_1.length l1_1) (hc1_1 : l1_1.length ≤ c1_1) (hr1_2 : Kd.C k64 w A1_2 l1_2.length l1_2) (hc1_2 : l1_2.length ≤ c1_2) {B0_ B1_ : Nat} (hB0_ : w.heap[B0_]? = some (.cells #[.int .i64 a0_0, .slice A0_1 l0_1.length c0_1, .slice A0_2 l0_2.length c0_2] 31 (0, 0))) (hB1_ : w.heap[B1_]? = some (.cells #[.int .i64 a1_0, .slice A1_1 l1_1.length c1_1, .slice A1_2 l1_2.length c1_2] 31 (0, 0))) (h : impl_FollowPairs_reach.f k a0_0 l0_1 l0_2 a1_0 l1_1 l1_2 = some r) :
  Calls Try.prog 42 #[.func (.func 51) #[] #[.pointer (some ⟨B0_, 0, none⟩), .pointer (some ⟨B1_, 0, none⟩)]] w fun e w' => ∃ v0_ : Value, e = .returned (v0_) ∧ Kd.S (Kd.slice 3 (Kd.int .i64)) 38 w' w.heap.size (fun _ => True) v0_ r ∧ Below w.heap.size w w' :=
 impl_reached.calls (inst_ := ⟨fun k_ x_ y_ => impl_nextFollowed.f k_ a0_0 l0_1 l0_2 a1_0 l1_1 l1_2 x_ y_, fun x_ y_ k_ => impl_nextFollowed.mono a0_0 l0_1 l0_2 a1_0 l1_1 l1_2 x_ y_ k_⟩) k r w Try.func51 (by kernel_rfl) rfl (lb_ := #[.pointer (some ⟨B0_, 0, none⟩), .pointer (some ⟨B1_, 0, none⟩)]) (fun k x y r W hb hf => impl_FollowPairs_reach.lit k x y a0_0 A0_1 c0_1 l0_1 A0_2 c0_2 l0_2 a1_0 A1_1 c1_1 l1_1 A1_2 c1_2 l1_2 r W (Kd.C_below hr0_1 hb) hc0_1 (Kd.C_below hr0_2 hb) hc0_2 (Kd.C_below hr1_1 hb) hc1_1 (Kd.C_below hr1_2 hb) hc1_2 (blk_below hB0_ hb) (blk_below hB1_ hb) hf) h
/-! ### impl_FollowPairs: function 19 -/
def impl_FollowPairs.f (k : Nat) (a0_0 : Int) (l0_1 : List Bool) (l0_2 : List (S64)) (a1_0 : Int) (l1_1 : List Bool) (l1_2 : List (S64)) : Option ((List (List Int))) := (impl_IsMachine.f k a0_0 l0_1 l0_2).bind fun t352 => (if t352 = true then ((impl_IsMachine.f k a1_0 l1_1 l1_2).bind fun t353 => (if t353 = true then ((impl_FollowPairs_reach.f k a0_0 l0_1 l0_2 a1_0 l1_1 l1_2).bind fun t354 => (some t354)) else (some ([] : List (List Int))))) else (some ([] : List (List Int))))
theorem impl_FollowPairs.mono : ∀ a0 a1 a2 a3 a4 a5 k, LeO (impl_FollowPairs.f k a0 a1 a2 a3 a4 a5) (impl_FollowPairs.f (k + 1) a0 a1 a2 a3 a4 a5) := by
 intro a0 a1 a2 a3 a4 a5 k
 unfold impl_FollowPairs.f
 repeat' first
   | (with_reducible exact impl_FollowPairs_reach.mono _ _ _ _ _ _ _)
   | (with_reducible exact impl_IsMachine.mono _ _ _ _)
   | (with_reducible exact LeO.refl _)
   | (with_reducible exact LeO.none _)
   | (with_reducible refine LeO.ite ?_ ?_)
   | (with_reducible refine LeO.bind ?_ (fun _ => ?_))
   | exact impl_FollowPairs_reach.mono _ _ _ _ _ _ _
   | exact impl_IsMachine.mono _ _ _ _
   | exact LeO.none _
   | refine LeO.ite ?_ ?_
   | refine LeO.bind ?_ (fun _ => ?_)
set_option maxHeartbeats 8000000 in
set_option maxRecDepth 100000 in
theorem impl_FollowPairs.calls (k : Nat) (a0_0 : Int) (A0_1 : Option Addr) (c0_1 : Nat) (l0_1 : List Bool) (A0_2 : Option Addr) (c0_2 : Nat) (l0_2 : List (S64)) (a1_0 : Int) (A1_1 : Option Addr) (c1_1 : Nat) (l1_1 : List Bool) (A1_2 : Option Addr) (c1_2 : Nat) (l1_2 : List (S64)) (r : List (List Int)) (w : World) (hr0_1 : Kd.C Kd.bool w A0_1 l0_1.length l0_1) (hc0_1 : l0_1.length ≤ c0_1) (hr0_2 : Kd.C k64 w A0_2 l0_2.length l0_2) (hc0_2 : l0_2.length ≤ c0_2) (hr1_1 : Kd.C Kd.bool w A1_1 l1_1.length l1_1) (hc1_1 : l1_1.length ≤ c1_1) (hr1_2 : Kd.C k64 w A1_2 l1_2.length l1_2) (hc1_2 : l1_2.length ≤ c1_2) (h : impl_FollowPairs.f k a0_0 l0_1 l0_2 a1_0 l1_1 l1_2 = some r) :
  Calls Try.prog 19 #[.agg #[.int .i64 a0_0, .slice A0_1 l0_1.length c0_1, .slice A0_2 l0_2.length c0_2], .agg #[.int .i64 a1_0, .slice A1_1 l1_1.length c1_1, .slice A1_2 l1_2.length c1_2]] w fun e w' => ∃ v0_ : Value, e = .returned (v0_) ∧ Kd.S (Kd.slice 3 (Kd.int .i64)) 38 w' w.heap.size (fun _ => True) v0_ r ∧ Below w.heap.size w w' := by
 have hu31 := Try.underlying31
 have HR0_1 := Aside0.mk hr0_1
 have HC0_1 := Aside0.mk hc0_1
 clear hr0_1 hc0_1
 have HR0_2 := Aside0.mk hr0_2
 have HC0_2 := Aside0.mk hc0_2
 clear hr0_2 hc0_2
 have HR1_1 := Aside0.mk hr1_1
 have HC1_1 := Aside0.mk hc1_1
 clear hr1_1 hc1_1
 have HR1_2 := Aside0.mk hr1_2
 have HC1_2 := Aside0.mk hc1_2
 clear hr1_2 hc1_2
 have HB := Aside0.mk (Below.refl w.heap.size w)
 have H : ((impl_IsMachine.f k a0_0 l0_1 l0_2).bind fun t352 => (if t352 = true then ((impl_IsMachine.f k a1_0 l1_1 l1_2).bind fun t353 => (if t353 = true then ((impl_FollowPairs_reach.f k a0_0 l0_1 l0_2 a1_0 l1_1 l1_2).bind fun t354 => (some t354)) else (some ([] : List (List Int))))) else (some ([] : List (List Int))))) = some r := h
 clear h
 obtain ⟨t352, A3, H⟩ := bindS H
 by_cases c4 : t352 = true
 ·subst c4
  have H1 : ((impl_IsMachine.f k a1_0 l1_1 l1_2).bind fun t353 => (if t353 = true then ((impl_FollowPairs_reach.f k a0_0 l0_1 l0_2 a1_0 l1_1 l1_2).bind fun t354 => (some t354)) else (some ([] : List (List Int))))) = some r := by rw [if_pos rfl] at H; exact H
  clear H
  have H := H1
  clear H1
  obtain ⟨t353, A5, H⟩ := bindS H
  by_cases c6 : t353 = true
  ·subst c6
   have H1 : ((impl_FollowPairs_reach.f k a0_0 l0_1 l0_2 a1_0 l1_1 l1_2).bind fun t354 => (some t354)) = some r := by rw [if_pos rfl] at H; exact H
   clear H
   have H := H1
   clear H1
   obtain ⟨t354, A7, H⟩ := bindS H
   obtain rfl := Option.some.inj H
   go_enter Try.func19, Try.ntmps19
   go_wp2_with (first | ((with_reducible refine gate_dst (N := 2) rfl ?_); refine box_event ?hg (N := 2) ?hd (cs := #[.int .i64 a0_0, .slice A0_1 l0_1.length c0_1, .slice A0_2 l0_2.length c0_2]) (t := 31) ?hr ?_; (case hd => rfl); (case hg => rfl); (case hr => first | (go_simp; done) | (go_simp; rfl)); intro gb350 hg w8 hbox hb; have BK350 := Aside0.mk (hbox); have GW350 := gS HB hg; have GE350 := gS HB hg; replace HB := bS HB hb; clear hb hbox hg) | ((with_reducible refine gate_dst (N := 3) rfl ?_); refine box_event ?hg (N := 3) ?hd (cs := #[.int .i64 a1_0, .slice A1_1 l1_1.length c1_1, .slice A1_2 l1_2.length c1_2]) (t := 31) ?hr ?_; (case hd => rfl); (case hg => rfl); (case hr => first | (go_simp; done) | (go_simp; rfl)); intro gb351 hg w9 hbox hb; have BK351 := Aside0.mk (hbox); have GW351 := gS HB hg; have GE351 := gS HB hg; replace HB := bS HB hb; have NB350_351 := nL BK350 hg; have NB351_350 := nR BK350 hg; replace BK350 := kB BK350 hb; clear hb hbox hg; have hnb10 := NB350_351.out; have hnc10 := NB351_350.out; have hcz11_0 := bc0 BK350; have hcz11_1 := bc1 BK350; have hcz11_2 := bc2 BK350; have hfz11_0 := bf BK350 0; have hfz11_1 := bf BK350 1; have hfz11_2 := bf BK350 2) | ((with_reducible refine gate_callee (f := 41) rfl ?_); refine goesL_ (some 6) rfl rfl Try.func41 (by kernel_rfl) rfl #[.agg #[.int .i64 a0_0, .slice A0_1 l0_1.length c0_1, .slice A0_2 l0_2.length c0_2]] rfl zG ?_; (with_reducible refine (impl_IsMachine.calls k a0_0 _ _ l0_1 _ _ l0_2 true _ ?side1 ?side2 ?side3 ?side4 A3.out).mono ?_); (case side1 => exact cS HR0_1 HB); (case side2 => exact HC0_1.out); (case side3 => exact cS HR0_2 HB); (case side4 => exact HC0_2.out); rintro e w12 ⟨rfl, hb⟩; refine ⟨_, rfl, ?_⟩; replace BK350 := kB BK350 hb; replace BK351 := kB BK351 hb; replace HB := bS HB hb; (try clear hb); have hcz13_0 := bc0 BK351; have hcz13_1 := bc1 BK351; have hcz13_2 := bc2 BK351; have hfz13_0 := bf BK351 0; have hfz13_1 := bf BK351 1; have hfz13_2 := bf BK351 2) | (go_at_call 41; (with_reducible refine (impl_IsMachine.calls k a1_0 _ _ l1_1 _ _ l1_2 true _ ?side1 ?side2 ?side3 ?side4 A5.out).mono ?_); (case side1 => exact cS HR1_1 HB); (case side2 => exact HC1_1.out); (case side3 => exact cS HR1_2 HB); (case side4 => exact HC1_2.out); rintro e w14 ⟨rfl, hb⟩; replace BK350 := kB BK350 hb; replace BK351 := kB BK351 hb; replace HB := bS HB hb; (try clear hb)) | ((with_reducible refine gate_callee (f := 42) rfl ?_); refine goesL_ (some 14) rfl rfl Try.func42 (by kernel_rfl) rfl #[.func (.func 51) #[] #[.pointer (some ⟨gb350, 0, none⟩), .pointer (some ⟨gb351, 0, none⟩)]] rfl zG ?_; (with_reducible refine (impl_FollowPairs_reach.calls k a0_0 A0_1 c0_1 l0_1 A0_2 c0_2 l0_2 a1_0 A1_1 c1_1 l1_1 A1_2 c1_2 l1_2 t354 _ ?side1 ?side2 ?side3 ?side4 ?side5 ?side6 ?side7 ?side8 ?side9 ?side10 A7.out).mono ?_); (case side1 => exact cS HR0_1 HB); (case side2 => exact HC0_1.out); (case side3 => exact cS HR0_2 HB); (case side4 => exact HC0_2.out); (case side5 => exact cS HR1_1 HB); (case side6 => exact HC1_1.out); (case side7 => exact cS HR1_2 HB); (case side8 => exact HC1_2.out); (case side9 => exact (fun h_ => h_) (zK BK350)); (case side10 => exact (fun h_ => h_) (zK BK351)); rintro e w15 ⟨v355, rfl, ho0, hb⟩; refine ⟨_, rfl, ?_⟩; have HO356 := Aside0.mk (Kd.S_lower ho0 (below_size (zB HB))); replace BK350 := kB BK350 hb; replace BK351 := kB BK351 hb; replace HB := bS HB hb; (try clear hb); (try clear ho0)))
   go_ret
   exact ⟨_, zE, by (with_reducible repeat (first | apply Kd.S_alloc | apply Kd.S_drewN | apply Kd.S_drew)); exact HO356.out, zB HB⟩
  ·replace c6 := Bool.eq_false_iff.mpr c6
   subst c6
   have H1 : (some ([] : List (List Int))) = some r := by rw [if_neg (show ¬ (false = true) by decide)] at H; exact H
   clear H
   have H := H1
   clear H1
   obtain rfl := Option.some.inj H
   go_enter Try.func19, Try.ntmps19
   go_wp2_with (first | ((with_reducible refine gate_dst (N := 2) rfl ?_); refine box_event ?hg (N := 2) ?hd (cs := #[.int .i64 a0_0, .slice A0_1 l0_1.length c0_1, .slice A0_2 l0_2.length c0_2]) (t := 31) ?hr ?_; (case hd => rfl); (case hg => rfl); (case hr => first | (go_simp; done) | (go_simp; rfl)); intro gb350 hg w16 hbox hb; have BK350 := Aside0.mk (hbox); have GW350 := gS HB hg; have GE350 := gS HB hg; replace HB := bS HB hb; clear hb hbox hg) | ((with_reducible refine gate_dst (N := 3) rfl ?_); refine box_event ?hg (N := 3) ?hd (cs := #[.int .i64 a1_0, .slice A1_1 l1_1.length c1_1, .slice A1_2 l1_2.length c1_2]) (t := 31) ?hr ?_; (case hd => rfl); (case hg => rfl); (case hr => first | (go_simp; done) | (go_simp; rfl)); intro gb351 hg w17 hbox hb; have BK351 := Aside0.mk (hbox); have GW351 := gS HB hg; have GE351 := gS HB hg; replace HB := bS HB hb; have NB350_351 := nL BK350 hg; have NB351_350 := nR BK350 hg; replace BK350 := kB BK350 hb; clear hb hbox hg; have hnb18 := NB350_351.out; have hnc18 := NB351_350.out; have hcz19_0 := bc0 BK350; have hcz19_1 := bc1 BK350; have hcz19_2 := bc2 BK350; have hfz19_0 := bf BK350 0; have hfz19_1 := bf BK350 1; have hfz19_2 := bf BK350 2) | ((with_reducible refine gate_callee (f := 41) rfl ?_); refine goesL_ (some 6) rfl rfl Try.func41 (by kernel_rfl) rfl #[.agg #[.int .i64 a0_0, .slice A0_1 l0_1.length c0_1, .slice A0_2 l0_2.length c0_2]] rfl zG ?_; (with_reducible refine (impl_IsMachine.calls k a0_0 _ _ l0_1 _ _ l0_2 true _ ?side1 ?side2 ?side3 ?side4 A3.out).mono ?_); (case side1 => exact cS HR0_1 HB); (case side2 => exact HC0_1.out); (case side3 => exact cS HR0_2 HB); (case side4 => exact HC0_2.out); rintro e w20 ⟨rfl, hb⟩; refine ⟨_, rfl, ?_⟩; replace BK350 := kB BK350 hb; replace BK351 := kB BK351 hb; replace HB := bS HB hb; (try clear hb); have hcz21_0 := bc0 BK351; have hcz21_1 := bc1 BK351; have hcz21_2 := bc2 BK351; have hfz21_0 := bf BK351 0; have hfz21_1 := bf BK351 1; have hfz21_2 := bf BK351 2) | (go_at_call 41; (with_reducible refine (impl_IsMachine.calls k a1_0 _ _ l1_1 _ _ l1_2 false _ ?side1 ?side2 ?side3 ?side4 A5.out).mono ?_); (case side1 => exact cS HR1_1 HB); (case side2 => exact HC1_1.out); (case side3 => exact cS HR1_2 HB); (case side4 => exact HC1_2.out); rintro e w22 ⟨rfl, hb⟩; replace BK350 := kB BK350 hb; replace BK351 := kB BK351 hb; replace HB := bS HB hb; (try clear hb)))
   go_ret
   exact ⟨_, zE, by first | exact Kd.S_nil _ _ _ _ _ | exact Kd.N_nil _ _ _ _ _ | exact Kd.V_nil _ _ _ _ _ | exact Kd.Q_nil _ _ _ _ _ | exact Kd.R_nil _ _ _ _ _, zB HB⟩
 ·replace c4 := Bool.eq_false_iff.mpr c4
  subst c4
  have H1 : (some ([] : List (List Int))) = some r := by rw [if_neg (show ¬ (false = true) by decide)] at H; exact H
  clear H
  have H := H1
  clear H1
  obtain rfl := Option.some.inj H
  go_enter Try.func19, Try.ntmps19
  go_wp2_with (first | ((with_reducible refine gate_dst (N := 2) rfl ?_); refine box_event ?hg (N := 2) ?hd (cs := #[.int .i64 a0_0, .slice A0_1 l0_1.length c0_1, .slice A0_2 l0_2.length c0_2]) (t := 31) ?hr ?_; (case hd => rfl); (case hg => rfl); (case hr => first | (go_simp; done) | (go_simp; rfl)); intro gb350 hg w23 hbox hb; have BK350 := Aside0.mk (hbox); have GW350 := gS HB hg; have GE350 := gS HB hg; replace HB := bS HB hb; clear hb hbox hg) | ((with_reducible refine gate_dst (N := 3) rfl ?_); refine box_event ?hg (N := 3) ?hd (cs := #[.int .i64 a1_0, .slice A1_1 l1_1.length c1_1, .slice A1_2 l1_2.length c1_2]) (t := 31) ?hr ?_; (case hd => rfl); (case hg => rfl); (case hr => first | (go_simp; done) | (go_simp; rfl)); intro gb351 hg w24 hbox hb; have BK351 := Aside0.mk (hbox); have GW351 := gS HB hg; have GE351 := gS HB hg; replace HB := bS HB hb; have NB350_351 := nL BK350 hg; have NB351_350 := nR BK350 hg; replace BK350 := kB BK350 hb; clear hb hbox hg; have hnb25 := NB350_351.out; have hnc25 := NB351_350.out; have hcz26_0 := bc0 BK350; have hcz26_1 := bc1 BK350; have hcz26_2 := bc2 BK350; have hfz26_0 := bf BK350 0; have hfz26_1 := bf BK350 1; have hfz26_2 := bf BK350 2) | ((with_reducible refine gate_callee (f := 41) rfl ?_); refine goesL_ (some 6) rfl rfl Try.func41 (by kernel_rfl) rfl #[.agg #[.int .i64 a0_0, .slice A0_1 l0_1.length c0_1, .slice A0_2 l0_2.length c0_2]] rfl zG ?_; (with_reducible refine (impl_IsMachine.calls k a0_0 _ _ l0_1 _ _ l0_2 false _ ?side1 ?side2 ?side3 ?side4 A3.out).mono ?_); (case side1 => exact cS HR0_1 HB); (case side2 => exact HC0_1.out); (case side3 => exact cS HR0_2 HB); (case side4 => exact HC0_2.out); rintro e w27 ⟨rfl, hb⟩; refine ⟨_, rfl, ?_⟩; replace BK350 := kB BK350 hb; replace BK351 := kB BK351 hb; replace HB := bS HB hb; (try clear hb)))
  go_ret
  exact ⟨_, zE, by first | exact Kd.S_nil _ _ _ _ _ | exact Kd.N_nil _ _ _ _ _ | exact Kd.V_nil _ _ _ _ _ | exact Kd.Q_nil _ _ _ _ _ | exact Kd.R_nil _ _ _ _ _, zB HB⟩

/-! ### slices_Index_int_int: function 82 -/
def slices_Index_int_int.l0 : Nat → List Int → Int → Int → Int → Option (Int)
 | 0, _, _, _, _ => none
 | k + 1, x0, x1, x7, x8 => if x8 < x7 then (if 0 ≤ x8 then (if x8 < (x0.length : Int) then (if x1 = (rd x0 x8) then (some x8) else (slices_Index_int_int.l0 k x0 x1 x7 (wrap64 (x8 + 1)))) else (none)) else (none)) else (some (-1))
def slices_Index_int_int.f (k : Nat) (l0 : List Int) (a1 : Int) : Option (Int) := slices_Index_int_int.l0 k l0 a1 (l0.length : Int) 0
theorem slices_Index_int_int.mono_l : ∀ k, (∀ y0 y1 y2 y3, LeO (slices_Index_int_int.l0 k y0 y1 y2 y3) (slices_Index_int_int.l0 (k + 1) y0 y1 y2 y3))
 | 0 => fun _ _ _ _ r h => by simp [slices_Index_int_int.l0] at h
 | k + 1 => by
  have ih0 := slices_Index_int_int.mono_l k
  ·intro y0 y1 y2 y3
   unfold slices_Index_int_int.l0
   repeat' first
   | (with_reducible exact ih0 _ _ _ _)
   | (with_reducible exact LeO.refl _)
   | (with_reducible exact LeO.none _)
   | (with_reducible refine LeO.ite ?_ ?_)
   | (with_reducible refine LeO.bind ?_ (fun _ => ?_))
   | exact ih0 _ _ _ _
   | exact LeO.none _
   | refine LeO.ite ?_ ?_
   | refine LeO.bind ?_ (fun _ => ?_)
theorem slices_Index_int_int.mono : ∀ a0 a1 k, LeO (slices_Index_int_int.f k a0 a1) (slices_Index_int_int.f (k + 1) a0 a1) := by
 intro a0 a1 k
 have ih0 := slices_Index_int_int.mono_l k
 unfold slices_Index_int_int.f
 repeat' first
   | (with_reducible exact ih0 _ _ _ _)
   | (with_reducible exact LeO.refl _)
   | (with_reducible exact LeO.none _)
   | (with_reducible refine LeO.ite ?_ ?_)
   | (with_reducible refine LeO.bind ?_ (fun _ => ?_))
   | exact ih0 _ _ _ _
   | exact LeO.none _
   | refine LeO.ite ?_ ?_
   | refine LeO.bind ?_ (fun _ => ?_)
set_option maxHeartbeats 8000000 in
set_option maxRecDepth 100000 in
theorem slices_Index_int_int.calls (k : Nat) (A0 : Option Addr) (c0 : Nat) (l0 : List Int) (a1 : Int) (r : Int) (w : World) (hr0 : Kd.C (Kd.int .i64) w A0 l0.length l0) (hc0 : l0.length ≤ c0) (h : slices_Index_int_int.f k l0 a1 = some r) :
  Calls Try.prog 82 #[.slice A0 l0.length c0, .int .i64 a1] w fun e w' => e = .returned (.int .i64 r) ∧ Drawn0 w w' := by
 have HR0 := Aside0.mk hr0
 have HC0 := Aside0.mk hc0
 clear hr0 hc0
 have H : (slices_Index_int_int.l0 k l0 a1 (l0.length : Int) 0) = some r := h
 clear h
 have H' := Aside0.mk H
 clear H
 go_enter Try.func82, Try.ntmps82
 go_wp2
 go_loopg [8] k (fun kq v8 w' => ∃ (x8_1 : Int), v8 = .int .i64 x8_1 ∧ Aside0 (slices_Index_int_int.l0 kq l0 a1 (l0.length : Int) x8_1 = some r) ∧ Aside0 (kq ≤ k) ∧ Drawn0 w w')
 case atStart => exact ⟨(0), zF, H', ⟨Nat.le_refl _⟩, by repeat (first | exact Drawn0.refl _ | apply Drawn0.step)⟩
 case round =>
  clear H'
  try clear p2
  obtain ⟨x8_1, rfl, HA, HK1, ⟨m1, rfl⟩⟩ := hrel
  cases gk with
  | zero => exact absurd HA.out (by simp [slices_Index_int_int.l0])
  | succ k1 =>
   have H := HA.out
   clear HA
   simp only [slices_Index_int_int.l0] at H
   by_cases c3 : x8_1 < (l0.length : Int)
   ·rw [if_pos c3] at H
    have c3b0 : decide (x8_1 < (l0.length : Int)) = true := decide_eq_true c3
    clear c3
    obtain ⟨c4, H⟩ := ifS H
    have c4b0 : decide (0 ≤ x8_1) = true := decide_eq_true c4
    clear c4
    obtain ⟨c5, H⟩ := ifS H
    have c5b0 : decide (x8_1 < (l0.length : Int)) = true := decide_eq_true c5
    clear c5
    by_cases c6 : a1 = (rd l0 x8_1)
    ·rw [if_pos c6] at H
     have c6b0 : (a1 == (rd l0 x8_1)) = true := beq_iff_eq.mpr c6
     have c6b1 : (a1 != (rd l0 x8_1)) = false := bne_eq_false_iff_eq.mpr c6
     clear c6
     obtain rfl := Option.some.inj H
     have p357 : 0 ≤ (x8_1 : Int) := zD
     have q357 : x8_1 < (l0.length : Int) := zD
     obtain ⟨ad357, e357, hx357_0⟩ := Kd.at_int HR0.out x8_1 p357 q357
     cases e357
     replace p357 := eq_true p357
     replace q357 := eq_true q357
     go_wp2
     go_ret
     exact ⟨by first | rfl | (simp; done) | (simp [*]; done), by repeat (first | exact Drawn0.refl _ | apply Drawn0.step)⟩
    ·rw [if_neg c6] at H
     have c6b0 : (a1 == (rd l0 x8_1)) = false := beq_eq_false_iff_ne.mpr c6
     have c6b1 : (a1 != (rd l0 x8_1)) = true := bne_iff_ne.mpr c6
     have H' := Aside0.mk H
     clear H
     have p357 : 0 ≤ (x8_1 : Int) := zD
     have q357 : x8_1 < (l0.length : Int) := zD
     obtain ⟨ad357, e357, hx357_0⟩ := Kd.at_int HR0.out x8_1 p357 q357
     cases e357
     replace p357 := eq_true p357
     replace q357 := eq_true q357
     go_wp2
     go_roundg k1
     case measure => have := HK1.out; omega
     case rel => exact ⟨(wrap64 (x8_1 + 1)), zF, H', ⟨by have := HK1.out; omega⟩, by repeat (first | exact Drawn0.refl _ | apply Drawn0.step)⟩
   ·rw [if_neg c3] at H
    have c3b0 : decide (x8_1 < (l0.length : Int)) = false := decide_eq_false c3
    clear c3
    obtain rfl := Option.some.inj H
    go_wp2
    go_ret
    exact ⟨by first | rfl | (simp; done) | (simp [*]; done), by repeat (first | exact Drawn0.refl _ | apply Drawn0.step)⟩

/-! ### slices_Contains_int_int: function 78 -/
def slices_Contains_int_int.f (k : Nat) (l0 : List Int) (a1 : Int) : Option (Bool) := (slices_Index_int_int.f k l0 a1).bind fun t358 => (some (decide (t358 ≥ 0)))
theorem slices_Contains_int_int.mono : ∀ a0 a1 k, LeO (slices_Contains_int_int.f k a0 a1) (slices_Contains_int_int.f (k + 1) a0 a1) := by
 intro a0 a1 k
 unfold slices_Contains_int_int.f
 repeat' first
   | (with_reducible exact slices_Index_int_int.mono _ _ _)
   | (with_reducible exact LeO.refl _)
   | (with_reducible exact LeO.none _)
   | (with_reducible refine LeO.ite ?_ ?_)
   | (with_reducible refine LeO.bind ?_ (fun _ => ?_))
   | exact slices_Index_int_int.mono _ _ _
   | exact LeO.none _
   | refine LeO.ite ?_ ?_
   | refine LeO.bind ?_ (fun _ => ?_)
set_option maxHeartbeats 8000000 in
set_option maxRecDepth 100000 in
theorem slices_Contains_int_int.calls (k : Nat) (A0 : Option Addr) (c0 : Nat) (l0 : List Int) (a1 : Int) (r : Bool) (w : World) (hr0 : Kd.C (Kd.int .i64) w A0 l0.length l0) (hc0 : l0.length ≤ c0) (h : slices_Contains_int_int.f k l0 a1 = some r) :
  Calls Try.prog 78 #[.slice A0 l0.length c0, .int .i64 a1] w fun e w' => e = .returned (.bool r) ∧ Drawn0 w w' := by
 have HR0 := Aside0.mk hr0
 have HC0 := Aside0.mk hc0
 clear hr0 hc0
 have H : ((slices_Index_int_int.f k l0 a1).bind fun t358 => (some (decide (t358 ≥ 0)))) = some r := h
 clear h
 obtain ⟨t358, A3, H⟩ := bindS H
 obtain rfl := Option.some.inj H
 go_enter Try.func78, Try.ntmps78
 go_wp2_with (first | ((with_reducible refine gate_callee (f := 82) rfl ?_); refine goesL_ (some 7) rfl rfl Try.func82 (by kernel_rfl) rfl #[.slice A0 l0.length c0, .int .i64 a1] rfl zG ?_; (with_reducible refine (slices_Index_int_int.calls k _ _ l0 a1 t358 _ ?side1 ?side2 A3.out).mono ?_); (case side1 => exact cT HR0); (case side2 => exact HC0.out); rintro e w' ⟨rfl, ⟨nd, rfl⟩⟩; refine ⟨_, rfl, ?_⟩))
 go_ret
 exact ⟨by first | rfl | (simp; done) | (simp [*]; done), by repeat (first | exact Drawn0.refl _ | apply Drawn0.step)⟩

/-! ### impl_without: function 70 -/
def impl_without.l0 : Nat → List Int → List Int → List Int → Int → Int → Option (List Int)
 | 0, _, _, _, _, _ => none
 | k + 1, x1, x5, x9, x10, x11 => if x11 < x10 then (if 0 ≤ x11 then (if x11 < (x9.length : Int) then ((slices_Contains_int_int.f k x1 (rd x9 x11)).bind fun t363 => (if t363 = true then (impl_without.l0 k x1 x5 x9 x10 (wrap64 (x11 + 1))) else (if x5.length < 17592186044416 then (impl_without.l0 k x1 (x5 ++ [rd x9 x11]) x9 x10 (wrap64 (x11 + 1))) else (none)))) else (none)) else (none)) else (some x5)
def impl_without.f (k : Nat) (l0 : List Int) (l1 : List Int) : Option (List Int) := impl_without.l0 k l1 (([] : List Int)) l0 (l0.length : Int) 0
theorem impl_without.mono_l : ∀ k, (∀ y0 y1 y2 y3 y4, LeO (impl_without.l0 k y0 y1 y2 y3 y4) (impl_without.l0 (k + 1) y0 y1 y2 y3 y4))
 | 0 => fun _ _ _ _ _ r h => by simp [impl_without.l0] at h
 | k + 1 => by
  have ih0 := impl_without.mono_l k
  ·intro y0 y1 y2 y3 y4
   unfold impl_without.l0
   repeat' first
   | (with_reducible exact ih0 _ _ _ _ _)
   | (with_reducible exact slices_Contains_int_int.mono _ _ _)
   | (with_reducible exact LeO.refl _)
   | (with_reducible exact LeO.none _)
   | (with_reducible refine LeO.ite ?_ ?_)
   | (with_reducible refine LeO.bind ?_ (fun _ => ?_))
   | exact ih0 _ _ _ _ _
   | exact slices_Contains_int_int.mono _ _ _
   | exact LeO.none _
   | refine LeO.ite ?_ ?_
   | refine LeO.bind ?_ (fun _ => ?_)
theorem impl_without.mono : ∀ a0 a1 k, LeO (impl_without.f k a0 a1) (impl_without.f (k + 1) a0 a1) := by
 intro a0 a1 k
 have ih0 := impl_without.mono_l k
 unfold impl_without.f
 repeat' first
   | (with_reducible exact ih0 _ _ _ _ _)
   | (with_reducible exact slices_Contains_int_int.mono _ _ _)
   | (with_reducible exact LeO.refl _)
   | (with_reducible exact LeO.none _)
   | (with_reducible refine LeO.ite ?_ ?_)
   | (with_reducible refine LeO.bind ?_ (fun _ => ?_))
   | exact ih0 _ _ _ _ _
   | exact slices_Contains_int_int.mono _ _ _
   | exact LeO.none _
   | refine LeO.ite ?_ ?_
   | refine LeO.bind ?_ (fun _ => ?_)
set_option maxHeartbeats 8000000 in
set_option maxRecDepth 100000 in
theorem impl_without.calls (k : Nat) (A0 : Option Addr) (c0 : Nat) (l0 : List Int) (A1 : Option Addr) (c1 : Nat) (l1 : List Int) (r : List Int) (w : World) (hr0 : Kd.C (Kd.int .i64) w A0 l0.length l0) (hc0 : l0.length ≤ c0) (hr1 : Kd.C (Kd.int .i64) w A1 l1.length l1) (hc1 : l1.length ≤ c1) (h : impl_without.f k l0 l1 = some r) :
  Calls Try.prog 70 #[.slice A0 l0.length c0, .slice A1 l1.length c1] w fun e w' => ∃ v0_ : Value, e = .returned (v0_) ∧ Kd.R (Kd.int .i64) 3 w' w.heap.size (fun _ => True) v0_ r ∧ Below w.heap.size w w' := by
 have HR0 := Aside0.mk hr0
 have HC0 := Aside0.mk hc0
 clear hr0 hc0
 have HR1 := Aside0.mk hr1
 have HC1 := Aside0.mk hc1
 clear hr1 hc1
 have HB := Aside0.mk (Below.refl w.heap.size w)
 have H : (impl_without.l0 k l1 (([] : List Int)) l0 (l0.length : Int) 0) = some r := h
 clear h
 obtain ⟨y359, hy359⟩ : ∃ y_ : List Int, y_ = (([] : List Int)) := ⟨_, rfl⟩
 replace H : (impl_without.l0 k l1 y359 l0 (l0.length : Int) 0) = some r := by first | (rw [hy359]; with_reducible exact H) | (have H2_ := (Option.bind_some _ _).symm.trans H; rw [hy359]; with_reducible exact H2_) | (have H2_ := (Option.bind_some _ _).symm.trans H; with_reducible exact H2_) | with_reducible exact H | (rw [hy359]; exact H) | exact H
 have Ny359 := Aside0.mk hy359
 clear hy359
 have H' := Aside0.mk H
 clear H
 go_enter Try.func70, Try.ntmps70
 go_wp2_with (first | ((with_reducible refine gate_dst (N := 8) rfl ?_); refine Kd.R_lit (Kd.int .i64) _ 3 ?hg (N := 8) ?hd (xs := ([] : List Int)) (inner := []) (ok := fun _ => True) (okp := fun _ => True) ?hr ?hp (fun _ hk => hk) trivial (Below.refl _ _) (Nat.le_refl _) (by simp) ?_; (case hd => rfl); (case hg => rfl); (case hr => first | (go_simp; done) | (go_simp; rfl)); (case hp => exact (Reps.none _ _)); intro v360 w3 ho4 hb hg_ hnew_; clear hg_ hnew_; (first | rw [← Ny359.out] at ho4 | (simp only [Int.reduceToNat] at ho4; rw [← Ny359.out] at ho4)); have HO361 := Aside0.mk (Kd.R_lower ho4 (below_size (zB HB))); replace HB := bS HB hb; clear hb ho4))
 go_loopg [5, 11] k (fun kq v5 v11 w' => ∃ (x5_1 : List Int) (x11_1 : Int), v11 = .int .i64 x11_1 ∧ Aside0 (impl_without.l0 kq l1 x5_1 l0 (l0.length : Int) x11_1 = some r) ∧ Aside0 (kq ≤ k) ∧ Aside0 (Kd.R (Kd.int .i64) 3 w' w.heap.size (fun _ => True) v5 x5_1) ∧ Aside0 (Below w.heap.size w w'))
 case atStart => exact ⟨(y359), (0), zF, H', ⟨Nat.le_refl _⟩, ⟨zR HO361⟩, ⟨zB HB⟩⟩
 case round =>
  clear H'
  try clear c1
  try clear p2
  obtain ⟨x5_1, x11_1, rfl, HA, HK1, HO_5, HB⟩ := hrel
  cases gk with
  | zero => exact absurd HA.out (by simp [impl_without.l0])
  | succ k1 =>
   have H := HA.out
   clear HA
   simp only [impl_without.l0] at H
   by_cases c5 : x11_1 < (l0.length : Int)
   ·rw [if_pos c5] at H
    have c5b0 : decide (x11_1 < (l0.length : Int)) = true := decide_eq_true c5
    clear c5
    obtain ⟨c6, H⟩ := ifS H
    have c6b0 : decide (0 ≤ x11_1) = true := decide_eq_true c6
    clear c6
    obtain ⟨c7, H⟩ := ifS H
    have c7b0 : decide (x11_1 < (l0.length : Int)) = true := decide_eq_true c7
    clear c7
    obtain ⟨t363, A8, H⟩ := bindS H
    by_cases c9 : t363 = true
    ·subst c9
     have H1 : (impl_without.l0 k1 l1 x5_1 l0 (l0.length : Int) (wrap64 (x11_1 + 1))) = some r := by rw [if_pos rfl] at H; exact H
     clear H
     have H := H1
     clear H1
     have H' := Aside0.mk H
     clear H
     have p362 : 0 ≤ (x11_1 : Int) := zD
     have q362 : x11_1 < (l0.length : Int) := zD
     obtain ⟨ad362, e362, hx362_0⟩ := Kd.at_int HR0.out x11_1 p362 q362
     cases e362
     replace hx362_0 := hL HB hx362_0
     replace p362 := eq_true p362
     replace q362 := eq_true q362
     go_wp2_with (first | ((with_reducible refine gate_callee (f := 78) rfl ?_); refine goesL_ (some 17) rfl rfl Try.func78 (by kernel_rfl) rfl #[.slice A1 l1.length c1, .int .i64 (rd l0 x11_1)] rfl zG ?_; (with_reducible refine (slices_Contains_int_int.calls k1 _ _ l1 (rd l0 x11_1) true _ ?side1 ?side2 A8.out).mono ?_); (case side1 => exact cS HR1 HB); (case side2 => exact HC1.out); rintro e w' ⟨rfl, ⟨nd, rfl⟩⟩; refine ⟨_, rfl, ?_⟩))
     go_roundg k1
     case measure => have := HK1.out; omega
     case rel => exact ⟨(x5_1), (wrap64 (x11_1 + 1)), zF, H', ⟨by have := HK1.out; omega⟩, ⟨zR HO_5⟩, ⟨zB HB⟩⟩
    ·replace c9 := Bool.eq_false_iff.mpr c9
     subst c9
     have H1 : (if x5_1.length < 17592186044416 then (impl_without.l0 k1 l1 (x5_1 ++ [rd l0 x11_1]) l0 (l0.length : Int) (wrap64 (x11_1 + 1))) else (none)) = some r := by rw [if_neg (show ¬ (false = true) by decide)] at H; exact H
     clear H
     have H := H1
     clear H1
     obtain ⟨c10, H⟩ := ifS H
     have LMc10 := Aside0.mk c10
     clear c10
     obtain ⟨y364, hy364⟩ : ∃ y_ : List Int, y_ = (x5_1 ++ [rd l0 x11_1]) := ⟨_, rfl⟩
     replace H : (impl_without.l0 k1 l1 y364 l0 (l0.length : Int) (wrap64 (x11_1 + 1))) = some r := by first | (rw [hy364]; with_reducible exact H) | (have H2_ := (Option.bind_some _ _).symm.trans H; rw [hy364]; with_reducible exact H2_) | (have H2_ := (Option.bind_some _ _).symm.trans H; with_reducible exact H2_) | with_reducible exact H | (rw [hy364]; exact H) | exact H
     have Ny364 := Aside0.mk hy364
     clear hy364
     have H' := Aside0.mk H
     clear H
     have p362 : 0 ≤ (x11_1 : Int) := zD
     have q362 : x11_1 < (l0.length : Int) := zD
     obtain ⟨ad362, e362, hx362_0⟩ := Kd.at_int HR0.out x11_1 p362 q362
     cases e362
     replace hx362_0 := hL HB hx362_0
     replace p362 := eq_true p362
     replace q362 := eq_true q362
     go_wp2_with (first | ((with_reducible refine gate_callee (f := 78) rfl ?_); refine goesL_ (some 17) rfl rfl Try.func78 (by kernel_rfl) rfl #[.slice A1 l1.length c1, .int .i64 (rd l0 x11_1)] rfl zG ?_; (with_reducible refine (slices_Contains_int_int.calls k1 _ _ l1 (rd l0 x11_1) false _ ?side1 ?side2 A8.out).mono ?_); (case side1 => exact cS HR1 HB); (case side2 => exact HC1.out); rintro e w' ⟨rfl, ⟨nd, rfl⟩⟩; refine ⟨_, rfl, ?_⟩) | ((with_reducible refine gate_builtin (b := .append) (xs := #[.tmp 19, .tmp 21]) rfl ?_); at_builtin; refine Kd.R_append (Kd.int .i64) (w0 := w) w.heap.size rfl (.tmp 19) (.tmp 21) 38 3 (.int .i64 0) 8 rfl Try.underlying38 info3 rfl (by decide) (by omega) u5 x5_1 (rd l0 x11_1) [.int .i64 (rd l0 x11_1)] (fun _ => True) (fun _ => False) rfl rfl ?aP (fun _ hk => hk.elim) ?aF ?aO ?aB ?aS ?aL ?_; (case aP => exact rfl); (case aB => exact (zB HB)); (case aF => exact (fun _ _ => trivial)); (case aO => exact (zR HO_5)); (case aS => exact (below_size (zB HB))); (case aL => have := LMc10.out; omega); intro v365 w11 ho hb hg hat; rw [← Ny364.out] at ho; replace HB := Aside0.mk (hb); have HO366 := Aside0.mk (ho); clear HO_5; clear ho hb hg hat))
     go_roundg k1
     case measure => have := HK1.out; omega
     case rel => exact ⟨(y364), (wrap64 (x11_1 + 1)), zF, H', ⟨by have := HK1.out; omega⟩, ⟨zR HO366⟩, ⟨zB HB⟩⟩
   ·rw [if_neg c5] at H
    have c5b0 : decide (x11_1 < (l0.length : Int)) = false := decide_eq_false c5
    clear c5
    obtain rfl := Option.some.inj H
    go_wp2
    go_ret
    exact ⟨_, zE, by (with_reducible repeat (first | apply Kd.R_alloc | apply Kd.R_drewN | apply Kd.R_drew)); exact HO_5.out, zB HB⟩

/-! ### impl_isEnd: function 71 -/
def impl_isEnd.f (a0_0 : Int) (l0_1 : List Bool) (l0_2 : List (S64)) (a1 : Int) : Option (Bool) := (impl_InRange.f a1 0 (wrap64 ((l0_1.length : Int) - 1))).bind fun t368 => (if t368 = true then (if 0 ≤ a1 then (if a1 < (l0_1.length : Int) then (some (rdOf false l0_1 a1)) else (none)) else (none)) else (some false))
set_option maxHeartbeats 8000000 in
set_option maxRecDepth 100000 in
theorem impl_isEnd.calls (a0_0 : Int) (A0_1 : Option Addr) (c0_1 : Nat) (l0_1 : List Bool) (A0_2 : Option Addr) (c0_2 : Nat) (l0_2 : List (S64)) (a1 : Int) (r : Bool) (w : World) (hr0_1 : Kd.C Kd.bool w A0_1 l0_1.length l0_1) (hc0_1 : l0_1.length ≤ c0_1) (hr0_2 : Kd.C k64 w A0_2 l0_2.length l0_2) (hc0_2 : l0_2.length ≤ c0_2) (h : impl_isEnd.f a0_0 l0_1 l0_2 a1 = some r) :
  Calls Try.prog 71 #[.agg #[.int .i64 a0_0, .slice A0_1 l0_1.length c0_1, .slice A0_2 l0_2.length c0_2], .int .i64 a1] w fun e w' => e = .returned (.bool r) ∧ Below w.heap.size w w' := by
 have hu31 := Try.underlying31
 have HR0_1 := Aside0.mk hr0_1
 have HC0_1 := Aside0.mk hc0_1
 clear hr0_1 hc0_1
 have HR0_2 := Aside0.mk hr0_2
 have HC0_2 := Aside0.mk hc0_2
 clear hr0_2 hc0_2
 have HB := Aside0.mk (Below.refl w.heap.size w)
 have H : ((impl_InRange.f a1 0 (wrap64 ((l0_1.length : Int) - 1))).bind fun t368 => (if t368 = true then (if 0 ≤ a1 then (if a1 < (l0_1.length : Int) then (some (rdOf false l0_1 a1)) else (none)) else (none)) else (some false))) = some r := h
 clear h
 obtain ⟨t368, A3, H⟩ := bindS H
 by_cases c4 : t368 = true
 ·subst c4
  have H1 : (if 0 ≤ a1 then (if a1 < (l0_1.length : Int) then (some (rdOf false l0_1 a1)) else (none)) else (none)) = some r := by rw [if_pos rfl] at H; exact H
  clear H
  have H := H1
  clear H1
  obtain ⟨c5, H⟩ := ifS H
  have c5b0 : decide (0 ≤ a1) = true := decide_eq_true c5
  clear c5
  obtain ⟨c6, H⟩ := ifS H
  have c6b0 : decide (a1 < (l0_1.length : Int)) = true := decide_eq_true c6
  clear c6
  obtain rfl := Option.some.inj H
  go_enter Try.func71, Try.ntmps71
  go_wp2_with (first | ((with_reducible refine gate_dst (N := 2) rfl ?_); refine box_event ?hg (N := 2) ?hd (cs := #[.int .i64 a0_0, .slice A0_1 l0_1.length c0_1, .slice A0_2 l0_2.length c0_2]) (t := 31) ?hr ?_; (case hd => rfl); (case hg => rfl); (case hr => first | (go_simp; done) | (go_simp; rfl)); intro gb367 hg w7 hbox hb; have BK367 := Aside0.mk (hbox); have GW367 := gS HB hg; have GE367 := gS HB hg; replace HB := bS HB hb; clear hb hbox hg; have hcz8_0 := bc0 BK367; have hcz8_1 := bc1 BK367; have hcz8_2 := bc2 BK367; have hfz8_0 := bf BK367 0; have hfz8_1 := bf BK367 1; have hfz8_2 := bf BK367 2) | ((with_reducible refine gate_callee (f := 60) rfl ?_); refine goesL_ (some 10) rfl rfl Try.func60 (by kernel_rfl) rfl #[.int .i64 a1, .int .i64 0, .int .i64 (wrap64 ((l0_1.length : Int) - 1))] rfl zG ?_; (with_reducible refine (impl_InRange.calls a1 0 (wrap64 ((l0_1.length : Int) - 1)) true _ A3.out).mono ?_); rintro e w' ⟨rfl, ⟨nd, rfl⟩⟩; refine ⟨_, rfl, ?_⟩; have p369 : 0 ≤ (a1 : Int) := zD; have q369 : a1 < (l0_1.length : Int) := zD; obtain ⟨ad369, e369, hx369_0⟩ := Kd.at_bool HR0_1.out a1 p369 q369; cases e369; replace hx369_0 := hL HB hx369_0; replace p369 := eq_true p369; replace q369 := eq_true q369))
  go_ret
  exact ⟨zE, zB HB⟩
 ·replace c4 := Bool.eq_false_iff.mpr c4
  subst c4
  have H1 : (some false) = some r := by rw [if_neg (show ¬ (false = true) by decide)] at H; exact H
  clear H
  have H := H1
  clear H1
  obtain rfl := Option.some.inj H
  go_enter Try.func71, Try.ntmps71
  go_wp2_with (first | ((with_reducible refine gate_dst (N := 2) rfl ?_); refine box_event ?hg (N := 2) ?hd (cs := #[.int .i64 a0_0, .slice A0_1 l0_1.length c0_1, .slice A0_2 l0_2.length c0_2]) (t := 31) ?hr ?_; (case hd => rfl); (case hg => rfl); (case hr => first | (go_simp; done) | (go_simp; rfl)); intro gb367 hg w9 hbox hb; have BK367 := Aside0.mk (hbox); have GW367 := gS HB hg; have GE367 := gS HB hg; replace HB := bS HB hb; clear hb hbox hg; have hcz10_0 := bc0 BK367; have hcz10_1 := bc1 BK367; have hcz10_2 := bc2 BK367; have hfz10_0 := bf BK367 0; have hfz10_1 := bf BK367 1; have hfz10_2 := bf BK367 2) | ((with_reducible refine gate_callee (f := 60) rfl ?_); refine goesL_ (some 10) rfl rfl Try.func60 (by kernel_rfl) rfl #[.int .i64 a1, .int .i64 0, .int .i64 (wrap64 ((l0_1.length : Int) - 1))] rfl zG ?_; (with_reducible refine (impl_InRange.calls a1 0 (wrap64 ((l0_1.length : Int) - 1)) false _ A3.out).mono ?_); rintro e w' ⟨rfl, ⟨nd, rfl⟩⟩; refine ⟨_, rfl, ?_⟩))
  go_ret
  exact ⟨zE, zB HB⟩

/-! ### impl_FollowsAt: function 56 -/
mutual
def impl_FollowsAt.j0 : Nat → Int → Int → List Int → List Int → List Int → List Int → Bool → Int → List Bool → List (S64) → Int → List Bool → List (S64) → Option (Bool)
 | 0, _, _, _, _, _, _, _, _, _, _, _, _, _ => none
 | k + 1, x2, x3, x9, x10, x11, x12, x25, x371000, x371001, x371002, x372000, x372001, x372002 => if x25 = true then (some false) else (if ((decide ((x11.length : Int) > 0)) != (decide ((x9.length : Int) > 0))) = true then (impl_FollowsAt.j1 k x2 x3 true x371000 x371001 x371002 x372000 x372001 x372002) else (if (x12.length : Int) = 0 then (impl_FollowsAt.j1 k x2 x3 (decide ((x10.length : Int) > 0)) x371000 x371001 x371002 x372000 x372001 x372002) else (impl_FollowsAt.j1 k x2 x3 false x371000 x371001 x371002 x372000 x372001 x372002)))
def impl_FollowsAt.j1 : Nat → Int → Int → Bool → Int → List Bool → List (S64) → Int → List Bool → List (S64) → Option (Bool)
 | 0, _, _, _, _, _, _, _, _, _ => none
 | k + 1, x2, x3, x38, x371000, x371001, x371002, x372000, x372001, x372002 => if x38 = true then (some false) else ((impl_isEnd.f x371000 x371001 x371002 x2).bind fun t390 => (if t390 = true then (some true) else ((impl_isEnd.f x372000 x372001 x372002 x3).bind fun t391 => (some (!t391)))))
end
def impl_FollowsAt.f (k : Nat) (a0_0 : Int) (l0_1 : List Bool) (l0_2 : List (S64)) (a1_0 : Int) (l1_1 : List Bool) (l1_2 : List (S64)) (a2 : Int) (a3 : Int) : Option (Bool) := (impl_MovesFrom.f k a0_0 l0_1 l0_2 a2 true).bind fun t372 => ((impl_MovesFrom.f k a0_0 l0_1 l0_2 a2 false).bind fun t375 => ((impl_MovesFrom.f k a1_0 l1_1 l1_2 a3 true).bind fun t378 => ((impl_MovesFrom.f k a1_0 l1_1 l1_2 a3 false).bind fun t381 => ((impl_without.f k t381 t375).bind fun t384 => (if (t384.length : Int) > 0 then (impl_FollowsAt.j0 k a2 a3 t372 t375 t378 t381 true a0_0 l0_1 l0_2 a1_0 l1_1 l1_2) else ((impl_without.f k t372 t378).bind fun t387 => (impl_FollowsAt.j0 k a2 a3 t372 t375 t378 t381 (decide ((t387.length : Int) > 0)) a0_0 l0_1 l0_2 a1_0 l1_1 l1_2)))))))
theorem impl_FollowsAt.mono_l : ∀ k, (∀ y0 y1 y2 y3 y4 y5 y6 y7 y8 y9 y10 y11 y12, LeO (impl_FollowsAt.j0 k y0 y1 y2 y3 y4 y5 y6 y7 y8 y9 y10 y11 y12) (impl_FollowsAt.j0 (k + 1) y0 y1 y2 y3 y4 y5 y6 y7 y8 y9 y10 y11 y12)) ∧ (∀ y0 y1 y2 y3 y4 y5 y6 y7 y8, LeO (impl_FollowsAt.j1 k y0 y1 y2 y3 y4 y5 y6 y7 y8) (impl_FollowsAt.j1 (k + 1) y0 y1 y2 y3 y4 y5 y6 y7 y8))
 | 0 => ⟨fun _ _ _ _ _ _ _ _ _ _ _ _ _ r h => by simp [impl_FollowsAt.j0] at h, fun _ _ _ _ _ _ _ _ _ r h => by simp [impl_FollowsAt.j1] at h⟩
 | k + 1 => by
  obtain ⟨ih0, ih1⟩ := impl_FollowsAt.mono_l k
  refine ⟨?_, ?_⟩
  ·intro y0 y1 y2 y3 y4 y5 y6 y7 y8 y9 y10 y11 y12
   unfold impl_FollowsAt.j0
   repeat' first
   | (with_reducible exact ih0 _ _ _ _ _ _ _ _ _ _ _ _ _)
   | (with_reducible exact ih1 _ _ _ _ _ _ _ _ _)
   | (with_reducible exact impl_MovesFrom.mono _ _ _ _ _ _)
   | (with_reducible exact impl_without.mono _ _ _)
   | (with_reducible exact LeO.refl _)
   | (with_reducible exact LeO.none _)
   | (with_reducible refine LeO.ite ?_ ?_)
   | (with_reducible refine LeO.bind ?_ (fun _ => ?_))
   | exact ih0 _ _ _ _ _ _ _ _ _ _ _ _ _
   | exact ih1 _ _ _ _ _ _ _ _ _
   | exact impl_MovesFrom.mono _ _ _ _ _ _
   | exact impl_without.mono _ _ _
   | exact LeO.none _
   | refine LeO.ite ?_ ?_
   | refine LeO.bind ?_ (fun _ => ?_)
  ·intro y0 y1 y2 y3 y4 y5 y6 y7 y8
   unfold impl_FollowsAt.j1
   repeat' first
   | (with_reducible exact ih0 _ _ _ _ _ _ _ _ _ _ _ _ _)
   | (with_reducible exact ih1 _ _ _ _ _ _ _ _ _)
   | (with_reducible exact impl_MovesFrom.mono _ _ _ _ _ _)
   | (with_reducible exact impl_without.mono _ _ _)
   | (with_reducible exact LeO.refl _)
   | (with_reducible exact LeO.none _)
   | (with_reducible refine LeO.ite ?_ ?_)
   | (with_reducible refine LeO.bind ?_ (fun _ => ?_))
   | exact ih0 _ _ _ _ _ _ _ _ _ _ _ _ _
   | exact ih1 _ _ _ _ _ _ _ _ _
   | exact impl_MovesFrom.mono _ _ _ _ _ _
   | exact impl_without.mono _ _ _
   | exact LeO.none _
   | refine LeO.ite ?_ ?_
   | refine LeO.bind ?_ (fun _ => ?_)
theorem impl_FollowsAt.mono : ∀ a0 a1 a2 a3 a4 a5 a6 a7 k, LeO (impl_FollowsAt.f k a0 a1 a2 a3 a4 a5 a6 a7) (impl_FollowsAt.f (k + 1) a0 a1 a2 a3 a4 a5 a6 a7) := by
 intro a0 a1 a2 a3 a4 a5 a6 a7 k
 obtain ⟨ih0, ih1⟩ := impl_FollowsAt.mono_l k
 unfold impl_FollowsAt.f
 repeat' first
   | (with_reducible exact ih0 _ _ _ _ _ _ _ _ _ _ _ _ _)
   | (with_reducible exact ih1 _ _ _ _ _ _ _ _ _)
   | (with_reducible exact impl_MovesFrom.mono _ _ _ _ _ _)
   | (with_reducible exact impl_without.mono _ _ _)
   | (with_reducible exact LeO.refl _)
   | (with_reducible exact LeO.none _)
   | (with_reducible refine LeO.ite ?_ ?_)
   | (with_reducible refine LeO.bind ?_ (fun _ => ?_))
   | exact ih0 _ _ _ _ _ _ _ _ _ _ _ _ _
   | exact ih1 _ _ _ _ _ _ _ _ _
   | exact impl_MovesFrom.mono _ _ _ _ _ _
   | exact impl_without.mono _ _ _
   | exact LeO.none _
   | refine LeO.ite ?_ ?_
   | refine LeO.bind ?_ (fun _ => ?_)
def impl_FollowsAt.T1 : Bool × List (List Nat × List Nat) := (true, [([], []), ([], []), ([0, 1], [0, 1]), ([], []), ([], []), ([3, 4, 2], [3, 4]), ([2, 5, 0, 1, 2], [2]), ([5, 6, 0, 1, 2, 3, 4, 5, 6], [5])])
def impl_FollowsAt.B1 : List Nat := [0, 0, 3, 0, 0, 31, 63, 127]
theorem impl_FollowsAt.tab1 : rtab .any (opsOf Try.f56 1) = impl_FollowsAt.T1 := by kernel_rfl
theorem impl_FollowsAt.bits1 : waitsOk impl_FollowsAt.T1.2 impl_FollowsAt.B1 = true := by kernel_rfl
def impl_FollowsAt.T2 : Bool × List (List Nat × List Nat) := (true, [([], []), ([], []), ([0, 1], [0, 1]), ([], []), ([], []), ([3, 4, 2], [3, 4]), ([2, 5, 0, 1, 2], [2]), ([5, 6, 0, 1, 2, 3, 4, 5, 6], [5])])
def impl_FollowsAt.B2 : List Nat := [0, 0, 3, 0, 0, 31, 63, 127]
theorem impl_FollowsAt.tab2 : rtab .any (opsOf Try.f56 2) = impl_FollowsAt.T2 := by kernel_rfl
theorem impl_FollowsAt.bits2 : waitsOk impl_FollowsAt.T2.2 impl_FollowsAt.B2 = true := by kernel_rfl
set_option maxHeartbeats 8000000 in
set_option maxRecDepth 100000 in
theorem impl_FollowsAt.calls (k : Nat) (a0_0 : Int) (A0_1 : Option Addr) (c0_1 : Nat) (l0_1 : List Bool) (A0_2 : Option Addr) (c0_2 : Nat) (l0_2 : List (S64)) (a1_0 : Int) (A1_1 : Option Addr) (c1_1 : Nat) (l1_1 : List Bool) (A1_2 : Option Addr) (c1_2 : Nat) (l1_2 : List (S64)) (a2 : Int) (a3 : Int) (r : Bool) (w : World) (hr0_1 : Kd.C Kd.bool w A0_1 l0_1.length l0_1) (hc0_1 : l0_1.length ≤ c0_1) (hr0_2 : Kd.C k64 w A0_2 l0_2.length l0_2) (hc0_2 : l0_2.length ≤ c0_2) (hr1_1 : Kd.C Kd.bool w A1_1 l1_1.length l1_1) (hc1_1 : l1_1.length ≤ c1_1) (hr1_2 : Kd.C k64 w A1_2 l1_2.length l1_2) (hc1_2 : l1_2.length ≤ c1_2) (h : impl_FollowsAt.f k a0_0 l0_1 l0_2 a1_0 l1_1 l1_2 a2 a3 = some r) :
  Calls Try.prog 56 #[.agg #[.int .i64 a0_0, .slice A0_1 l0_1.length c0_1, .slice A0_2 l0_2.length c0_2], .agg #[.int .i64 a1_0, .slice A1_1 l1_1.length c1_1, .slice A1_2 l1_2.length c1_2], .int .i64 a2, .int .i64 a3] w fun e w' => e = .returned (.bool r) ∧ Below w.heap.size w w' := by
 have hu31 := Try.underlying31
 have HR0_1 := Aside0.mk hr0_1
 have HC0_1 := Aside0.mk hc0_1
 clear hr0_1 hc0_1
 have HR0_2 := Aside0.mk hr0_2
 have HC0_2 := Aside0.mk hc0_2
 clear hr0_2 hc0_2
 have HR1_1 := Aside0.mk hr1_1
 have HC1_1 := Aside0.mk hc1_1
 clear hr1_1 hc1_1
 have HR1_2 := Aside0.mk hr1_2
 have HC1_2 := Aside0.mk hc1_2
 clear hr1_2 hc1_2
 have HB := Aside0.mk (Below.refl w.heap.size w)
 have H : ((impl_MovesFrom.f k a0_0 l0_1 l0_2 a2 true).bind fun t372 => ((impl_MovesFrom.f k a0_0 l0_1 l0_2 a2 false).bind fun t375 => ((impl_MovesFrom.f k a1_0 l1_1 l1_2 a3 true).bind fun t378 => ((impl_MovesFrom.f k a1_0 l1_1 l1_2 a3 false).bind fun t381 => ((impl_without.f k t381 t375).bind fun t384 => (if (t384.length : Int) > 0 then (impl_FollowsAt.j0 k a2 a3 t372 t375 t378 t381 true a0_0 l0_1 l0_2 a1_0 l1_1 l1_2) else ((impl_without.f k t372 t378).bind fun t387 => (impl_FollowsAt.j0 k a2 a3 t372 t375 t378 t381 (decide ((t387.length : Int) > 0)) a0_0 l0_1 l0_2 a1_0 l1_1 l1_2)))))))) = some r := h
 clear h
 obtain ⟨t372, A5, H⟩ := bindS H
 obtain ⟨t375, A6, H⟩ := bindS H
 obtain ⟨t378, A7, H⟩ := bindS H
 obtain ⟨t381, A8, H⟩ := bindS H
 have HC9 := Aside0.mk H
 clear H
 go_enter Try.func56, Try.ntmps56
 try go_wp2_with (first | ((with_reducible refine gate_dst (N := 4) rfl ?_); (try (refine gate_guard (by rfl) ?_; dsimp only)); refine box_event ?hg (N := 4) ?hd (cs := #[.int .i64 a0_0, .slice A0_1 l0_1.length c0_1, .slice A0_2 l0_2.length c0_2]) (t := 31) ?hr ?_; (case hd => rfl); (case hg => rfl); (case hr => first | (go_simp; done) | (go_simp; rfl)); intro gb370 hg w10 hbox hb; have BK370 := Aside0.mk (hbox); have GW370 := gS HB hg; have GE370 := gS HB hg; replace HB := bS HB hb; clear hb hbox hg) | ((with_reducible refine gate_dst (N := 5) rfl ?_); (try (refine gate_guard (by rfl) ?_; dsimp only)); refine box_event ?hg (N := 5) ?hd (cs := #[.int .i64 a1_0, .slice A1_1 l1_1.length c1_1, .slice A1_2 l1_2.length c1_2]) (t := 31) ?hr ?_; (case hd => rfl); (case hg => rfl); (case hr => first | (go_simp; done) | (go_simp; rfl)); intro gb371 hg w11 hbox hb; have BK371 := Aside0.mk (hbox); have GW371 := gS HB hg; have GE371 := gS HB hg; replace HB := bS HB hb; have NB370_371 := nL BK370 hg; have NB371_370 := nR BK370 hg; replace BK370 := kB BK370 hb; clear hb hbox hg))
 replace BK370 := Aside0.mk (blk_drew BK370.out)
 replace BK371 := Aside0.mk (blk_drew BK371.out)
 replace HB := Aside0.mk (below_drew1 HB.out)
 refine start_ (n := 8) (S := fun w' => w'.cell? ⟨gb370, 0, none⟩ = some (.int .i64 a0_0) ∧ w'.cell? ⟨gb370, 1, none⟩ = some (.slice A0_1 l0_1.length c0_1) ∧ w'.cell? ⟨gb370, 2, none⟩ = some (.slice A0_2 l0_2.length c0_2)) (ds := []) (bm 8 0) (by kernel_rfl) rfl (bm0 _) ⟨bc0 BK370, bc1 BK370, bc2 BK370⟩ (fun hHeld => ?_); refine with_tabW impl_FollowsAt.tab1 impl_FollowsAt.bits1 (fun HT_ HW_ => ?_)
 generalize w11.drew = w12 at BK370 BK371 HB hHeld ⊢
 refine pU 1 (some 14) (bm 8 2) HT_ rfl rfl ?_
 refine pU 4 (some 17) (bm 8 18) HT_ rfl rfl ?_
 refine tU 0 (some 13) (bm 8 19) HT_ HW_ rfl rfl hHeld ?_
 refine tU 3 (some 16) (bm 8 27) HT_ HW_ rfl rfl hHeld ?_
 refine one_ (i := 2) (N := some 15) (bm 8 31) rfl rfl (one_of HT_.out (by kernel_rfl)) (by decide) (fun K hK => ?_)
 refine goes_ Try.func64 (by kernel_rfl) rfl #[.agg #[.int .i64 a0_0, .slice A0_1 l0_1.length c0_1, .slice A0_2 l0_2.length c0_2], .int .i64 a2, .bool true] (by rfl) rfl rfl zG ?_
 with_reducible refine (impl_MovesFrom.calls k a0_0 _ _ l0_1 _ _ l0_2 a2 true t372 _ ?side1 ?side2 ?side3 ?side4 A5.out).mono ?_
 (case side1 => exact cS HR0_1 HB)
 (case side2 => exact HC0_1.out)
 (case side3 => exact cS HR0_2 HB)
 (case side4 => exact HC0_2.out)
 rintro e w13 ⟨v373, rfl, ho0, hb⟩
 refine ⟨_, rfl, ?_⟩
 have HO374 := Aside0.mk (Kd.R_lower ho0 (below_size (zB HB)))
 replace BK370 := kB BK370 hb
 replace BK371 := kB BK371 hb
 replace HB := bS HB hb
 (try clear hb)
 (try clear hb2)
 (try clear hk)
 (try clear hi)
 (try clear ho0)
 refine hK.out _ _ ⟨bc0 BK370, bc1 BK370, bc2 BK370⟩ (fun hHeld => ?_)
 clear hK K
 refine norm_ (a' := ?_) ?_ ?_
 rotate_left
 ·show Act.put _ (some 15) _ = _
  simp only [Act.put, List.setIfInBounds_toArray, List.set_cons_zero, List.set_cons_succ, i64_w, i32_w]
  rfl
 refine one_ (i := 5) (N := some 18) (bm 8 63) rfl rfl (one_of HT_.out (by kernel_rfl)) (by decide) (fun K hK => ?_)
 refine goes_ Try.func64 (by kernel_rfl) rfl #[.agg #[.int .i64 a0_0, .slice A0_1 l0_1.length c0_1, .slice A0_2 l0_2.length c0_2], .int .i64 a2, .bool false] (by rfl) rfl rfl zG ?_
 with_reducible refine (impl_MovesFrom.calls k a0_0 _ _ l0_1 _ _ l0_2 a2 false t375 _ ?side1 ?side2 ?side3 ?side4 A6.out).mono ?_
 (case side1 => exact cS HR0_1 HB)
 (case side2 => exact HC0_1.out)
 (case side3 => exact cS HR0_2 HB)
 (case side4 => exact HC0_2.out)
 rintro e w14 ⟨v376, rfl, ho0, hb⟩
 refine ⟨_, rfl, ?_⟩
 have HO377 := Aside0.mk (Kd.R_lower (Kd.R_new' ho0 (Kd.R_lt (zR HO374))) (below_size (zB HB)))
 replace HO374 := Aside0.mk (Kd.R_elder' (zR HO374) (Kd.R_base ho0) hb)
 replace BK370 := kB BK370 hb
 replace BK371 := kB BK371 hb
 replace HB := bS HB hb
 (try clear hb)
 (try clear hb2)
 (try clear hk)
 (try clear hi)
 (try clear ho0)
 refine hK.out _ _ ⟨bc0 BK370, bc1 BK370, bc2 BK370⟩ (fun hHeld => ?_)
 clear hK K
 refine norm_ (a' := ?_) ?_ ?_
 rotate_left
 ·show Act.put _ (some 18) _ = _
  simp only [Act.put, List.setIfInBounds_toArray, List.set_cons_zero, List.set_cons_succ, i64_w, i32_w]
  rfl
 refine pU 6 (some 9) (bm 8 127) HT_ rfl rfl ?_
 refine pU 7 (some 10) (bm 8 255) HT_ rfl rfl ?_
 refine done_ (done_of HT_.out (by kernel_rfl)) ?_
 try clear hHeld
 try go_wp2
 replace HO374 := Aside0.mk (Kd.R_drew HO374.out)
 replace HO377 := Aside0.mk (Kd.R_drew HO377.out)
 replace BK370 := Aside0.mk (blk_drew BK370.out)
 replace BK371 := Aside0.mk (blk_drew BK371.out)
 replace HB := Aside0.mk (below_drew1 HB.out)
 refine start_ (n := 8) (S := fun w' => w'.cell? ⟨gb371, 0, none⟩ = some (.int .i64 a1_0) ∧ w'.cell? ⟨gb371, 1, none⟩ = some (.slice A1_1 l1_1.length c1_1) ∧ w'.cell? ⟨gb371, 2, none⟩ = some (.slice A1_2 l1_2.length c1_2)) (ds := []) (bm 8 0) (by kernel_rfl) rfl (bm0 _) ⟨bc0 BK371, bc1 BK371, bc2 BK371⟩ (fun hHeld => ?_); refine with_tabW impl_FollowsAt.tab2 impl_FollowsAt.bits2 (fun HT_ HW_ => ?_)
 generalize w14.drew = w15 at HO374 HO377 BK370 BK371 HB hHeld ⊢
 refine pU 1 (some 20) (bm 8 2) HT_ rfl rfl ?_
 refine pU 4 (some 23) (bm 8 18) HT_ rfl rfl ?_
 refine tU 0 (some 19) (bm 8 19) HT_ HW_ rfl rfl hHeld ?_
 refine tU 3 (some 22) (bm 8 27) HT_ HW_ rfl rfl hHeld ?_
 refine one_ (i := 2) (N := some 21) (bm 8 31) rfl rfl (one_of HT_.out (by kernel_rfl)) (by decide) (fun K hK => ?_)
 refine goes_ Try.func64 (by kernel_rfl) rfl #[.agg #[.int .i64 a1_0, .slice A1_1 l1_1.length c1_1, .slice A1_2 l1_2.length c1_2], .int .i64 a3, .bool true] (by rfl) rfl rfl zG ?_
 with_reducible refine (impl_MovesFrom.calls k a1_0 _ _ l1_1 _ _ l1_2 a3 true t378 _ ?side1 ?side2 ?side3 ?side4 A7.out).mono ?_
 (case side1 => exact cS HR1_1 HB)
 (case side2 => exact HC1_1.out)
 (case side3 => exact cS HR1_2 HB)
 (case side4 => exact HC1_2.out)
 rintro e w16 ⟨v379, rfl, ho0, hb⟩
 refine ⟨_, rfl, ?_⟩
 have HO380 := Aside0.mk (Kd.R_lower (Kd.R_new' (Kd.R_new' ho0 (Kd.R_lt (zR HO374))) (Kd.R_lt (zR HO377))) (below_size (zB HB)))
 replace HO374 := Aside0.mk (Kd.R_elder' (zR HO374) (Kd.R_base ho0) hb)
 replace HO377 := Aside0.mk (Kd.R_elder' (zR HO377) (Kd.R_base ho0) hb)
 replace BK370 := kB BK370 hb
 replace BK371 := kB BK371 hb
 replace HB := bS HB hb
 (try clear hb)
 (try clear hb2)
 (try clear hk)
 (try clear hi)
 (try clear ho0)
 refine hK.out _ _ ⟨bc0 BK371, bc1 BK371, bc2 BK371⟩ (fun hHeld => ?_)
 clear hK K
 refine norm_ (a' := ?_) ?_ ?_
 rotate_left
 ·show Act.put _ (some 21) _ = _
  simp only [Act.put, List.setIfInBounds_toArray, List.set_cons_zero, List.set_cons_succ, i64_w, i32_w]
  rfl
 refine one_ (i := 5) (N := some 24) (bm 8 63) rfl rfl (one_of HT_.out (by kernel_rfl)) (by decide) (fun K hK => ?_)
 refine goes_ Try.func64 (by kernel_rfl) rfl #[.agg #[.int .i64 a1_0, .slice A1_1 l1_1.length c1_1, .slice A1_2 l1_2.length c1_2], .int .i64 a3, .bool false] (by rfl) rfl rfl zG ?_
 with_reducible refine (impl_MovesFrom.calls k a1_0 _ _ l1_1 _ _ l1_2 a3 false t381 _ ?side1 ?side2 ?side3 ?side4 A8.out).mono ?_
 (case side1 => exact cS HR1_1 HB)
 (case side2 => exact HC1_1.out)
 (case side3 => exact cS HR1_2 HB)
 (case side4 => exact HC1_2.out)
 rintro e w17 ⟨v382, rfl, ho0, hb⟩
 refine ⟨_, rfl, ?_⟩
 have HO383 := Aside0.mk (Kd.R_lower (Kd.R_new' (Kd.R_new' (Kd.R_new' ho0 (Kd.R_lt (zR HO374))) (Kd.R_lt (zR HO377))) (Kd.R_lt (zR HO380))) (below_size (zB HB)))
 replace HO374 := Aside0.mk (Kd.R_elder' (zR HO374) (Kd.R_base ho0) hb)
 replace HO377 := Aside0.mk (Kd.R_elder' (zR HO377) (Kd.R_base ho0) hb)
 replace HO380 := Aside0.mk (Kd.R_elder' (zR HO380) (Kd.R_base ho0) hb)
 replace BK370 := kB BK370 hb
 replace BK371 := kB BK371 hb
 replace HB := bS HB hb
 (try clear hb)
 (try clear hb2)
 (try clear hk)
 (try clear hi)
 (try clear ho0)
 refine hK.out _ _ ⟨bc0 BK371, bc1 BK371, bc2 BK371⟩ (fun hHeld => ?_)
 clear hK K
 refine norm_ (a' := ?_) ?_ ?_
 rotate_left
 ·show Act.put _ (some 24) _ = _
  simp only [Act.put, List.setIfInBounds_toArray, List.set_cons_zero, List.set_cons_succ, i64_w, i32_w]
  rfl
 refine pU 6 (some 11) (bm 8 127) HT_ rfl rfl ?_
 refine pU 7 (some 12) (bm 8 255) HT_ rfl rfl ?_
 refine done_ (done_of HT_.out (by kernel_rfl)) ?_
 try clear hHeld
 go_upto_region 3 with (fail)
 go_cut [25] (fun v25 wc => ∃ (kq : Nat) (x25_8 : Bool), v25 = .bool x25_8 ∧ Aside0 (impl_FollowsAt.j0 kq a2 a3 t372 t375 t378 t381 x25_8 a0_0 l0_1 l0_2 a1_0 l1_1 l1_2 = some r) ∧ Aside0 (kq ≤ k) ∧ Aside0 (Kd.R (Kd.int .i64) 3 wc w.heap.size (fun k_ => some k_ ≠ (v376 : Value).ownBlock ∧ some k_ ≠ (v379 : Value).ownBlock ∧ some k_ ≠ (v382 : Value).ownBlock) v373 t372) ∧ Aside0 (Kd.R (Kd.int .i64) 3 wc w.heap.size (fun k_ => some k_ ≠ (v373 : Value).ownBlock ∧ some k_ ≠ (v379 : Value).ownBlock ∧ some k_ ≠ (v382 : Value).ownBlock) v376 t375) ∧ Aside0 (Kd.R (Kd.int .i64) 3 wc w.heap.size (fun k_ => some k_ ≠ (v373 : Value).ownBlock ∧ some k_ ≠ (v376 : Value).ownBlock ∧ some k_ ≠ (v382 : Value).ownBlock) v379 t378) ∧ Aside0 (Kd.R (Kd.int .i64) 3 wc w.heap.size (fun k_ => some k_ ≠ (v373 : Value).ownBlock ∧ some k_ ≠ (v376 : Value).ownBlock ∧ some k_ ≠ (v379 : Value).ownBlock) v382 t381) ∧ Aside0 (wc.heap[gb370]? = some (.cells #[.int .i64 a0_0, (.slice A0_1 l0_1.length c0_1), (.slice A0_2 l0_2.length c0_2)] 31 (0, 0))) ∧ Aside0 (wc.heap[gb371]? = some (.cells #[.int .i64 a1_0, (.slice A1_1 l1_1.length c1_1), (.slice A1_2 l1_2.length c1_2)] 31 (0, 0))) ∧ Aside0 (Below w.heap.size w wc))
 case first =>
  have H := HC9.out
  clear HC9
  obtain ⟨t384, A18, H⟩ := bindS H
  by_cases c19 : (t384.length : Int) > 0
  ·rw [if_pos c19] at H
   have c19b0 : decide (0 < (t384.length : Int)) = true := decide_eq_true c19
   have c19b1 : decide (0 < t384.length) = true := decide_eq_true (by omega)
   clear c19
   (first | rw [c19b0] | (simp only [i64_w, i32_w]; rw [c19b0]) | skip)
   have H' := Aside0.mk H
   clear H
   obtain ⟨Ao20, co20, eo20⟩ := Kd.R_slice HO383.out
   subst eo20
   obtain ⟨Ao21, co21, eo21⟩ := Kd.R_slice HO377.out
   subst eo21
   go_wp2_with (first | ((with_reducible refine gate_callee (f := 70) rfl ?_); refine goesL_ (some 28) rfl rfl Try.func70 (by kernel_rfl) rfl #[.slice Ao20 t381.length co20, .slice Ao21 t375.length co21] rfl zG ?_; (with_reducible refine (impl_without.calls k _ _ t381 _ _ t375 t384 _ ?side1 ?side2 ?side3 ?side4 A18.out).mono ?_); (case side1 => repeat (first | exact (Kd.R_reads' HO383.out).2.2 | (with_reducible refine Kd.C_alloc ?_ _) | (with_reducible refine Kd.C_drewN ?_ _) | (with_reducible refine Kd.C_drew ?_))); (case side2 => exact (Kd.R_reads' HO383.out).2.1); (case side3 => repeat (first | exact (Kd.R_reads' HO377.out).2.2 | (with_reducible refine Kd.C_alloc ?_ _) | (with_reducible refine Kd.C_drewN ?_ _) | (with_reducible refine Kd.C_drew ?_))); (case side4 => exact (Kd.R_reads' HO377.out).2.1); rintro e w22 ⟨v385, rfl, ho0, hb⟩; refine ⟨_, rfl, ?_⟩; have HO386 := Aside0.mk (Kd.R_lower (Kd.R_new' (Kd.R_new' (Kd.R_new' (Kd.R_new' ho0 (Kd.R_lt (zR HO374))) (Kd.R_lt (zR HO377))) (Kd.R_lt (zR HO380))) (Kd.R_lt (zR HO383))) (below_size (zB HB))); replace HO374 := Aside0.mk (Kd.R_elder' (zR HO374) (Kd.R_base ho0) hb); replace HO377 := Aside0.mk (Kd.R_elder' (zR HO377) (Kd.R_base ho0) hb); replace HO380 := Aside0.mk (Kd.R_elder' (zR HO380) (Kd.R_base ho0) hb); replace HO383 := Aside0.mk (Kd.R_elder' (zR HO383) (Kd.R_base ho0) hb); replace BK370 := kB BK370 hb; replace BK371 := kB BK371 hb; replace HB := bS HB hb; (try clear hb); (try clear ho0); obtain ⟨Ao23, co23, eo23⟩ := Kd.R_slice HO386.out; subst eo23))
   go_meet
   case rel => exact ⟨_, (true), zF, H', ⟨by first | omega | exact Nat.le_refl _⟩, ⟨by (with_reducible repeat (first | apply Kd.R_alloc | apply Kd.R_drewN | apply Kd.R_drew)); exact Kd.R_mono HO374.out (fun _ hk => ⟨hk.1.1.1.2, ⟨hk.1.1.2, hk.1.2⟩⟩)⟩, ⟨by (with_reducible repeat (first | apply Kd.R_alloc | apply Kd.R_drewN | apply Kd.R_drew)); exact Kd.R_mono HO377.out (fun _ hk => ⟨hk.1.1.1.2, ⟨hk.1.1.2, hk.1.2⟩⟩)⟩, ⟨by (with_reducible repeat (first | apply Kd.R_alloc | apply Kd.R_drewN | apply Kd.R_drew)); exact Kd.R_mono HO380.out (fun _ hk => ⟨hk.1.1.1.2, ⟨hk.1.1.2, hk.1.2⟩⟩)⟩, ⟨by (with_reducible repeat (first | apply Kd.R_alloc | apply Kd.R_drewN | apply Kd.R_drew)); exact Kd.R_mono HO383.out (fun _ hk => ⟨hk.1.1.1.2, ⟨hk.1.1.2, hk.1.2⟩⟩)⟩, ⟨zK BK370⟩, ⟨zK BK371⟩, ⟨zB HB⟩⟩
  ·rw [if_neg c19] at H
   have c19b0 : decide (0 < (t384.length : Int)) = false := decide_eq_false c19
   have c19b1 : decide (0 < t384.length) = false := decide_eq_false (by omega)
   clear c19
   (first | rw [c19b0] | (simp only [i64_w, i32_w]; rw [c19b0]) | skip)
   obtain ⟨t387, A24, H⟩ := bindS H
   have H' := Aside0.mk H
   clear H
   obtain ⟨Ao25, co25, eo25⟩ := Kd.R_slice HO383.out
   subst eo25
   obtain ⟨Ao26, co26, eo26⟩ := Kd.R_slice HO377.out
   subst eo26
   go_wp2_with (first | ((with_reducible refine gate_callee (f := 70) rfl ?_); refine goesL_ (some 28) rfl rfl Try.func70 (by kernel_rfl) rfl #[.slice Ao25 t381.length co25, .slice Ao26 t375.length co26] rfl zG ?_; (with_reducible refine (impl_without.calls k _ _ t381 _ _ t375 t384 _ ?side1 ?side2 ?side3 ?side4 A18.out).mono ?_); (case side1 => repeat (first | exact (Kd.R_reads' HO383.out).2.2 | (with_reducible refine Kd.C_alloc ?_ _) | (with_reducible refine Kd.C_drewN ?_ _) | (with_reducible refine Kd.C_drew ?_))); (case side2 => exact (Kd.R_reads' HO383.out).2.1); (case side3 => repeat (first | exact (Kd.R_reads' HO377.out).2.2 | (with_reducible refine Kd.C_alloc ?_ _) | (with_reducible refine Kd.C_drewN ?_ _) | (with_reducible refine Kd.C_drew ?_))); (case side4 => exact (Kd.R_reads' HO377.out).2.1); rintro e w27 ⟨v385, rfl, ho0, hb⟩; refine ⟨_, rfl, ?_⟩; have HO386 := Aside0.mk (Kd.R_lower (Kd.R_new' (Kd.R_new' (Kd.R_new' (Kd.R_new' ho0 (Kd.R_lt (zR HO374))) (Kd.R_lt (zR HO377))) (Kd.R_lt (zR HO380))) (Kd.R_lt (zR HO383))) (below_size (zB HB))); replace HO374 := Aside0.mk (Kd.R_elder' (zR HO374) (Kd.R_base ho0) hb); replace HO377 := Aside0.mk (Kd.R_elder' (zR HO377) (Kd.R_base ho0) hb); replace HO380 := Aside0.mk (Kd.R_elder' (zR HO380) (Kd.R_base ho0) hb); replace HO383 := Aside0.mk (Kd.R_elder' (zR HO383) (Kd.R_base ho0) hb); replace BK370 := kB BK370 hb; replace BK371 := kB BK371 hb; replace HB := bS HB hb; (try clear hb); (try clear ho0); obtain ⟨Ao28, co28, eo28⟩ := Kd.R_slice HO386.out; subst eo28; obtain ⟨Ao29, co29, eo29⟩ := Kd.R_slice HO374.out; subst eo29; obtain ⟨Ao30, co30, eo30⟩ := Kd.R_slice HO380.out; subst eo30) | (go_at_call 70; (with_reducible refine (impl_without.calls k _ _ t372 _ _ t378 t387 _ ?side1 ?side2 ?side3 ?side4 A24.out).mono ?_); (case side1 => repeat (first | exact (Kd.R_reads' HO374.out).2.2 | (with_reducible refine Kd.C_alloc ?_ _) | (with_reducible refine Kd.C_drewN ?_ _) | (with_reducible refine Kd.C_drew ?_))); (case side2 => exact (Kd.R_reads' HO374.out).2.1); (case side3 => repeat (first | exact (Kd.R_reads' HO380.out).2.2 | (with_reducible refine Kd.C_alloc ?_ _) | (with_reducible refine Kd.C_drewN ?_ _) | (with_reducible refine Kd.C_drew ?_))); (case side4 => exact (Kd.R_reads' HO380.out).2.1); rintro e w31 ⟨v388, rfl, ho0, hb⟩; have HO389 := Aside0.mk (Kd.R_lower (Kd.R_new' (Kd.R_new' (Kd.R_new' (Kd.R_new' (Kd.R_new' ho0 (Kd.R_lt (zR HO374))) (Kd.R_lt (zR HO377))) (Kd.R_lt (zR HO380))) (Kd.R_lt (zR HO383))) (Kd.R_lt (zR HO386))) (below_size (zB HB))); replace HO374 := Aside0.mk (Kd.R_elder' (zR HO374) (Kd.R_base ho0) hb); replace HO377 := Aside0.mk (Kd.R_elder' (zR HO377) (Kd.R_base ho0) hb); replace HO380 := Aside0.mk (Kd.R_elder' (zR HO380) (Kd.R_base ho0) hb); replace HO383 := Aside0.mk (Kd.R_elder' (zR HO383) (Kd.R_base ho0) hb); replace HO386 := Aside0.mk (Kd.R_elder' (zR HO386) (Kd.R_base ho0) hb); replace BK370 := kB BK370 hb; replace BK371 := kB BK371 hb; replace HB := bS HB hb; (try clear hb); (try clear ho0); obtain ⟨Ao32, co32, eo32⟩ := Kd.R_slice HO389.out; subst eo32))
   go_meet
   case rel => exact ⟨_, (decide ((t387.length : Int) > 0)), zF, H', ⟨by first | omega | exact Nat.le_refl _⟩, ⟨by (with_reducible repeat (first | apply Kd.R_alloc | apply Kd.R_drewN | apply Kd.R_drew)); exact Kd.R_mono HO374.out (fun _ hk => ⟨hk.1.1.1.1.2, ⟨hk.1.1.1.2, hk.1.1.2⟩⟩)⟩, ⟨by (with_reducible repeat (first | apply Kd.R_alloc | apply Kd.R_drewN | apply Kd.R_drew)); exact Kd.R_mono HO377.out (fun _ hk => ⟨hk.1.1.1.1.2, ⟨hk.1.1.1.2, hk.1.1.2⟩⟩)⟩, ⟨by (with_reducible repeat (first | apply Kd.R_alloc | apply Kd.R_drewN | apply Kd.R_drew)); exact Kd.R_mono HO380.out (fun _ hk => ⟨hk.1.1.1.1.2, ⟨hk.1.1.1.2, hk.1.1.2⟩⟩)⟩, ⟨by (with_reducible repeat (first | apply Kd.R_alloc | apply Kd.R_drewN | apply Kd.R_drew)); exact Kd.R_mono HO383.out (fun _ hk => ⟨hk.1.1.1.1.2, ⟨hk.1.1.1.2, hk.1.1.2⟩⟩)⟩, ⟨zK BK370⟩, ⟨zK BK371⟩, ⟨zB HB⟩⟩
 case rest =>
  clear HC9
  try clear c1
  try clear p2
  try clear c5
  try clear c6
  try clear c7
  try clear c19
  try clear c19b0
  try clear c19b1
  obtain ⟨kq, x25_8, rfl, HA, HJ8, HO_9, HO_10, HO_11, HO_12, BK370, BK371, HB⟩ := hcut
  cases kq with
  | zero => exact absurd HA.out (by simp [impl_FollowsAt.j0])
  | succ kj8 =>
   have H := HA.out
   clear HA
   simp only [impl_FollowsAt.j0] at H
   by_cases c33 : x25_8 = true
   ·subst c33
    have H1 : (some false) = some r := by rw [if_pos rfl] at H; exact H
    clear H
    have H := H1
    clear H1
    obtain rfl := Option.some.inj H
    go_wp2
    go_ret
    exact ⟨zE, zB HB⟩
   ·replace c33 := Bool.eq_false_iff.mpr c33
    subst c33
    have H1 : (if ((decide ((t378.length : Int) > 0)) != (decide ((t372.length : Int) > 0))) = true then (impl_FollowsAt.j1 kj8 a2 a3 true a0_0 l0_1 l0_2 a1_0 l1_1 l1_2) else (if (t381.length : Int) = 0 then (impl_FollowsAt.j1 kj8 a2 a3 (decide ((t375.length : Int) > 0)) a0_0 l0_1 l0_2 a1_0 l1_1 l1_2) else (impl_FollowsAt.j1 kj8 a2 a3 false a0_0 l0_1 l0_2 a1_0 l1_1 l1_2))) = some r := by rw [if_neg (show ¬ (false = true) by decide)] at H; exact H
    clear H
    have H := H1
    clear H1
    have HC34 := Aside0.mk H
    clear H
    go_upto_region 5 with (fail)
    go_cut [38] (fun v38 wc => ∃ (kq : Nat) (x38_33 : Bool), v38 = .bool x38_33 ∧ Aside0 (impl_FollowsAt.j1 kq a2 a3 x38_33 a0_0 l0_1 l0_2 a1_0 l1_1 l1_2 = some r) ∧ Aside0 (kq ≤ kj8) ∧ Aside0 (wc.heap[gb370]? = some (.cells #[.int .i64 a0_0, (.slice A0_1 l0_1.length c0_1), (.slice A0_2 l0_2.length c0_2)] 31 (0, 0))) ∧ Aside0 (wc.heap[gb371]? = some (.cells #[.int .i64 a1_0, (.slice A1_1 l1_1.length c1_1), (.slice A1_2 l1_2.length c1_2)] 31 (0, 0))) ∧ Aside0 (Below w.heap.size w wc))
    case first =>
     have H := HC34.out
     clear HC34
     by_cases c35 : ((decide ((t378.length : Int) > 0)) != (decide ((t372.length : Int) > 0))) = true
     ·rw [if_pos c35] at H
      have c35b4 : ¬ (0 < t378.length ↔ 0 < t372.length) := fun q_ => by rw [show decide ((t378.length : Int) > 0) = decide ((t372.length : Int) > 0) from decide_eq_decide.2 (by omega)] at c35; simp at c35
      have c35b0 : ((decide ((t378.length : Int) > 0)) != (decide ((t372.length : Int) > 0))) = true := c35
      (try (have c35b1 : decide ((decide ((t378.length : Int) > 0)) = (decide ((t372.length : Int) > 0))) = false := by simpa using c35))
      (try (have c35b2 : ((decide ((t378.length : Int) > 0)) == (decide ((t372.length : Int) > 0))) = false := by simpa using c35))
      (try (have c35b3 : ¬ ((decide ((t378.length : Int) > 0)) = (decide ((t372.length : Int) > 0))) := by simpa using c35))
      clear c35
      (first | rw [c35b0] | (simp only [i64_w, i32_w]; rw [c35b0]) | skip)
      have H' := Aside0.mk H
      clear H
      obtain ⟨Ao36, co36, eo36⟩ := Kd.R_slice HO_11.out
      subst eo36
      obtain ⟨Ao37, co37, eo37⟩ := Kd.R_slice HO_9.out
      subst eo37
      go_wp2
      go_meet
      case rel => exact ⟨_, (true), zF, H', ⟨by have := HJ8.out; first | omega | exact Nat.le_refl _⟩, ⟨zK BK370⟩, ⟨zK BK371⟩, ⟨zB HB⟩⟩
     ·rw [if_neg c35] at H
      have c35b4 : (0 < t378.length ↔ 0 < t372.length) := by have h_ := decide_eq_decide.1 (show decide ((t378.length : Int) > 0) = decide ((t372.length : Int) > 0) from by simpa [bne] using c35); omega
      have c35b0 : ((decide ((t378.length : Int) > 0)) != (decide ((t372.length : Int) > 0))) = false := by simpa using c35
      (try (have c35b1 : decide ((decide ((t378.length : Int) > 0)) = (decide ((t372.length : Int) > 0))) = true := by simpa using c35))
      (try (have c35b2 : ((decide ((t378.length : Int) > 0)) == (decide ((t372.length : Int) > 0))) = true := by simpa using c35))
      clear c35
      (first | rw [c35b0] | (simp only [i64_w, i32_w]; rw [c35b0]) | skip)
      by_cases c38 : (t381.length : Int) = 0
      ·rw [if_pos c38] at H
       have c38b0 : ((t381.length : Int) == 0) = true := beq_iff_eq.mpr c38
       have c38b1 : ((t381.length : Int) != 0) = false := bne_eq_false_iff_eq.mpr c38
       clear c38
       have H' := Aside0.mk H
       clear H
       obtain ⟨Ao39, co39, eo39⟩ := Kd.R_slice HO_11.out
       subst eo39
       obtain ⟨Ao40, co40, eo40⟩ := Kd.R_slice HO_9.out
       subst eo40
       obtain ⟨Ao41, co41, eo41⟩ := Kd.R_slice HO_12.out
       subst eo41
       obtain ⟨Ao42, co42, eo42⟩ := Kd.R_slice HO_10.out
       subst eo42
       go_wp2
       go_meet
       case rel => exact ⟨_, (decide ((t375.length : Int) > 0)), zF, H', ⟨by have := HJ8.out; first | omega | exact Nat.le_refl _⟩, ⟨zK BK370⟩, ⟨zK BK371⟩, ⟨zB HB⟩⟩
      ·rw [if_neg c38] at H
       have c38b0 : ((t381.length : Int) == 0) = false := beq_eq_false_iff_ne.mpr c38
       have c38b1 : ((t381.length : Int) != 0) = true := bne_iff_ne.mpr c38
       have c38b2 : ¬ (t381 = []) := fun h_ => c38 (by rw [h_]; rfl)
       have H' := Aside0.mk H
       clear H
       obtain ⟨Ao43, co43, eo43⟩ := Kd.R_slice HO_11.out
       subst eo43
       obtain ⟨Ao44, co44, eo44⟩ := Kd.R_slice HO_9.out
       subst eo44
       obtain ⟨Ao45, co45, eo45⟩ := Kd.R_slice HO_12.out
       subst eo45
       go_wp2
       go_meet
       case rel => exact ⟨_, (false), zF, H', ⟨by have := HJ8.out; first | omega | exact Nat.le_refl _⟩, ⟨zK BK370⟩, ⟨zK BK371⟩, ⟨zB HB⟩⟩
    case rest =>
     clear HC34
     try clear c1
     try clear p2
     try clear c3
     try clear c5
     try clear c6
     try clear c7
     try clear c19
     try clear c19b0
     try clear c19b1
     try clear c33
     try clear c35
     try clear c35b0
     try clear c35b1
     try clear c35b2
     try clear c38
     try clear c38b0
     try clear c38b1
     try clear c38b2
     try clear p2
     obtain ⟨kq, x38_33, rfl, HA, HJ33, BK370, BK371, HB⟩ := hcut
     cases kq with
     | zero => exact absurd HA.out (by simp [impl_FollowsAt.j1])
     | succ kj33 =>
      have H := HA.out
      clear HA
      simp only [impl_FollowsAt.j1] at H
      by_cases c46 : x38_33 = true
      ·subst c46
       have H1 : (some false) = some r := by rw [if_pos rfl] at H; exact H
       clear H
       have H := H1
       clear H1
       obtain rfl := Option.some.inj H
       go_wp2
       go_ret
       exact ⟨zE, zB HB⟩
      ·replace c46 := Bool.eq_false_iff.mpr c46
       subst c46
       have H1 : ((impl_isEnd.f a0_0 l0_1 l0_2 a2).bind fun t390 => (if t390 = true then (some true) else ((impl_isEnd.f a1_0 l1_1 l1_2 a3).bind fun t391 => (some (!t391))))) = some r := by rw [if_neg (show ¬ (false = true) by decide)] at H; exact H
       clear H
       have H := H1
       clear H1
       obtain ⟨t390, A47, H⟩ := bindS H
       by_cases c48 : t390 = true
       ·subst c48
        have H1 : (some true) = some r := by rw [if_pos rfl] at H; exact H
        clear H
        have H := H1
        clear H1
        obtain rfl := Option.some.inj H
        have hnb49 := NB370_371.out
        have hnc49 := NB371_370.out
        have hcz50_0 := bc0 BK370
        have hcz50_1 := bc1 BK370
        have hcz50_2 := bc2 BK370
        have hfz50_0 := bf BK370 0
        have hfz50_1 := bf BK370 1
        have hfz50_2 := bf BK370 2
        go_wp2_with (first | ((with_reducible refine gate_callee (f := 71) rfl ?_); refine goesL_ (some 58) rfl rfl Try.func71 (by kernel_rfl) rfl #[.agg #[.int .i64 a0_0, .slice A0_1 l0_1.length c0_1, .slice A0_2 l0_2.length c0_2], .int .i64 a2] rfl zG ?_; (with_reducible refine (impl_isEnd.calls a0_0 _ _ l0_1 _ _ l0_2 a2 true _ ?side1 ?side2 ?side3 ?side4 A47.out).mono ?_); (case side1 => exact cS HR0_1 HB); (case side2 => exact HC0_1.out); (case side3 => exact cS HR0_2 HB); (case side4 => exact HC0_2.out); rintro e w51 ⟨rfl, hb⟩; refine ⟨_, rfl, ?_⟩; replace BK370 := kB BK370 hb; replace BK371 := kB BK371 hb; replace HB := bS HB hb; (try clear hb)))
        go_ret
        exact ⟨zE, zB HB⟩
       ·replace c48 := Bool.eq_false_iff.mpr c48
        subst c48
        have H1 : ((impl_isEnd.f a1_0 l1_1 l1_2 a3).bind fun t391 => (some (!t391))) = some r := by rw [if_neg (show ¬ (false = true) by decide)] at H; exact H
        clear H
        have H := H1
        clear H1
        obtain ⟨t391, A52, H⟩ := bindS H
        obtain rfl := Option.some.inj H
        have hnb53 := NB370_371.out
        have hnc53 := NB371_370.out
        have hcz54_0 := bc0 BK370
        have hcz54_1 := bc1 BK370
        have hcz54_2 := bc2 BK370
        have hfz54_0 := bf BK370 0
        have hfz54_1 := bf BK370 1
        have hfz54_2 := bf BK370 2
        go_wp2_with (first | ((with_reducible refine gate_callee (f := 71) rfl ?_); refine goesL_ (some 58) rfl rfl Try.func71 (by kernel_rfl) rfl #[.agg #[.int .i64 a0_0, .slice A0_1 l0_1.length c0_1, .slice A0_2 l0_2.length c0_2], .int .i64 a2] rfl zG ?_; (with_reducible refine (impl_isEnd.calls a0_0 _ _ l0_1 _ _ l0_2 a2 false _ ?side1 ?side2 ?side3 ?side4 A47.out).mono ?_); (case side1 => exact cS HR0_1 HB); (case side2 => exact HC0_1.out); (case side3 => exact cS HR0_2 HB); (case side4 => exact HC0_2.out); rintro e w55 ⟨rfl, hb⟩; refine ⟨_, rfl, ?_⟩; replace BK370 := kB BK370 hb; replace BK371 := kB BK371 hb; replace HB := bS HB hb; (try clear hb); have hcz56_0 := bc0 BK371; have hcz56_1 := bc1 BK371; have hcz56_2 := bc2 BK371; have hfz56_0 := bf BK371 0; have hfz56_1 := bf BK371 1; have hfz56_2 := bf BK371 2) | (go_at_call 71; (with_reducible refine (impl_isEnd.calls a1_0 _ _ l1_1 _ _ l1_2 a3 t391 _ ?side1 ?side2 ?side3 ?side4 A52.out).mono ?_); (case side1 => exact cS HR1_1 HB); (case side2 => exact HC1_1.out); (case side3 => exact cS HR1_2 HB); (case side4 => exact HC1_2.out); rintro e w57 ⟨rfl, hb⟩; replace BK370 := kB BK370 hb; replace BK371 := kB BK371 hb; replace HB := bS HB hb; (try clear hb)))
        go_ret
        exact ⟨zE, zB HB⟩

end Go.Proofs.Ytmenijbpglknbaa.PFnExactChainFollows
