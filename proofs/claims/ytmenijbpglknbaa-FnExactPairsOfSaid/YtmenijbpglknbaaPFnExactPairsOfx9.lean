-- WRITTEN by pp.py, this session's own wrapper around the print; not trusted: Lean checks it
import Derived.Test.YtmenijbpglknbaaPFnExactPairsOfx0
import Derived.Test.YtmenijbpglknbaaPFnExactPairsOfx6
import Derived.Test.YtmenijbpglknbaaPFnExactPairsOfx7
import Derived.Test.YtmenijbpglknbaaPFnExactPairsOfx8
namespace Go.Proofs.Ytmenijbpglknbaa.PFnExactPairsOf
open Go.RowKit Go.Proofs.Ytmenijbpglknbaa.Hw Go.Proofs.YtmenijbpglknbaaW.PrintWords Go.Proofs.YtmenijbpglknbaaW.PrintLast Go.Proofs.YtmenijbpglknbaaW.PrintMore
attribute [local go_sem] max2_int min2_int max_two min_two max_three min_three max_four min_four   -- for this text's walks alone
set_option linter.unusedVariables false
set_option linter.unusedSimpArgs false
set_option linter.unusedSectionVars false

/-! ### impl_PairsOf_reach: functions 42 and 43 (by hand) -/
set_option maxRecDepth 100000 in
theorem impl_PairsOf_reach.lit (k : Nat) (x y : Int) (a0_0 : Int) (A0_1 : Option Addr) (c0_1 : Nat) (l0_1 : List Bool) (A0_2 : Option Addr) (c0_2 : Nat) (l0_2 : List (S64)) (a1_0 : Int) (A1_1 : Option Addr) (c1_1 : Nat) (l1_1 : List Bool) (A1_2 : Option Addr) (c1_2 : Nat) (l1_2 : List (S64)) (r : List (List Int)) (W : World) (hr0_1 : Kd.C Kd.bool W A0_1 l0_1.length l0_1) (hc0_1 : l0_1.length ≤ c0_1) (hr0_2 : Kd.C k64 W A0_2 l0_2.length l0_2) (hc0_2 : l0_2.length ≤ c0_2) (hr1_1 : Kd.C Kd.bool W A1_1 l1_1.length l1_1) (hc1_1 : l1_1.length ≤ c1_1) (hr1_2 : Kd.C k64 W A1_2 l1_2.length l1_2) (hc1_2 : l1_2.length ≤ c1_2) {B0_ B1_ : Nat} (hB0_ : W.heap[B0_]? = some (.cells #[.int .i64 a0_0, .slice A0_1 l0_1.length c0_1, .slice A0_2 l0_2.length c0_2] 31 (0, 0))) (hB1_ : W.heap[B1_]? = some (.cells #[.int .i64 a1_0, .slice A1_1 l1_1.length c1_1, .slice A1_2 l1_2.length c1_2] 31 (0, 0))) (h : impl_NextPairs.f k a0_0 l0_1 l0_2 a1_0 l1_1 l1_2 x y = some r) :
  Calls Try.prog 43 #[.int .i64 x, .int .i64 y, .pointer (some ⟨B0_, 0, none⟩), .pointer (some ⟨B1_, 0, none⟩)] W fun e w' => ∃ v0_ : Value, e = .returned (v0_) ∧ Kd.S (Kd.slice 3 (Kd.int .i64)) 38 w' W.heap.size (fun _ => True) v0_ r ∧ Below W.heap.size W w' := by
 have hcl0_0 : W.cell? ⟨B0_, 0, none⟩ = some (.int .i64 a0_0) := (blk_cell hB0_ 0).trans rfl
 have hcl0_1 : W.cell? ⟨B0_, 1, none⟩ = some (.slice A0_1 l0_1.length c0_1) := (blk_cell hB0_ 1).trans rfl
 have hcl0_2 : W.cell? ⟨B0_, 2, none⟩ = some (.slice A0_2 l0_2.length c0_2) := (blk_cell hB0_ 2).trans rfl
 have hbk0_ := blk_lt hB0_
 have hcl1_0 : W.cell? ⟨B1_, 0, none⟩ = some (.int .i64 a1_0) := (blk_cell hB1_ 0).trans rfl
 have hcl1_1 : W.cell? ⟨B1_, 1, none⟩ = some (.slice A1_1 l1_1.length c1_1) := (blk_cell hB1_ 1).trans rfl
 have hcl1_2 : W.cell? ⟨B1_, 2, none⟩ = some (.slice A1_2 l1_2.length c1_2) := (blk_cell hB1_ 2).trans rfl
 have hbk1_ := blk_lt hB1_
 have hu31 := Try.underlying31
 have HX := Aside0.mk (impl_NextPairs.calls k a0_0 A0_1 c0_1 l0_1 A0_2 c0_2 l0_2 a1_0 A1_1 c1_1 l1_1 A1_2 c1_2 l1_2 x y r W hr0_1 hc0_1 hr0_2 hc0_2 hr1_1 hc1_1 hr1_2 hc1_2 h)
 clear h hr0_1 hc0_1 hr0_2 hc0_2 hr1_1 hc1_1 hr1_2 hc1_2
 go_enter Try.func43, Try.ntmps43
 go_wp2_with (go_at_call 44; refine HX.out.mono ?_; rintro e w' ⟨v_, rfl, hs, hb⟩)
 go_ret
 exact ⟨v_, rfl, hs, hb⟩
def impl_PairsOf_reach.f (k : Nat) (a0_0 : Int) (l0_1 : List Bool) (l0_2 : List (S64)) (a1_0 : Int) (l1_1 : List Bool) (l1_2 : List (S64)) : Option (List (List Int)) := impl_reached.f (inst_ := ⟨fun k_ x_ y_ => impl_NextPairs.f k_ a0_0 l0_1 l0_2 a1_0 l1_1 l1_2 x_ y_, fun x_ y_ k_ => impl_NextPairs.mono a0_0 l0_1 l0_2 a1_0 l1_1 l1_2 x_ y_ k_⟩) k
theorem impl_PairsOf_reach.mono : ∀ y0 y1 y2 y3 y4 y5 k, LeO (impl_PairsOf_reach.f k y0 y1 y2 y3 y4 y5) (impl_PairsOf_reach.f (k + 1) y0 y1 y2 y3 y4 y5) := fun y0 y1 y2 y3 y4 y5 => impl_reached.mono (inst_ := ⟨fun k_ x_ y_ => impl_NextPairs.f k_ y0 y1 y2 y3 y4 y5 x_ y_, fun x_ y_ k_ => impl_NextPairs.mono y0 y1 y2 y3 y4 y5 x_ y_ k_⟩)
theorem impl_PairsOf_reach.calls (k : Nat) (a0_0 : Int) (A0_1 : Option Addr) (c0_1 : Nat) (l0_1 : List Bool) (A0_2 : Option Addr) (c0_2 : Nat) (l0_2 : List (S64)) (a1_0 : Int) (A1_1 : Option Addr) (c1_1 : Nat) (l1_1 : List Bool) (A1_2 : Option Addr) (c1_2 : Nat) (l1_2 : List (S64)) (r : List (List Int)) (w : World) (hr0_1 : Kd.C Kd.bool w A0_1 l0_1.length l0_1) (hc0_1 : l0_1.length ≤ c0_1) (hr0_2 : Kd.C k64 w A0_2 l0_2.length l0_2) (hc0_2 : l0_2.length ≤ c0_2) (hr1_1 : Kd.C Kd.bool w A1_1 l1_1.length l1_1) (hc1_1 : l1_1.length ≤ c1_1) (hr1_2 : Kd.C k64 w A1_2 l1_2.length l1_2) (hc1_2 : l1_2.length ≤ c1_2) {B0_ B1_ : Nat} (hB0_ : w.heap[B0_]? = some (.cells #[.int .i64 a0_0, .slice A0_1 l0_1.length c0_1, .slice A0_2 l0_2.length c0_2] 31 (0, 0))) (hB1_ : w.heap[B1_]? = some (.cells #[.int .i64 a1_0, .slice A1_1 l1_1.length c1_1, .slice A1_2 l1_2.length c1_2] 31 (0, 0))) (h : impl_PairsOf_reach.f k a0_0 l0_1 l0_2 a1_0 l1_1 l1_2 = some r) :
  Calls Try.prog 42 #[.func (.func 43) #[] #[.pointer (some ⟨B0_, 0, none⟩), .pointer (some ⟨B1_, 0, none⟩)]] w fun e w' => ∃ v0_ : Value, e = .returned (v0_) ∧ Kd.S (Kd.slice 3 (Kd.int .i64)) 38 w' w.heap.size (fun _ => True) v0_ r ∧ Below w.heap.size w w' :=
 impl_reached.calls (inst_ := ⟨fun k_ x_ y_ => impl_NextPairs.f k_ a0_0 l0_1 l0_2 a1_0 l1_1 l1_2 x_ y_, fun x_ y_ k_ => impl_NextPairs.mono a0_0 l0_1 l0_2 a1_0 l1_1 l1_2 x_ y_ k_⟩) k r w Try.func43 (by kernel_rfl) rfl (lb_ := #[.pointer (some ⟨B0_, 0, none⟩), .pointer (some ⟨B1_, 0, none⟩)]) (fun k x y r W hb hf => impl_PairsOf_reach.lit k x y a0_0 A0_1 c0_1 l0_1 A0_2 c0_2 l0_2 a1_0 A1_1 c1_1 l1_1 A1_2 c1_2 l1_2 r W (Kd.C_below hr0_1 hb) hc0_1 (Kd.C_below hr0_2 hb) hc0_2 (Kd.C_below hr1_1 hb) hc1_1 (Kd.C_below hr1_2 hb) hc1_2 (blk_below hB0_ hb) (blk_below hB1_ hb) hf) h
/-! ### impl_PairsOf: function 12 -/
def impl_PairsOf.f (k : Nat) (a0_0 : Int) (l0_1 : List Bool) (l0_2 : List (S64)) (a1_0 : Int) (l1_1 : List Bool) (l1_2 : List (S64)) : Option ((List (List Int))) := (impl_IsMachine.f k a0_0 l0_1 l0_2).bind fun t322 => (if t322 = true then ((impl_IsMachine.f k a1_0 l1_1 l1_2).bind fun t323 => (if t323 = true then ((impl_PairsOf_reach.f k a0_0 l0_1 l0_2 a1_0 l1_1 l1_2).bind fun t324 => (some t324)) else (some ([] : List (List Int))))) else (some ([] : List (List Int))))
theorem impl_PairsOf.mono : ∀ a0 a1 a2 a3 a4 a5 k, LeO (impl_PairsOf.f k a0 a1 a2 a3 a4 a5) (impl_PairsOf.f (k + 1) a0 a1 a2 a3 a4 a5) := by
 intro a0 a1 a2 a3 a4 a5 k
 unfold impl_PairsOf.f
 repeat' first
   | (with_reducible exact impl_IsMachine.mono _ _ _ _)
   | (with_reducible exact impl_PairsOf_reach.mono _ _ _ _ _ _ _)
   | (with_reducible exact LeO.refl _)
   | (with_reducible exact LeO.none _)
   | (with_reducible refine LeO.ite ?_ ?_)
   | (with_reducible refine LeO.bind ?_ (fun _ => ?_))
   | exact impl_IsMachine.mono _ _ _ _
   | exact impl_PairsOf_reach.mono _ _ _ _ _ _ _
   | exact LeO.none _
   | refine LeO.ite ?_ ?_
   | refine LeO.bind ?_ (fun _ => ?_)
set_option maxHeartbeats 8000000 in
set_option maxRecDepth 100000 in
theorem impl_PairsOf.calls (k : Nat) (a0_0 : Int) (A0_1 : Option Addr) (c0_1 : Nat) (l0_1 : List Bool) (A0_2 : Option Addr) (c0_2 : Nat) (l0_2 : List (S64)) (a1_0 : Int) (A1_1 : Option Addr) (c1_1 : Nat) (l1_1 : List Bool) (A1_2 : Option Addr) (c1_2 : Nat) (l1_2 : List (S64)) (r : List (List Int)) (w : World) (hr0_1 : Kd.C Kd.bool w A0_1 l0_1.length l0_1) (hc0_1 : l0_1.length ≤ c0_1) (hr0_2 : Kd.C k64 w A0_2 l0_2.length l0_2) (hc0_2 : l0_2.length ≤ c0_2) (hr1_1 : Kd.C Kd.bool w A1_1 l1_1.length l1_1) (hc1_1 : l1_1.length ≤ c1_1) (hr1_2 : Kd.C k64 w A1_2 l1_2.length l1_2) (hc1_2 : l1_2.length ≤ c1_2) (h : impl_PairsOf.f k a0_0 l0_1 l0_2 a1_0 l1_1 l1_2 = some r) :
  Calls Try.prog 12 #[.agg #[.int .i64 a0_0, .slice A0_1 l0_1.length c0_1, .slice A0_2 l0_2.length c0_2], .agg #[.int .i64 a1_0, .slice A1_1 l1_1.length c1_1, .slice A1_2 l1_2.length c1_2]] w fun e w' => ∃ v0_ : Value, e = .returned (v0_) ∧ Kd.S (Kd.slice 3 (Kd.int .i64)) 38 w' w.heap.size (fun _ => True) v0_ r ∧ Below w.heap.size w w' := by
 have hu31 := Try.underlying31
 have HR0_1 := Aside0.mk hr0_1
 have HC0_1 := Aside0.mk hc0_1
 clear hr0_1 hc0_1
 have HR0_2 := Aside0.mk hr0_2
 have HC0_2 := Aside0.mk hc0_2
 clear hr0_2 hc0_2
 have HR1_1 := Aside0.mk hr1_1
 have HC1_1 := Aside0.mk hc1_1
 clear hr1_1 hc1_1
 have HR1_2 := Aside0.mk hr1_2
 have HC1_2 := Aside0.mk hc1_2
 clear hr1_2 hc1_2
 have HB := Aside0.mk (Below.refl w.heap.size w)
 have H : ((impl_IsMachine.f k a0_0 l0_1 l0_2).bind fun t322 => (if t322 = true then ((impl_IsMachine.f k a1_0 l1_1 l1_2).bind fun t323 => (if t323 = true then ((impl_PairsOf_reach.f k a0_0 l0_1 l0_2 a1_0 l1_1 l1_2).bind fun t324 => (some t324)) else (some ([] : List (List Int))))) else (some ([] : List (List Int))))) = some r := h
 clear h
 obtain ⟨t322, A3, H⟩ := bindS H
 by_cases c4 : t322 = true
 ·subst c4
  have H1 : ((impl_IsMachine.f k a1_0 l1_1 l1_2).bind fun t323 => (if t323 = true then ((impl_PairsOf_reach.f k a0_0 l0_1 l0_2 a1_0 l1_1 l1_2).bind fun t324 => (some t324)) else (some ([] : List (List Int))))) = some r := by rw [if_pos rfl] at H; exact H
  clear H
  have H := H1
  clear H1
  obtain ⟨t323, A5, H⟩ := bindS H
  by_cases c6 : t323 = true
  ·subst c6
   have H1 : ((impl_PairsOf_reach.f k a0_0 l0_1 l0_2 a1_0 l1_1 l1_2).bind fun t324 => (some t324)) = some r := by rw [if_pos rfl] at H; exact H
   clear H
   have H := H1
   clear H1
   obtain ⟨t324, A7, H⟩ := bindS H
   obtain rfl := Option.some.inj H
   go_enter Try.func12, Try.ntmps12
   go_wp2_with (first | ((with_reducible refine gate_dst (N := 2) rfl ?_); refine box_event ?hg (N := 2) ?hd (cs := #[.int .i64 a0_0, .slice A0_1 l0_1.length c0_1, .slice A0_2 l0_2.length c0_2]) (t := 31) ?hr ?_; (case hd => rfl); (case hg => rfl); (case hr => first | (go_simp; done) | (go_simp; rfl)); intro gb320 hg w8 hbox hb; have BK320 := Aside0.mk (hbox); have GW320 := gS HB hg; have GE320 := gS HB hg; replace HB := bS HB hb; clear hb hbox hg) | ((with_reducible refine gate_dst (N := 3) rfl ?_); refine box_event ?hg (N := 3) ?hd (cs := #[.int .i64 a1_0, .slice A1_1 l1_1.length c1_1, .slice A1_2 l1_2.length c1_2]) (t := 31) ?hr ?_; (case hd => rfl); (case hg => rfl); (case hr => first | (go_simp; done) | (go_simp; rfl)); intro gb321 hg w9 hbox hb; have BK321 := Aside0.mk (hbox); have GW321 := gS HB hg; have GE321 := gS HB hg; replace HB := bS HB hb; have NB320_321 := nL BK320 hg; have NB321_320 := nR BK320 hg; replace BK320 := kB BK320 hb; clear hb hbox hg; have hnb10 := NB320_321.out; have hnc10 := NB321_320.out; have hcz11_0 := bc0 BK320; have hcz11_1 := bc1 BK320; have hcz11_2 := bc2 BK320; have hfz11_0 := bf BK320 0; have hfz11_1 := bf BK320 1; have hfz11_2 := bf BK320 2) | ((with_reducible refine gate_callee (f := 41) rfl ?_); refine goesL_ (some 6) rfl rfl Try.func41 (by kernel_rfl) rfl #[.agg #[.int .i64 a0_0, .slice A0_1 l0_1.length c0_1, .slice A0_2 l0_2.length c0_2]] rfl zG ?_; (with_reducible refine (impl_IsMachine.calls k a0_0 _ _ l0_1 _ _ l0_2 true _ ?side1 ?side2 ?side3 ?side4 A3.out).mono ?_); (case side1 => exact cS HR0_1 HB); (case side2 => exact HC0_1.out); (case side3 => exact cS HR0_2 HB); (case side4 => exact HC0_2.out); rintro e w12 ⟨rfl, hb⟩; refine ⟨_, rfl, ?_⟩; replace BK320 := kB BK320 hb; replace BK321 := kB BK321 hb; replace HB := bS HB hb; (try clear hb); have hcz13_0 := bc0 BK321; have hcz13_1 := bc1 BK321; have hcz13_2 := bc2 BK321; have hfz13_0 := bf BK321 0; have hfz13_1 := bf BK321 1; have hfz13_2 := bf BK321 2) | (go_at_call 41; (with_reducible refine (impl_IsMachine.calls k a1_0 _ _ l1_1 _ _ l1_2 true _ ?side1 ?side2 ?side3 ?side4 A5.out).mono ?_); (case side1 => exact cS HR1_1 HB); (case side2 => exact HC1_1.out); (case side3 => exact cS HR1_2 HB); (case side4 => exact HC1_2.out); rintro e w14 ⟨rfl, hb⟩; replace BK320 := kB BK320 hb; replace BK321 := kB BK321 hb; replace HB := bS HB hb; (try clear hb)) | ((with_reducible refine gate_callee (f := 42) rfl ?_); refine goesL_ (some 14) rfl rfl Try.func42 (by kernel_rfl) rfl #[.func (.func 43) #[] #[.pointer (some ⟨gb320, 0, none⟩), .pointer (some ⟨gb321, 0, none⟩)]] rfl zG ?_; (with_reducible refine (impl_PairsOf_reach.calls k a0_0 A0_1 c0_1 l0_1 A0_2 c0_2 l0_2 a1_0 A1_1 c1_1 l1_1 A1_2 c1_2 l1_2 t324 _ ?side1 ?side2 ?side3 ?side4 ?side5 ?side6 ?side7 ?side8 ?side9 ?side10 A7.out).mono ?_); (case side1 => exact cS HR0_1 HB); (case side2 => exact HC0_1.out); (case side3 => exact cS HR0_2 HB); (case side4 => exact HC0_2.out); (case side5 => exact cS HR1_1 HB); (case side6 => exact HC1_1.out); (case side7 => exact cS HR1_2 HB); (case side8 => exact HC1_2.out); (case side9 => exact (fun h_ => h_) (zK BK320)); (case side10 => exact (fun h_ => h_) (zK BK321)); rintro e w15 ⟨v325, rfl, ho0, hb⟩; refine ⟨_, rfl, ?_⟩; have HO326 := Aside0.mk (Kd.S_lower ho0 (below_size (zB HB))); replace BK320 := kB BK320 hb; replace BK321 := kB BK321 hb; replace HB := bS HB hb; (try clear hb); (try clear ho0)))
   go_ret
   exact ⟨_, zE, by (with_reducible repeat (first | apply Kd.S_alloc | apply Kd.S_drewN | apply Kd.S_drew)); exact HO326.out, zB HB⟩
  ·replace c6 := Bool.eq_false_iff.mpr c6
   subst c6
   have H1 : (some ([] : List (List Int))) = some r := by rw [if_neg (show ¬ (false = true) by decide)] at H; exact H
   clear H
   have H := H1
   clear H1
   obtain rfl := Option.some.inj H
   go_enter Try.func12, Try.ntmps12
   go_wp2_with (first | ((with_reducible refine gate_dst (N := 2) rfl ?_); refine box_event ?hg (N := 2) ?hd (cs := #[.int .i64 a0_0, .slice A0_1 l0_1.length c0_1, .slice A0_2 l0_2.length c0_2]) (t := 31) ?hr ?_; (case hd => rfl); (case hg => rfl); (case hr => first | (go_simp; done) | (go_simp; rfl)); intro gb320 hg w16 hbox hb; have BK320 := Aside0.mk (hbox); have GW320 := gS HB hg; have GE320 := gS HB hg; replace HB := bS HB hb; clear hb hbox hg) | ((with_reducible refine gate_dst (N := 3) rfl ?_); refine box_event ?hg (N := 3) ?hd (cs := #[.int .i64 a1_0, .slice A1_1 l1_1.length c1_1, .slice A1_2 l1_2.length c1_2]) (t := 31) ?hr ?_; (case hd => rfl); (case hg => rfl); (case hr => first | (go_simp; done) | (go_simp; rfl)); intro gb321 hg w17 hbox hb; have BK321 := Aside0.mk (hbox); have GW321 := gS HB hg; have GE321 := gS HB hg; replace HB := bS HB hb; have NB320_321 := nL BK320 hg; have NB321_320 := nR BK320 hg; replace BK320 := kB BK320 hb; clear hb hbox hg; have hnb18 := NB320_321.out; have hnc18 := NB321_320.out; have hcz19_0 := bc0 BK320; have hcz19_1 := bc1 BK320; have hcz19_2 := bc2 BK320; have hfz19_0 := bf BK320 0; have hfz19_1 := bf BK320 1; have hfz19_2 := bf BK320 2) | ((with_reducible refine gate_callee (f := 41) rfl ?_); refine goesL_ (some 6) rfl rfl Try.func41 (by kernel_rfl) rfl #[.agg #[.int .i64 a0_0, .slice A0_1 l0_1.length c0_1, .slice A0_2 l0_2.length c0_2]] rfl zG ?_; (with_reducible refine (impl_IsMachine.calls k a0_0 _ _ l0_1 _ _ l0_2 true _ ?side1 ?side2 ?side3 ?side4 A3.out).mono ?_); (case side1 => exact cS HR0_1 HB); (case side2 => exact HC0_1.out); (case side3 => exact cS HR0_2 HB); (case side4 => exact HC0_2.out); rintro e w20 ⟨rfl, hb⟩; refine ⟨_, rfl, ?_⟩; replace BK320 := kB BK320 hb; replace BK321 := kB BK321 hb; replace HB := bS HB hb; (try clear hb); have hcz21_0 := bc0 BK321; have hcz21_1 := bc1 BK321; have hcz21_2 := bc2 BK321; have hfz21_0 := bf BK321 0; have hfz21_1 := bf BK321 1; have hfz21_2 := bf BK321 2) | (go_at_call 41; (with_reducible refine (impl_IsMachine.calls k a1_0 _ _ l1_1 _ _ l1_2 false _ ?side1 ?side2 ?side3 ?side4 A5.out).mono ?_); (case side1 => exact cS HR1_1 HB); (case side2 => exact HC1_1.out); (case side3 => exact cS HR1_2 HB); (case side4 => exact HC1_2.out); rintro e w22 ⟨rfl, hb⟩; replace BK320 := kB BK320 hb; replace BK321 := kB BK321 hb; replace HB := bS HB hb; (try clear hb)))
   go_ret
   exact ⟨_, zE, by first | exact Kd.S_nil _ _ _ _ _ | exact Kd.N_nil _ _ _ _ _ | exact Kd.V_nil _ _ _ _ _ | exact Kd.Q_nil _ _ _ _ _ | exact Kd.R_nil _ _ _ _ _, zB HB⟩
 ·replace c4 := Bool.eq_false_iff.mpr c4
  subst c4
  have H1 : (some ([] : List (List Int))) = some r := by rw [if_neg (show ¬ (false = true) by decide)] at H; exact H
  clear H
  have H := H1
  clear H1
  obtain rfl := Option.some.inj H
  go_enter Try.func12, Try.ntmps12
  go_wp2_with (first | ((with_reducible refine gate_dst (N := 2) rfl ?_); refine box_event ?hg (N := 2) ?hd (cs := #[.int .i64 a0_0, .slice A0_1 l0_1.length c0_1, .slice A0_2 l0_2.length c0_2]) (t := 31) ?hr ?_; (case hd => rfl); (case hg => rfl); (case hr => first | (go_simp; done) | (go_simp; rfl)); intro gb320 hg w23 hbox hb; have BK320 := Aside0.mk (hbox); have GW320 := gS HB hg; have GE320 := gS HB hg; replace HB := bS HB hb; clear hb hbox hg) | ((with_reducible refine gate_dst (N := 3) rfl ?_); refine box_event ?hg (N := 3) ?hd (cs := #[.int .i64 a1_0, .slice A1_1 l1_1.length c1_1, .slice A1_2 l1_2.length c1_2]) (t := 31) ?hr ?_; (case hd => rfl); (case hg => rfl); (case hr => first | (go_simp; done) | (go_simp; rfl)); intro gb321 hg w24 hbox hb; have BK321 := Aside0.mk (hbox); have GW321 := gS HB hg; have GE321 := gS HB hg; replace HB := bS HB hb; have NB320_321 := nL BK320 hg; have NB321_320 := nR BK320 hg; replace BK320 := kB BK320 hb; clear hb hbox hg; have hnb25 := NB320_321.out; have hnc25 := NB321_320.out; have hcz26_0 := bc0 BK320; have hcz26_1 := bc1 BK320; have hcz26_2 := bc2 BK320; have hfz26_0 := bf BK320 0; have hfz26_1 := bf BK320 1; have hfz26_2 := bf BK320 2) | ((with_reducible refine gate_callee (f := 41) rfl ?_); refine goesL_ (some 6) rfl rfl Try.func41 (by kernel_rfl) rfl #[.agg #[.int .i64 a0_0, .slice A0_1 l0_1.length c0_1, .slice A0_2 l0_2.length c0_2]] rfl zG ?_; (with_reducible refine (impl_IsMachine.calls k a0_0 _ _ l0_1 _ _ l0_2 false _ ?side1 ?side2 ?side3 ?side4 A3.out).mono ?_); (case side1 => exact cS HR0_1 HB); (case side2 => exact HC0_1.out); (case side3 => exact cS HR0_2 HB); (case side4 => exact HC0_2.out); rintro e w27 ⟨rfl, hb⟩; refine ⟨_, rfl, ?_⟩; replace BK320 := kB BK320 hb; replace BK321 := kB BK321 hb; replace HB := bS HB hb; (try clear hb)))
  go_ret
  exact ⟨_, zE, by first | exact Kd.S_nil _ _ _ _ _ | exact Kd.N_nil _ _ _ _ _ | exact Kd.V_nil _ _ _ _ _ | exact Kd.Q_nil _ _ _ _ _ | exact Kd.R_nil _ _ _ _ _, zB HB⟩

/-! ### laws_eqIntS: function 22 -/
def laws_eqIntS.l0 : Nat → List Int → List Int → Int → Option (Bool)
 | 0, _, _, _ => none
 | k + 1, x0, x1, x5 => if x5 < (x0.length : Int) then (if 0 ≤ x5 then (if x5 < (x1.length : Int) then (if (rd x0 x5) = (rd x1 x5) then (laws_eqIntS.l0 k x0 x1 (wrap64 (x5 + 1))) else (some false)) else (none)) else (none)) else (some true)
def laws_eqIntS.f (k : Nat) (l0 : List Int) (l1 : List Int) : Option (Bool) := if (l0.length : Int) = (l1.length : Int) then (laws_eqIntS.l0 k l0 l1 0) else (some false)
theorem laws_eqIntS.mono_l : ∀ k, (∀ y0 y1 y2, LeO (laws_eqIntS.l0 k y0 y1 y2) (laws_eqIntS.l0 (k + 1) y0 y1 y2))
 | 0 => fun _ _ _ r h => by simp [laws_eqIntS.l0] at h
 | k + 1 => by
  have ih0 := laws_eqIntS.mono_l k
  ·intro y0 y1 y2
   unfold laws_eqIntS.l0
   repeat' first
   | (with_reducible exact ih0 _ _ _)
   | (with_reducible exact LeO.refl _)
   | (with_reducible exact LeO.none _)
   | (with_reducible refine LeO.ite ?_ ?_)
   | (with_reducible refine LeO.bind ?_ (fun _ => ?_))
   | exact ih0 _ _ _
   | exact LeO.none _
   | refine LeO.ite ?_ ?_
   | refine LeO.bind ?_ (fun _ => ?_)
theorem laws_eqIntS.mono : ∀ a0 a1 k, LeO (laws_eqIntS.f k a0 a1) (laws_eqIntS.f (k + 1) a0 a1) := by
 intro a0 a1 k
 have ih0 := laws_eqIntS.mono_l k
 unfold laws_eqIntS.f
 repeat' first
   | (with_reducible exact ih0 _ _ _)
   | (with_reducible exact LeO.refl _)
   | (with_reducible exact LeO.none _)
   | (with_reducible refine LeO.ite ?_ ?_)
   | (with_reducible refine LeO.bind ?_ (fun _ => ?_))
   | exact ih0 _ _ _
   | exact LeO.none _
   | refine LeO.ite ?_ ?_
   | refine LeO.bind ?_ (fun _ => ?_)
set_option maxHeartbeats 8000000 in
set_option maxRecDepth 100000 in
theorem laws_eqIntS.calls (k : Nat) (A0 : Option Addr) (c0 : Nat) (l0 : List Int) (A1 : Option Addr) (c1 : Nat) (l1 : List Int) (r : Bool) (w : World) (hr0 : Kd.C (Kd.int .i64) w A0 l0.length l0) (hc0 : l0.length ≤ c0) (hr1 : Kd.C (Kd.int .i64) w A1 l1.length l1) (hc1 : l1.length ≤ c1) (h : laws_eqIntS.f k l0 l1 = some r) :
  Calls Try.prog 22 #[.slice A0 l0.length c0, .slice A1 l1.length c1] w fun e w' => e = .returned (.bool r) ∧ Drawn0 w w' := by
 have HR0 := Aside0.mk hr0
 have HC0 := Aside0.mk hc0
 clear hr0 hc0
 have HR1 := Aside0.mk hr1
 have HC1 := Aside0.mk hc1
 clear hr1 hc1
 have H : (if (l0.length : Int) = (l1.length : Int) then (laws_eqIntS.l0 k l0 l1 0) else (some false)) = some r := h
 clear h
 by_cases c3 : (l0.length : Int) = (l1.length : Int)
 ·rw [if_pos c3] at H
  have c3b0 : ((l0.length : Int) == (l1.length : Int)) = true := beq_iff_eq.mpr c3
  have c3b1 : ((l0.length : Int) != (l1.length : Int)) = false := bne_eq_false_iff_eq.mpr c3
  have c3b2 : (l0.length == l1.length) = true := by first | simpa using c3 | (simp at c3 ⊢; omega)
  clear c3
  have H' := Aside0.mk H
  clear H
  go_enter Try.func22, Try.ntmps22
  go_wp2
  repeat (go_quiet (fail); try go_wp2)
  go_loopg [5] k (fun kq v5 w' => ∃ (x5_1 : Int), v5 = .int .i64 x5_1 ∧ Aside0 (laws_eqIntS.l0 kq l0 l1 x5_1 = some r) ∧ Aside0 (kq ≤ k) ∧ Drawn0 w w')
  case atStart => exact ⟨(0), zF, H', ⟨Nat.le_refl _⟩, by repeat (first | exact Drawn0.refl _ | apply Drawn0.step)⟩
  case round =>
   clear H'
   try clear c1
   try clear c2
   try clear p2
   try clear c3
   try clear c3b0
   try clear c3b1
   try clear c3b2
   obtain ⟨x5_1, rfl, HA, HK1, ⟨m1, rfl⟩⟩ := hrel
   cases gk with
   | zero => exact absurd HA.out (by simp [laws_eqIntS.l0])
   | succ k1 =>
    have H := HA.out
    clear HA
    simp only [laws_eqIntS.l0] at H
    by_cases c4 : x5_1 < (l0.length : Int)
    ·rw [if_pos c4] at H
     have c4b0 : decide (x5_1 < (l0.length : Int)) = true := decide_eq_true c4
     clear c4
     obtain ⟨c5, H⟩ := ifS H
     have c5b0 : decide (0 ≤ x5_1) = true := decide_eq_true c5
     clear c5
     obtain ⟨c6, H⟩ := ifS H
     have c6b0 : decide (x5_1 < (l1.length : Int)) = true := decide_eq_true c6
     clear c6
     by_cases c7 : (rd l0 x5_1) = (rd l1 x5_1)
     ·rw [if_pos c7] at H
      have c7b0 : ((rd l0 x5_1) == (rd l1 x5_1)) = true := beq_iff_eq.mpr c7
      have c7b1 : ((rd l0 x5_1) != (rd l1 x5_1)) = false := bne_eq_false_iff_eq.mpr c7
      clear c7
      have H' := Aside0.mk H
      clear H
      have p327 : 0 ≤ (x5_1 : Int) := zD
      have q327 : x5_1 < (l0.length : Int) := zD
      obtain ⟨ad327, e327, hx327_0⟩ := Kd.at_int HR0.out x5_1 p327 q327
      cases e327
      replace p327 := eq_true p327
      replace q327 := eq_true q327
      have p328 : 0 ≤ (x5_1 : Int) := zD
      have q328 : x5_1 < (l1.length : Int) := zD
      obtain ⟨ad328, e328, hx328_0⟩ := Kd.at_int HR1.out x5_1 p328 q328
      cases e328
      replace p328 := eq_true p328
      replace q328 := eq_true q328
      go_wp2
      repeat (go_quiet (fail); try go_wp2)
      go_roundg k1
      case measure => have := HK1.out; omega
      case rel => exact ⟨(wrap64 (x5_1 + 1)), zF, H', ⟨by have := HK1.out; omega⟩, by repeat (first | exact Drawn0.refl _ | apply Drawn0.step)⟩
     ·rw [if_neg c7] at H
      have c7b0 : ((rd l0 x5_1) == (rd l1 x5_1)) = false := beq_eq_false_iff_ne.mpr c7
      have c7b1 : ((rd l0 x5_1) != (rd l1 x5_1)) = true := bne_iff_ne.mpr c7
      obtain rfl := Option.some.inj H
      have p327 : 0 ≤ (x5_1 : Int) := zD
      have q327 : x5_1 < (l0.length : Int) := zD
      obtain ⟨ad327, e327, hx327_0⟩ := Kd.at_int HR0.out x5_1 p327 q327
      cases e327
      replace p327 := eq_true p327
      replace q327 := eq_true q327
      have p328 : 0 ≤ (x5_1 : Int) := zD
      have q328 : x5_1 < (l1.length : Int) := zD
      obtain ⟨ad328, e328, hx328_0⟩ := Kd.at_int HR1.out x5_1 p328 q328
      cases e328
      replace p328 := eq_true p328
      replace q328 := eq_true q328
      go_wp2
      repeat (go_quiet (fail); try go_wp2)
      go_ret
      exact ⟨by first | rfl | (simp; done) | (simp [*]; done), by repeat (first | exact Drawn0.refl _ | apply Drawn0.step)⟩
    ·rw [if_neg c4] at H
     have c4b0 : decide (x5_1 < (l0.length : Int)) = false := decide_eq_false c4
     clear c4
     obtain rfl := Option.some.inj H
     go_wp2
     repeat (go_quiet (fail); try go_wp2)
     go_ret
     exact ⟨by first | rfl | (simp; done) | (simp [*]; done), by repeat (first | exact Drawn0.refl _ | apply Drawn0.step)⟩
 ·rw [if_neg c3] at H
  have c3b0 : ((l0.length : Int) == (l1.length : Int)) = false := beq_eq_false_iff_ne.mpr c3
  have c3b1 : ((l0.length : Int) != (l1.length : Int)) = true := bne_iff_ne.mpr c3
  have c3b2 : (l0.length == l1.length) = false := by first | simpa using c3 | (simp at c3 ⊢; omega)
  obtain rfl := Option.some.inj H
  go_enter Try.func22, Try.ntmps22
  go_wp2
  repeat (go_quiet (fail); try go_wp2)
  go_ret
  exact ⟨by first | rfl | (simp; done) | (simp [*]; done), by repeat (first | exact Drawn0.refl _ | apply Drawn0.step)⟩

/-! ### laws_eqIntSS: function 13 -/
def laws_eqIntSS.l0 : Nat → List (List Int) → List (List Int) → Int → Option (Bool)
 | 0, _, _, _ => none
 | k + 1, x0, x1, x5 => if x5 < (x0.length : Int) then (if 0 ≤ x5 then (if x5 < (x1.length : Int) then ((laws_eqIntS.f k (rd_L4 x0 x5) (rd_L4 x1 x5)).bind fun t331 => (if t331 = true then (laws_eqIntSS.l0 k x0 x1 (wrap64 (x5 + 1))) else (some false))) else (none)) else (none)) else (some true)
def laws_eqIntSS.f (k : Nat) (l0 : List (List Int)) (l1 : List (List Int)) : Option (Bool) := if (l0.length : Int) = (l1.length : Int) then (laws_eqIntSS.l0 k l0 l1 0) else (some false)
theorem laws_eqIntSS.mono_l : ∀ k, (∀ y0 y1 y2, LeO (laws_eqIntSS.l0 k y0 y1 y2) (laws_eqIntSS.l0 (k + 1) y0 y1 y2))
 | 0 => fun _ _ _ r h => by simp [laws_eqIntSS.l0] at h
 | k + 1 => by
  have ih0 := laws_eqIntSS.mono_l k
  ·intro y0 y1 y2
   unfold laws_eqIntSS.l0
   repeat' first
   | (with_reducible exact ih0 _ _ _)
   | (with_reducible exact laws_eqIntS.mono _ _ _)
   | (with_reducible exact LeO.refl _)
   | (with_reducible exact LeO.none _)
   | (with_reducible refine LeO.ite ?_ ?_)
   | (with_reducible refine LeO.bind ?_ (fun _ => ?_))
   | exact ih0 _ _ _
   | exact laws_eqIntS.mono _ _ _
   | exact LeO.none _
   | refine LeO.ite ?_ ?_
   | refine LeO.bind ?_ (fun _ => ?_)
theorem laws_eqIntSS.mono : ∀ a0 a1 k, LeO (laws_eqIntSS.f k a0 a1) (laws_eqIntSS.f (k + 1) a0 a1) := by
 intro a0 a1 k
 have ih0 := laws_eqIntSS.mono_l k
 unfold laws_eqIntSS.f
 repeat' first
   | (with_reducible exact ih0 _ _ _)
   | (with_reducible exact laws_eqIntS.mono _ _ _)
   | (with_reducible exact LeO.refl _)
   | (with_reducible exact LeO.none _)
   | (with_reducible refine LeO.ite ?_ ?_)
   | (with_reducible refine LeO.bind ?_ (fun _ => ?_))
   | exact ih0 _ _ _
   | exact laws_eqIntS.mono _ _ _
   | exact LeO.none _
   | refine LeO.ite ?_ ?_
   | refine LeO.bind ?_ (fun _ => ?_)
set_option maxHeartbeats 8000000 in
set_option maxRecDepth 100000 in
theorem laws_eqIntSS.calls (k : Nat) (A0 : Option Addr) (c0 : Nat) (l0 : List (List Int)) (A1 : Option Addr) (c1 : Nat) (l1 : List (List Int)) (r : Bool) (w : World) (hr0 : Kd.C (Kd.slice 3 (Kd.int .i64)) w A0 l0.length l0) (hc0 : l0.length ≤ c0) (hr1 : Kd.C (Kd.slice 3 (Kd.int .i64)) w A1 l1.length l1) (hc1 : l1.length ≤ c1) (h : laws_eqIntSS.f k l0 l1 = some r) :
  Calls Try.prog 13 #[.slice A0 l0.length c0, .slice A1 l1.length c1] w fun e w' => e = .returned (.bool r) ∧ Drawn0 w w' := by
 have HR0 := Aside0.mk hr0
 have HC0 := Aside0.mk hc0
 clear hr0 hc0
 have HR1 := Aside0.mk hr1
 have HC1 := Aside0.mk hc1
 clear hr1 hc1
 have H : (if (l0.length : Int) = (l1.length : Int) then (laws_eqIntSS.l0 k l0 l1 0) else (some false)) = some r := h
 clear h
 by_cases c3 : (l0.length : Int) = (l1.length : Int)
 ·rw [if_pos c3] at H
  have c3b0 : ((l0.length : Int) == (l1.length : Int)) = true := beq_iff_eq.mpr c3
  have c3b1 : ((l0.length : Int) != (l1.length : Int)) = false := bne_eq_false_iff_eq.mpr c3
  have c3b2 : (l0.length == l1.length) = true := by first | simpa using c3 | (simp at c3 ⊢; omega)
  clear c3
  have H' := Aside0.mk H
  clear H
  go_enter Try.func13, Try.ntmps13
  go_wp2
  repeat (go_quiet (fail); try go_wp2)
  go_loopg [5] k (fun kq v5 w' => ∃ (x5_1 : Int), v5 = .int .i64 x5_1 ∧ Aside0 (laws_eqIntSS.l0 kq l0 l1 x5_1 = some r) ∧ Aside0 (kq ≤ k) ∧ Drawn0 w w')
  case atStart => exact ⟨(0), zF, H', ⟨Nat.le_refl _⟩, by repeat (first | exact Drawn0.refl _ | apply Drawn0.step)⟩
  case round =>
   clear H'
   try clear c1
   try clear p2
   try clear c3
   try clear c3b0
   try clear c3b1
   try clear c3b2
   obtain ⟨x5_1, rfl, HA, HK1, ⟨m1, rfl⟩⟩ := hrel
   cases gk with
   | zero => exact absurd HA.out (by simp [laws_eqIntSS.l0])
   | succ k1 =>
    have H := HA.out
    clear HA
    simp only [laws_eqIntSS.l0] at H
    by_cases c4 : x5_1 < (l0.length : Int)
    ·rw [if_pos c4] at H
     have c4b0 : decide (x5_1 < (l0.length : Int)) = true := decide_eq_true c4
     clear c4
     obtain ⟨c5, H⟩ := ifS H
     have c5b0 : decide (0 ≤ x5_1) = true := decide_eq_true c5
     clear c5
     obtain ⟨c6, H⟩ := ifS H
     have c6b0 : decide (x5_1 < (l1.length : Int)) = true := decide_eq_true c6
     clear c6
     obtain ⟨t331, A7, H⟩ := bindS H
     by_cases c8 : t331 = true
     ·subst c8
      have H1 : (laws_eqIntSS.l0 k1 l0 l1 (wrap64 (x5_1 + 1))) = some r := by rw [if_pos rfl] at H; exact H
      clear H
      have H := H1
      clear H1
      have H' := Aside0.mk H
      clear H
      have p329 : 0 ≤ (x5_1 : Int) := zD
      have q329 : x5_1 < (l0.length : Int) := zD
      obtain ⟨ad329, A329_0, c329_0, e329, hx329_0, hl329_0, hi329_0⟩ := at_L4 HR0.out x5_1 p329 q329
      cases e329
      have HR329_0 := Aside0.mk hi329_0
      have HC329_0 := Aside0.mk hl329_0
      clear hi329_0 hl329_0
      replace p329 := eq_true p329
      replace q329 := eq_true q329
      have p330 : 0 ≤ (x5_1 : Int) := zD
      have q330 : x5_1 < (l1.length : Int) := zD
      obtain ⟨ad330, A330_0, c330_0, e330, hx330_0, hl330_0, hi330_0⟩ := at_L4 HR1.out x5_1 p330 q330
      cases e330
      have HR330_0 := Aside0.mk hi330_0
      have HC330_0 := Aside0.mk hl330_0
      clear hi330_0 hl330_0
      replace p330 := eq_true p330
      replace q330 := eq_true q330
      go_wp2_with (first | (go_at_call 22; (with_reducible refine (laws_eqIntS.calls k1 _ _ (rd_L4 l0 x5_1) _ _ (rd_L4 l1 x5_1) true _ ?side1 ?side2 ?side3 ?side4 A7.out).mono ?_); (case side1 => exact cT HR329_0); (case side2 => exact HC329_0.out); (case side3 => exact cT HR330_0); (case side4 => exact HC330_0.out); rintro e w' ⟨rfl, ⟨nd, rfl⟩⟩; (try first | exact ⟨rfl, _, World.drewN_drewN _ _ _⟩ | exact ⟨rfl, _, Eq.trans (World.drewN_drewN _ _ _) (congrArg (World.drewN _) (Nat.add_assoc _ _ _))⟩)))
      repeat (go_quiet (first | (go_at_call 22; (with_reducible refine (laws_eqIntS.calls k1 _ _ (rd_L4 l0 x5_1) _ _ (rd_L4 l1 x5_1) true _ ?side1 ?side2 ?side3 ?side4 A7.out).mono ?_); (case side1 => exact cT HR329_0); (case side2 => exact HC329_0.out); (case side3 => exact cT HR330_0); (case side4 => exact HC330_0.out); rintro e w' ⟨rfl, ⟨nd, rfl⟩⟩; (try first | exact ⟨rfl, _, World.drewN_drewN _ _ _⟩ | exact ⟨rfl, _, Eq.trans (World.drewN_drewN _ _ _) (congrArg (World.drewN _) (Nat.add_assoc _ _ _))⟩))); try go_wp2_with (first | (go_at_call 22; (with_reducible refine (laws_eqIntS.calls k1 _ _ (rd_L4 l0 x5_1) _ _ (rd_L4 l1 x5_1) true _ ?side1 ?side2 ?side3 ?side4 A7.out).mono ?_); (case side1 => exact cT HR329_0); (case side2 => exact HC329_0.out); (case side3 => exact cT HR330_0); (case side4 => exact HC330_0.out); rintro e w' ⟨rfl, ⟨nd, rfl⟩⟩; (try first | exact ⟨rfl, _, World.drewN_drewN _ _ _⟩ | exact ⟨rfl, _, Eq.trans (World.drewN_drewN _ _ _) (congrArg (World.drewN _) (Nat.add_assoc _ _ _))⟩))))
      go_roundg k1
      case measure => have := HK1.out; omega
      case rel => exact ⟨(wrap64 (x5_1 + 1)), zF, H', ⟨by have := HK1.out; omega⟩, by repeat (first | exact Drawn0.refl _ | apply Drawn0.step)⟩
     ·replace c8 := Bool.eq_false_iff.mpr c8
      subst c8
      have H1 : (some false) = some r := by rw [if_neg (show ¬ (false = true) by decide)] at H; exact H
      clear H
      have H := H1
      clear H1
      obtain rfl := Option.some.inj H
      have p329 : 0 ≤ (x5_1 : Int) := zD
      have q329 : x5_1 < (l0.length : Int) := zD
      obtain ⟨ad329, A329_0, c329_0, e329, hx329_0, hl329_0, hi329_0⟩ := at_L4 HR0.out x5_1 p329 q329
      cases e329
      have HR329_0 := Aside0.mk hi329_0
      have HC329_0 := Aside0.mk hl329_0
      clear hi329_0 hl329_0
      replace p329 := eq_true p329
      replace q329 := eq_true q329
      have p330 : 0 ≤ (x5_1 : Int) := zD
      have q330 : x5_1 < (l1.length : Int) := zD
      obtain ⟨ad330, A330_0, c330_0, e330, hx330_0, hl330_0, hi330_0⟩ := at_L4 HR1.out x5_1 p330 q330
      cases e330
      have HR330_0 := Aside0.mk hi330_0
      have HC330_0 := Aside0.mk hl330_0
      clear hi330_0 hl330_0
      replace p330 := eq_true p330
      replace q330 := eq_true q330
      go_wp2_with (first | (go_at_call 22; (with_reducible refine (laws_eqIntS.calls k1 _ _ (rd_L4 l0 x5_1) _ _ (rd_L4 l1 x5_1) false _ ?side1 ?side2 ?side3 ?side4 A7.out).mono ?_); (case side1 => exact cT HR329_0); (case side2 => exact HC329_0.out); (case side3 => exact cT HR330_0); (case side4 => exact HC330_0.out); rintro e w' ⟨rfl, ⟨nd, rfl⟩⟩; (try first | exact ⟨rfl, _, World.drewN_drewN _ _ _⟩ | exact ⟨rfl, _, Eq.trans (World.drewN_drewN _ _ _) (congrArg (World.drewN _) (Nat.add_assoc _ _ _))⟩)))
      repeat (go_quiet (first | (go_at_call 22; (with_reducible refine (laws_eqIntS.calls k1 _ _ (rd_L4 l0 x5_1) _ _ (rd_L4 l1 x5_1) false _ ?side1 ?side2 ?side3 ?side4 A7.out).mono ?_); (case side1 => exact cT HR329_0); (case side2 => exact HC329_0.out); (case side3 => exact cT HR330_0); (case side4 => exact HC330_0.out); rintro e w' ⟨rfl, ⟨nd, rfl⟩⟩; (try first | exact ⟨rfl, _, World.drewN_drewN _ _ _⟩ | exact ⟨rfl, _, Eq.trans (World.drewN_drewN _ _ _) (congrArg (World.drewN _) (Nat.add_assoc _ _ _))⟩))); try go_wp2_with (first | (go_at_call 22; (with_reducible refine (laws_eqIntS.calls k1 _ _ (rd_L4 l0 x5_1) _ _ (rd_L4 l1 x5_1) false _ ?side1 ?side2 ?side3 ?side4 A7.out).mono ?_); (case side1 => exact cT HR329_0); (case side2 => exact HC329_0.out); (case side3 => exact cT HR330_0); (case side4 => exact HC330_0.out); rintro e w' ⟨rfl, ⟨nd, rfl⟩⟩; (try first | exact ⟨rfl, _, World.drewN_drewN _ _ _⟩ | exact ⟨rfl, _, Eq.trans (World.drewN_drewN _ _ _) (congrArg (World.drewN _) (Nat.add_assoc _ _ _))⟩))))
      go_ret
      exact ⟨by first | rfl | (simp; done) | (simp [*]; done), by repeat (first | exact Drawn0.refl _ | apply Drawn0.step)⟩
    ·rw [if_neg c4] at H
     have c4b0 : decide (x5_1 < (l0.length : Int)) = false := decide_eq_false c4
     clear c4
     obtain rfl := Option.some.inj H
     go_wp2
     repeat (go_quiet (fail); try go_wp2)
     go_ret
     exact ⟨by first | rfl | (simp; done) | (simp [*]; done), by repeat (first | exact Drawn0.refl _ | apply Drawn0.step)⟩
 ·rw [if_neg c3] at H
  have c3b0 : ((l0.length : Int) == (l1.length : Int)) = false := beq_eq_false_iff_ne.mpr c3
  have c3b1 : ((l0.length : Int) != (l1.length : Int)) = true := bne_iff_ne.mpr c3
  have c3b2 : (l0.length == l1.length) = false := by first | simpa using c3 | (simp at c3 ⊢; omega)
  obtain rfl := Option.some.inj H
  go_enter Try.func13, Try.ntmps13
  go_wp2
  repeat (go_quiet (fail); try go_wp2)
  go_ret
  exact ⟨by first | rfl | (simp; done) | (simp [*]; done), by repeat (first | exact Drawn0.refl _ | apply Drawn0.step)⟩

/-! ### laws_eqBoolS: function 45 -/
def laws_eqBoolS.l0 : Nat → List Bool → List Bool → Int → Option (Bool)
 | 0, _, _, _ => none
 | k + 1, x0, x1, x5 => if x5 < (x0.length : Int) then (if 0 ≤ x5 then (if x5 < (x1.length : Int) then (if ((rdOf false x0 x5) != (rdOf false x1 x5)) = true then (some false) else (laws_eqBoolS.l0 k x0 x1 (wrap64 (x5 + 1)))) else (none)) else (none)) else (some true)
def laws_eqBoolS.f (k : Nat) (l0 : List Bool) (l1 : List Bool) : Option (Bool) := if (l0.length : Int) = (l1.length : Int) then (laws_eqBoolS.l0 k l0 l1 0) else (some false)
theorem laws_eqBoolS.mono_l : ∀ k, (∀ y0 y1 y2, LeO (laws_eqBoolS.l0 k y0 y1 y2) (laws_eqBoolS.l0 (k + 1) y0 y1 y2))
 | 0 => fun _ _ _ r h => by simp [laws_eqBoolS.l0] at h
 | k + 1 => by
  have ih0 := laws_eqBoolS.mono_l k
  ·intro y0 y1 y2
   unfold laws_eqBoolS.l0
   repeat' first
   | (with_reducible exact ih0 _ _ _)
   | (with_reducible exact LeO.refl _)
   | (with_reducible exact LeO.none _)
   | (with_reducible refine LeO.ite ?_ ?_)
   | (with_reducible refine LeO.bind ?_ (fun _ => ?_))
   | exact ih0 _ _ _
   | exact LeO.none _
   | refine LeO.ite ?_ ?_
   | refine LeO.bind ?_ (fun _ => ?_)
theorem laws_eqBoolS.mono : ∀ a0 a1 k, LeO (laws_eqBoolS.f k a0 a1) (laws_eqBoolS.f (k + 1) a0 a1) := by
 intro a0 a1 k
 have ih0 := laws_eqBoolS.mono_l k
 unfold laws_eqBoolS.f
 repeat' first
   | (with_reducible exact ih0 _ _ _)
   | (with_reducible exact LeO.refl _)
   | (with_reducible exact LeO.none _)
   | (with_reducible refine LeO.ite ?_ ?_)
   | (with_reducible refine LeO.bind ?_ (fun _ => ?_))
   | exact ih0 _ _ _
   | exact LeO.none _
   | refine LeO.ite ?_ ?_
   | refine LeO.bind ?_ (fun _ => ?_)
set_option maxHeartbeats 8000000 in
set_option maxRecDepth 100000 in
theorem laws_eqBoolS.calls (k : Nat) (A0 : Option Addr) (c0 : Nat) (l0 : List Bool) (A1 : Option Addr) (c1 : Nat) (l1 : List Bool) (r : Bool) (w : World) (hr0 : Kd.C Kd.bool w A0 l0.length l0) (hc0 : l0.length ≤ c0) (hr1 : Kd.C Kd.bool w A1 l1.length l1) (hc1 : l1.length ≤ c1) (h : laws_eqBoolS.f k l0 l1 = some r) :
  Calls Try.prog 45 #[.slice A0 l0.length c0, .slice A1 l1.length c1] w fun e w' => e = .returned (.bool r) ∧ Drawn0 w w' := by
 have HR0 := Aside0.mk hr0
 have HC0 := Aside0.mk hc0
 clear hr0 hc0
 have HR1 := Aside0.mk hr1
 have HC1 := Aside0.mk hc1
 clear hr1 hc1
 have H : (if (l0.length : Int) = (l1.length : Int) then (laws_eqBoolS.l0 k l0 l1 0) else (some false)) = some r := h
 clear h
 by_cases c3 : (l0.length : Int) = (l1.length : Int)
 ·rw [if_pos c3] at H
  have c3b0 : ((l0.length : Int) == (l1.length : Int)) = true := beq_iff_eq.mpr c3
  have c3b1 : ((l0.length : Int) != (l1.length : Int)) = false := bne_eq_false_iff_eq.mpr c3
  have c3b2 : (l0.length == l1.length) = true := by first | simpa using c3 | (simp at c3 ⊢; omega)
  clear c3
  have H' := Aside0.mk H
  clear H
  go_enter Try.func45, Try.ntmps45
  go_wp2
  repeat (go_quiet (fail); try go_wp2)
  go_loopg [5] k (fun kq v5 w' => ∃ (x5_1 : Int), v5 = .int .i64 x5_1 ∧ Aside0 (laws_eqBoolS.l0 kq l0 l1 x5_1 = some r) ∧ Aside0 (kq ≤ k) ∧ Drawn0 w w')
  case atStart => exact ⟨(0), zF, H', ⟨Nat.le_refl _⟩, by repeat (first | exact Drawn0.refl _ | apply Drawn0.step)⟩
  case round =>
   clear H'
   try clear c1
   try clear p2
   try clear c3
   try clear c3b0
   try clear c3b1
   try clear c3b2
   obtain ⟨x5_1, rfl, HA, HK1, ⟨m1, rfl⟩⟩ := hrel
   cases gk with
   | zero => exact absurd HA.out (by simp [laws_eqBoolS.l0])
   | succ k1 =>
    have H := HA.out
    clear HA
    simp only [laws_eqBoolS.l0] at H
    by_cases c4 : x5_1 < (l0.length : Int)
    ·rw [if_pos c4] at H
     have c4b0 : decide (x5_1 < (l0.length : Int)) = true := decide_eq_true c4
     clear c4
     obtain ⟨c5, H⟩ := ifS H
     have c5b0 : decide (0 ≤ x5_1) = true := decide_eq_true c5
     clear c5
     obtain ⟨c6, H⟩ := ifS H
     have c6b0 : decide (x5_1 < (l1.length : Int)) = true := decide_eq_true c6
     clear c6
     by_cases c7 : ((rdOf false l0 x5_1) != (rdOf false l1 x5_1)) = true
     ·rw [if_pos c7] at H
      have c7b0 : ((rdOf false l0 x5_1) != (rdOf false l1 x5_1)) = true := c7
      (try (have c7b1 : decide ((rdOf false l0 x5_1) = (rdOf false l1 x5_1)) = false := by simpa using c7))
      (try (have c7b2 : ((rdOf false l0 x5_1) == (rdOf false l1 x5_1)) = false := by simpa using c7))
      (try (have c7b3 : ¬ ((rdOf false l0 x5_1) = (rdOf false l1 x5_1)) := by simpa using c7))
      clear c7
      obtain rfl := Option.some.inj H
      have p332 : 0 ≤ (x5_1 : Int) := zD
      have q332 : x5_1 < (l0.length : Int) := zD
      obtain ⟨ad332, e332, hx332_0⟩ := Kd.at_bool HR0.out x5_1 p332 q332
      cases e332
      replace p332 := eq_true p332
      replace q332 := eq_true q332
      have p333 : 0 ≤ (x5_1 : Int) := zD
      have q333 : x5_1 < (l1.length : Int) := zD
      obtain ⟨ad333, e333, hx333_0⟩ := Kd.at_bool HR1.out x5_1 p333 q333
      cases e333
      replace p333 := eq_true p333
      replace q333 := eq_true q333
      go_wp2
      repeat (go_quiet (fail); try go_wp2)
      go_ret
      exact ⟨by first | rfl | (simp; done) | (simp [*]; done), by repeat (first | exact Drawn0.refl _ | apply Drawn0.step)⟩
     ·rw [if_neg c7] at H
      have c7b0 : ((rdOf false l0 x5_1) != (rdOf false l1 x5_1)) = false := by simpa using c7
      (try (have c7b1 : decide ((rdOf false l0 x5_1) = (rdOf false l1 x5_1)) = true := by simpa using c7))
      (try (have c7b2 : ((rdOf false l0 x5_1) == (rdOf false l1 x5_1)) = true := by simpa using c7))
      clear c7
      have H' := Aside0.mk H
      clear H
      have p332 : 0 ≤ (x5_1 : Int) := zD
      have q332 : x5_1 < (l0.length : Int) := zD
      obtain ⟨ad332, e332, hx332_0⟩ := Kd.at_bool HR0.out x5_1 p332 q332
      cases e332
      replace p332 := eq_true p332
      replace q332 := eq_true q332
      have p333 : 0 ≤ (x5_1 : Int) := zD
      have q333 : x5_1 < (l1.length : Int) := zD
      obtain ⟨ad333, e333, hx333_0⟩ := Kd.at_bool HR1.out x5_1 p333 q333
      cases e333
      replace p333 := eq_true p333
      replace q333 := eq_true q333
      go_wp2
      repeat (go_quiet (fail); try go_wp2)
      go_roundg k1
      case measure => have := HK1.out; omega
      case rel => exact ⟨(wrap64 (x5_1 + 1)), zF, H', ⟨by have := HK1.out; omega⟩, by repeat (first | exact Drawn0.refl _ | apply Drawn0.step)⟩
    ·rw [if_neg c4] at H
     have c4b0 : decide (x5_1 < (l0.length : Int)) = false := decide_eq_false c4
     clear c4
     obtain rfl := Option.some.inj H
     go_wp2
     repeat (go_quiet (fail); try go_wp2)
     go_ret
     exact ⟨by first | rfl | (simp; done) | (simp [*]; done), by repeat (first | exact Drawn0.refl _ | apply Drawn0.step)⟩
 ·rw [if_neg c3] at H
  have c3b0 : ((l0.length : Int) == (l1.length : Int)) = false := beq_eq_false_iff_ne.mpr c3
  have c3b1 : ((l0.length : Int) != (l1.length : Int)) = true := bne_iff_ne.mpr c3
  have c3b2 : (l0.length == l1.length) = false := by first | simpa using c3 | (simp at c3 ⊢; omega)
  obtain rfl := Option.some.inj H
  go_enter Try.func45, Try.ntmps45
  go_wp2
  repeat (go_quiet (fail); try go_wp2)
  go_ret
  exact ⟨by first | rfl | (simp; done) | (simp [*]; done), by repeat (first | exact Drawn0.refl _ | apply Drawn0.step)⟩

/-! ### laws_eqMove: function 66 -/
def laws_eqMove.f (a0_0 : Int) (a0_1 : Bool) (a0_2 : Int) (a0_3 : Int) (a1_0 : Int) (a1_1 : Bool) (a1_2 : Int) (a1_3 : Int) : Option (Bool) := if a0_0 = a1_0 then (if (a0_1 != a1_1) = true then (some false) else (if a0_2 = a1_2 then (if a0_3 = a1_3 then (some true) else (some false)) else (some false))) else (some false)
set_option maxHeartbeats 8000000 in
set_option maxRecDepth 100000 in
theorem laws_eqMove.calls (a0_0 : Int) (a0_1 : Bool) (a0_2 : Int) (a0_3 : Int) (a1_0 : Int) (a1_1 : Bool) (a1_2 : Int) (a1_3 : Int) (r : Bool) (w : World) (h : laws_eqMove.f a0_0 a0_1 a0_2 a0_3 a1_0 a1_1 a1_2 a1_3 = some r) :
  Calls Try.prog 66 #[.agg #[.int .i64 a0_0, .bool a0_1, .int .i64 a0_2, .int .i64 a0_3], .agg #[.int .i64 a1_0, .bool a1_1, .int .i64 a1_2, .int .i64 a1_3]] w fun e w' => e = .returned (.bool r) ∧ Below w.heap.size w w' := by
 have hu64 := Try.underlying64
 have HB := Aside0.mk (Below.refl w.heap.size w)
 have H : (if a0_0 = a1_0 then (if (a0_1 != a1_1) = true then (some false) else (if a0_2 = a1_2 then (if a0_3 = a1_3 then (some true) else (some false)) else (some false))) else (some false)) = some r := h
 clear h
 by_cases c3 : a0_0 = a1_0
 ·rw [if_pos c3] at H
  have c3b0 : (a0_0 == a1_0) = true := beq_iff_eq.mpr c3
  have c3b1 : (a0_0 != a1_0) = false := bne_eq_false_iff_eq.mpr c3
  clear c3
  by_cases c4 : (a0_1 != a1_1) = true
  ·rw [if_pos c4] at H
   have c4b0 : (a0_1 != a1_1) = true := c4
   (try (have c4b1 : decide (a0_1 = a1_1) = false := by simpa using c4))
   (try (have c4b2 : (a0_1 == a1_1) = false := by simpa using c4))
   (try (have c4b3 : ¬ (a0_1 = a1_1) := by simpa using c4))
   clear c4
   obtain rfl := Option.some.inj H
   go_enter Try.func66, Try.ntmps66
   go_wp2_with (first | ((with_reducible refine gate_dst (N := 2) rfl ?_); refine box_event ?hg (N := 2) ?hd (cs := #[.int .i64 a0_0, .bool a0_1, .int .i64 a0_2, .int .i64 a0_3]) (t := 64) ?hr ?_; (case hd => rfl); (case hg => rfl); (case hr => first | (go_simp; done) | (go_simp; rfl)); intro gb334 hg w5 hbox hb; have BK334 := Aside0.mk (hbox); have GW334 := gS HB hg; have GE334 := gS HB hg; replace HB := bS HB hb; clear hb hbox hg) | ((with_reducible refine gate_dst (N := 3) rfl ?_); refine box_event ?hg (N := 3) ?hd (cs := #[.int .i64 a1_0, .bool a1_1, .int .i64 a1_2, .int .i64 a1_3]) (t := 64) ?hr ?_; (case hd => rfl); (case hg => rfl); (case hr => first | (go_simp; done) | (go_simp; rfl)); intro gb335 hg w6 hbox hb; have BK335 := Aside0.mk (hbox); have GW335 := gS HB hg; have GE335 := gS HB hg; replace HB := bS HB hb; have NB334_335 := nL BK334 hg; have NB335_334 := nR BK334 hg; replace BK334 := kB BK334 hb; clear hb hbox hg; have hnb7 := NB334_335.out; have hnc7 := NB335_334.out; have hcz8_0 := bc0 BK334; have hcz8_1 := bc1 BK334; have hcz8_2 := bc2 BK334; have hcz8_3 := bc3 BK334; have hfz8_0 := bf BK334 0; have hfz8_1 := bf BK334 1; have hfz8_2 := bf BK334 2; have hfz8_3 := bf BK334 3; have hcz9_0 := bc0 BK335; have hcz9_1 := bc1 BK335; have hcz9_2 := bc2 BK335; have hcz9_3 := bc3 BK335; have hfz9_0 := bf BK335 0; have hfz9_1 := bf BK335 1; have hfz9_2 := bf BK335 2; have hfz9_3 := bf BK335 3))
   go_ret
   exact ⟨zE, zB HB⟩
  ·rw [if_neg c4] at H
   have c4b0 : (a0_1 != a1_1) = false := by simpa using c4
   (try (have c4b1 : decide (a0_1 = a1_1) = true := by simpa using c4))
   (try (have c4b2 : (a0_1 == a1_1) = true := by simpa using c4))
   clear c4
   by_cases c10 : a0_2 = a1_2
   ·rw [if_pos c10] at H
    have c10b0 : (a0_2 == a1_2) = true := beq_iff_eq.mpr c10
    have c10b1 : (a0_2 != a1_2) = false := bne_eq_false_iff_eq.mpr c10
    clear c10
    by_cases c11 : a0_3 = a1_3
    ·rw [if_pos c11] at H
     have c11b0 : (a0_3 == a1_3) = true := beq_iff_eq.mpr c11
     have c11b1 : (a0_3 != a1_3) = false := bne_eq_false_iff_eq.mpr c11
     clear c11
     obtain rfl := Option.some.inj H
     go_enter Try.func66, Try.ntmps66
     go_wp2_with (first | ((with_reducible refine gate_dst (N := 2) rfl ?_); refine box_event ?hg (N := 2) ?hd (cs := #[.int .i64 a0_0, .bool a0_1, .int .i64 a0_2, .int .i64 a0_3]) (t := 64) ?hr ?_; (case hd => rfl); (case hg => rfl); (case hr => first | (go_simp; done) | (go_simp; rfl)); intro gb334 hg w12 hbox hb; have BK334 := Aside0.mk (hbox); have GW334 := gS HB hg; have GE334 := gS HB hg; replace HB := bS HB hb; clear hb hbox hg) | ((with_reducible refine gate_dst (N := 3) rfl ?_); refine box_event ?hg (N := 3) ?hd (cs := #[.int .i64 a1_0, .bool a1_1, .int .i64 a1_2, .int .i64 a1_3]) (t := 64) ?hr ?_; (case hd => rfl); (case hg => rfl); (case hr => first | (go_simp; done) | (go_simp; rfl)); intro gb335 hg w13 hbox hb; have BK335 := Aside0.mk (hbox); have GW335 := gS HB hg; have GE335 := gS HB hg; replace HB := bS HB hb; have NB334_335 := nL BK334 hg; have NB335_334 := nR BK334 hg; replace BK334 := kB BK334 hb; clear hb hbox hg; have hnb14 := NB334_335.out; have hnc14 := NB335_334.out; have hcz15_0 := bc0 BK334; have hcz15_1 := bc1 BK334; have hcz15_2 := bc2 BK334; have hcz15_3 := bc3 BK334; have hfz15_0 := bf BK334 0; have hfz15_1 := bf BK334 1; have hfz15_2 := bf BK334 2; have hfz15_3 := bf BK334 3; have hcz16_0 := bc0 BK335; have hcz16_1 := bc1 BK335; have hcz16_2 := bc2 BK335; have hcz16_3 := bc3 BK335; have hfz16_0 := bf BK335 0; have hfz16_1 := bf BK335 1; have hfz16_2 := bf BK335 2; have hfz16_3 := bf BK335 3))
     go_ret
     exact ⟨zE, zB HB⟩
    ·rw [if_neg c11] at H
     have c11b0 : (a0_3 == a1_3) = false := beq_eq_false_iff_ne.mpr c11
     have c11b1 : (a0_3 != a1_3) = true := bne_iff_ne.mpr c11
     obtain rfl := Option.some.inj H
     go_enter Try.func66, Try.ntmps66
     go_wp2_with (first | ((with_reducible refine gate_dst (N := 2) rfl ?_); refine box_event ?hg (N := 2) ?hd (cs := #[.int .i64 a0_0, .bool a0_1, .int .i64 a0_2, .int .i64 a0_3]) (t := 64) ?hr ?_; (case hd => rfl); (case hg => rfl); (case hr => first | (go_simp; done) | (go_simp; rfl)); intro gb334 hg w17 hbox hb; have BK334 := Aside0.mk (hbox); have GW334 := gS HB hg; have GE334 := gS HB hg; replace HB := bS HB hb; clear hb hbox hg) | ((with_reducible refine gate_dst (N := 3) rfl ?_); refine box_event ?hg (N := 3) ?hd (cs := #[.int .i64 a1_0, .bool a1_1, .int .i64 a1_2, .int .i64 a1_3]) (t := 64) ?hr ?_; (case hd => rfl); (case hg => rfl); (case hr => first | (go_simp; done) | (go_simp; rfl)); intro gb335 hg w18 hbox hb; have BK335 := Aside0.mk (hbox); have GW335 := gS HB hg; have GE335 := gS HB hg; replace HB := bS HB hb; have NB334_335 := nL BK334 hg; have NB335_334 := nR BK334 hg; replace BK334 := kB BK334 hb; clear hb hbox hg; have hnb19 := NB334_335.out; have hnc19 := NB335_334.out; have hcz20_0 := bc0 BK334; have hcz20_1 := bc1 BK334; have hcz20_2 := bc2 BK334; have hcz20_3 := bc3 BK334; have hfz20_0 := bf BK334 0; have hfz20_1 := bf BK334 1; have hfz20_2 := bf BK334 2; have hfz20_3 := bf BK334 3; have hcz21_0 := bc0 BK335; have hcz21_1 := bc1 BK335; have hcz21_2 := bc2 BK335; have hcz21_3 := bc3 BK335; have hfz21_0 := bf BK335 0; have hfz21_1 := bf BK335 1; have hfz21_2 := bf BK335 2; have hfz21_3 := bf BK335 3))
     go_ret
     exact ⟨zE, zB HB⟩
   ·rw [if_neg c10] at H
    have c10b0 : (a0_2 == a1_2) = false := beq_eq_false_iff_ne.mpr c10
    have c10b1 : (a0_2 != a1_2) = true := bne_iff_ne.mpr c10
    obtain rfl := Option.some.inj H
    go_enter Try.func66, Try.ntmps66
    go_wp2_with (first | ((with_reducible refine gate_dst (N := 2) rfl ?_); refine box_event ?hg (N := 2) ?hd (cs := #[.int .i64 a0_0, .bool a0_1, .int .i64 a0_2, .int .i64 a0_3]) (t := 64) ?hr ?_; (case hd => rfl); (case hg => rfl); (case hr => first | (go_simp; done) | (go_simp; rfl)); intro gb334 hg w22 hbox hb; have BK334 := Aside0.mk (hbox); have GW334 := gS HB hg; have GE334 := gS HB hg; replace HB := bS HB hb; clear hb hbox hg) | ((with_reducible refine gate_dst (N := 3) rfl ?_); refine box_event ?hg (N := 3) ?hd (cs := #[.int .i64 a1_0, .bool a1_1, .int .i64 a1_2, .int .i64 a1_3]) (t := 64) ?hr ?_; (case hd => rfl); (case hg => rfl); (case hr => first | (go_simp; done) | (go_simp; rfl)); intro gb335 hg w23 hbox hb; have BK335 := Aside0.mk (hbox); have GW335 := gS HB hg; have GE335 := gS HB hg; replace HB := bS HB hb; have NB334_335 := nL BK334 hg; have NB335_334 := nR BK334 hg; replace BK334 := kB BK334 hb; clear hb hbox hg; have hnb24 := NB334_335.out; have hnc24 := NB335_334.out; have hcz25_0 := bc0 BK334; have hcz25_1 := bc1 BK334; have hcz25_2 := bc2 BK334; have hcz25_3 := bc3 BK334; have hfz25_0 := bf BK334 0; have hfz25_1 := bf BK334 1; have hfz25_2 := bf BK334 2; have hfz25_3 := bf BK334 3; have hcz26_0 := bc0 BK335; have hcz26_1 := bc1 BK335; have hcz26_2 := bc2 BK335; have hcz26_3 := bc3 BK335; have hfz26_0 := bf BK335 0; have hfz26_1 := bf BK335 1; have hfz26_2 := bf BK335 2; have hfz26_3 := bf BK335 3))
    go_ret
    exact ⟨zE, zB HB⟩
 ·rw [if_neg c3] at H
  have c3b0 : (a0_0 == a1_0) = false := beq_eq_false_iff_ne.mpr c3
  have c3b1 : (a0_0 != a1_0) = true := bne_iff_ne.mpr c3
  obtain rfl := Option.some.inj H
  go_enter Try.func66, Try.ntmps66
  go_wp2_with (first | ((with_reducible refine gate_dst (N := 2) rfl ?_); refine box_event ?hg (N := 2) ?hd (cs := #[.int .i64 a0_0, .bool a0_1, .int .i64 a0_2, .int .i64 a0_3]) (t := 64) ?hr ?_; (case hd => rfl); (case hg => rfl); (case hr => first | (go_simp; done) | (go_simp; rfl)); intro gb334 hg w27 hbox hb; have BK334 := Aside0.mk (hbox); have GW334 := gS HB hg; have GE334 := gS HB hg; replace HB := bS HB hb; clear hb hbox hg) | ((with_reducible refine gate_dst (N := 3) rfl ?_); refine box_event ?hg (N := 3) ?hd (cs := #[.int .i64 a1_0, .bool a1_1, .int .i64 a1_2, .int .i64 a1_3]) (t := 64) ?hr ?_; (case hd => rfl); (case hg => rfl); (case hr => first | (go_simp; done) | (go_simp; rfl)); intro gb335 hg w28 hbox hb; have BK335 := Aside0.mk (hbox); have GW335 := gS HB hg; have GE335 := gS HB hg; replace HB := bS HB hb; have NB334_335 := nL BK334 hg; have NB335_334 := nR BK334 hg; replace BK334 := kB BK334 hb; clear hb hbox hg; have hnb29 := NB334_335.out; have hnc29 := NB335_334.out; have hcz30_0 := bc0 BK334; have hcz30_1 := bc1 BK334; have hcz30_2 := bc2 BK334; have hcz30_3 := bc3 BK334; have hfz30_0 := bf BK334 0; have hfz30_1 := bf BK334 1; have hfz30_2 := bf BK334 2; have hfz30_3 := bf BK334 3; have hcz31_0 := bc0 BK335; have hcz31_1 := bc1 BK335; have hcz31_2 := bc2 BK335; have hcz31_3 := bc3 BK335; have hfz31_0 := bf BK335 0; have hfz31_1 := bf BK335 1; have hfz31_2 := bf BK335 2; have hfz31_3 := bf BK335 3))
  go_ret
  exact ⟨zE, zB HB⟩

/-! ### laws_eqMoveS: function 46 -/
def laws_eqMoveS.l0 : Nat → List (S64) → List (S64) → Int → Option (Bool)
 | 0, _, _, _ => none
 | k + 1, x0, x1, x5 => if x5 < (x0.length : Int) then (if 0 ≤ x5 then (if x5 < (x1.length : Int) then ((laws_eqMove.f ((rd_T64 x0 x5).f0) ((rd_T64 x0 x5).f1) ((rd_T64 x0 x5).f2) ((rd_T64 x0 x5).f3) ((rd_T64 x1 x5).f0) ((rd_T64 x1 x5).f1) ((rd_T64 x1 x5).f2) ((rd_T64 x1 x5).f3)).bind fun t338 => (if t338 = true then (laws_eqMoveS.l0 k x0 x1 (wrap64 (x5 + 1))) else (some false))) else (none)) else (none)) else (some true)
def laws_eqMoveS.f (k : Nat) (l0 : List (S64)) (l1 : List (S64)) : Option (Bool) := if (l0.length : Int) = (l1.length : Int) then (laws_eqMoveS.l0 k l0 l1 0) else (some false)
theorem laws_eqMoveS.mono_l : ∀ k, (∀ y0 y1 y2, LeO (laws_eqMoveS.l0 k y0 y1 y2) (laws_eqMoveS.l0 (k + 1) y0 y1 y2))
 | 0 => fun _ _ _ r h => by simp [laws_eqMoveS.l0] at h
 | k + 1 => by
  have ih0 := laws_eqMoveS.mono_l k
  ·intro y0 y1 y2
   unfold laws_eqMoveS.l0
   repeat' first
   | (with_reducible exact ih0 _ _ _)
   | (with_reducible exact LeO.refl _)
   | (with_reducible exact LeO.none _)
   | (with_reducible refine LeO.ite ?_ ?_)
   | (with_reducible refine LeO.bind ?_ (fun _ => ?_))
   | exact ih0 _ _ _
   | exact LeO.none _
   | refine LeO.ite ?_ ?_
   | refine LeO.bind ?_ (fun _ => ?_)
theorem laws_eqMoveS.mono : ∀ a0 a1 k, LeO (laws_eqMoveS.f k a0 a1) (laws_eqMoveS.f (k + 1) a0 a1) := by
 intro a0 a1 k
 have ih0 := laws_eqMoveS.mono_l k
 unfold laws_eqMoveS.f
 repeat' first
   | (with_reducible exact ih0 _ _ _)
   | (with_reducible exact LeO.refl _)
   | (with_reducible exact LeO.none _)
   | (with_reducible refine LeO.ite ?_ ?_)
   | (with_reducible refine LeO.bind ?_ (fun _ => ?_))
   | exact ih0 _ _ _
   | exact LeO.none _
   | refine LeO.ite ?_ ?_
   | refine LeO.bind ?_ (fun _ => ?_)
def laws_eqMoveS.T6 : Bool × List (List Nat × List Nat) := (true, [([], []), ([], []), ([0, 1], [0, 1]), ([2], [2]), ([], []), ([], []), ([4, 5], [4, 5]), ([6], [6]), ([3, 7], [3, 7]), ([8], [8])])
def laws_eqMoveS.B6 : List Nat := [0, 0, 3, 7, 0, 0, 48, 112, 255, 511]
theorem laws_eqMoveS.tab6 : rtab .any (opsOf Try.f46 6) = laws_eqMoveS.T6 := by kernel_rfl
theorem laws_eqMoveS.bits6 : waitsOk laws_eqMoveS.T6.2 laws_eqMoveS.B6 = true := by kernel_rfl
set_option maxHeartbeats 8000000 in
set_option maxRecDepth 100000 in
theorem laws_eqMoveS.calls (k : Nat) (A0 : Option Addr) (c0 : Nat) (l0 : List (S64)) (A1 : Option Addr) (c1 : Nat) (l1 : List (S64)) (r : Bool) (w : World) (hr0 : Kd.C k64 w A0 l0.length l0) (hc0 : l0.length ≤ c0) (hr1 : Kd.C k64 w A1 l1.length l1) (hc1 : l1.length ≤ c1) (h : laws_eqMoveS.f k l0 l1 = some r) :
  Calls Try.prog 46 #[.slice A0 l0.length c0, .slice A1 l1.length c1] w fun e w' => e = .returned (.bool r) ∧ Below w.heap.size w w' := by
 have hu64 := Try.underlying64
 have HR0 := Aside0.mk hr0
 have HC0 := Aside0.mk hc0
 clear hr0 hc0
 have HR1 := Aside0.mk hr1
 have HC1 := Aside0.mk hc1
 clear hr1 hc1
 have HB := Aside0.mk (Below.refl w.heap.size w)
 have H : (if (l0.length : Int) = (l1.length : Int) then (laws_eqMoveS.l0 k l0 l1 0) else (some false)) = some r := h
 clear h
 by_cases c3 : (l0.length : Int) = (l1.length : Int)
 ·rw [if_pos c3] at H
  have c3b0 : ((l0.length : Int) == (l1.length : Int)) = true := beq_iff_eq.mpr c3
  have c3b1 : ((l0.length : Int) != (l1.length : Int)) = false := bne_eq_false_iff_eq.mpr c3
  have c3b2 : (l0.length == l1.length) = true := by first | simpa using c3 | (simp at c3 ⊢; omega)
  clear c3
  have H' := Aside0.mk H
  clear H
  go_enter Try.func46, Try.ntmps46
  go_wp2
  go_loopg [5] k (fun kq v5 w' => ∃ (x5_1 : Int), v5 = .int .i64 x5_1 ∧ Aside0 (laws_eqMoveS.l0 kq l0 l1 x5_1 = some r) ∧ Aside0 (kq ≤ k) ∧ Aside0 (Below w.heap.size w w'))
  case atStart => exact ⟨(0), zF, H', ⟨Nat.le_refl _⟩, ⟨zB HB⟩⟩
  case round =>
   clear H'
   try clear c1
   try clear p2
   try clear c3
   try clear c3b0
   try clear c3b1
   try clear c3b2
   obtain ⟨x5_1, rfl, HA, HK1, HB⟩ := hrel
   cases gk with
   | zero => exact absurd HA.out (by simp [laws_eqMoveS.l0])
   | succ k1 =>
    have H := HA.out
    clear HA
    simp only [laws_eqMoveS.l0] at H
    by_cases c4 : x5_1 < (l0.length : Int)
    ·rw [if_pos c4] at H
     have c4b0 : decide (x5_1 < (l0.length : Int)) = true := decide_eq_true c4
     clear c4
     obtain ⟨c5, H⟩ := ifS H
     have c5b0 : decide (0 ≤ x5_1) = true := decide_eq_true c5
     clear c5
     obtain ⟨c6, H⟩ := ifS H
     have c6b0 : decide (x5_1 < (l1.length : Int)) = true := decide_eq_true c6
     clear c6
     obtain ⟨t338, A7, H⟩ := bindS H
     by_cases c8 : t338 = true
     ·subst c8
      have H1 : (laws_eqMoveS.l0 k1 l0 l1 (wrap64 (x5_1 + 1))) = some r := by rw [if_pos rfl] at H; exact H
      clear H
      have H := H1
      clear H1
      have H' := Aside0.mk H
      clear H
      try go_wp2
      replace HB := Aside0.mk (below_drew1 HB.out)
      have p336 : 0 ≤ (x5_1 : Int) := zD
      have q336 : x5_1 < (l0.length : Int) := zD
      obtain ⟨ad336, e336, hx336_0, hx336_1, hx336_2, hx336_3⟩ := at_T64 HR0.out x5_1 p336 q336
      have hw336_3 := hx336_3
      have hw336_2 := hx336_2
      have hw336_1 := hx336_1
      have hw336_0 := hx336_0
      cases e336
      replace hx336_0 := hL HB hx336_0
      replace hx336_1 := hL HB hx336_1
      replace hx336_2 := hL HB hx336_2
      replace hx336_3 := hL HB hx336_3
      replace p336 := eq_true p336
      replace q336 := eq_true q336
      have p337 : 0 ≤ (x5_1 : Int) := zD
      have q337 : x5_1 < (l1.length : Int) := zD
      obtain ⟨ad337, e337, hx337_0, hx337_1, hx337_2, hx337_3⟩ := at_T64 HR1.out x5_1 p337 q337
      have hw337_3 := hx337_3
      have hw337_2 := hx337_2
      have hw337_1 := hx337_1
      have hw337_0 := hx337_0
      cases e337
      replace hx337_0 := hL HB hx337_0
      replace hx337_1 := hL HB hx337_1
      replace hx337_2 := hL HB hx337_2
      replace hx337_3 := hL HB hx337_3
      replace p337 := eq_true p337
      replace q337 := eq_true q337
      refine start_ (n := 10) (S := fun w' => w'.cell? (ad336.add ((x5_1).toNat * 4)) = some (.int .i64 ((rd_T64 l0 x5_1).f0)) ∧ w'.cell? ⟨(ad336.add ((x5_1).toNat * 4)).block, (ad336.add ((x5_1).toNat * 4)).off + 1, none⟩ = some (.bool ((rd_T64 l0 x5_1).f1)) ∧ w'.cell? ⟨(ad336.add ((x5_1).toNat * 4)).block, (ad336.add ((x5_1).toNat * 4)).off + 2, none⟩ = some (.int .i64 ((rd_T64 l0 x5_1).f2)) ∧ w'.cell? ⟨(ad336.add ((x5_1).toNat * 4)).block, (ad336.add ((x5_1).toNat * 4)).off + 3, none⟩ = some (.int .i64 ((rd_T64 l0 x5_1).f3)) ∧ w'.cell? (ad337.add ((x5_1).toNat * 4)) = some (.int .i64 ((rd_T64 l1 x5_1).f0)) ∧ w'.cell? ⟨(ad337.add ((x5_1).toNat * 4)).block, (ad337.add ((x5_1).toNat * 4)).off + 1, none⟩ = some (.bool ((rd_T64 l1 x5_1).f1)) ∧ w'.cell? ⟨(ad337.add ((x5_1).toNat * 4)).block, (ad337.add ((x5_1).toNat * 4)).off + 2, none⟩ = some (.int .i64 ((rd_T64 l1 x5_1).f2)) ∧ w'.cell? ⟨(ad337.add ((x5_1).toNat * 4)).block, (ad337.add ((x5_1).toNat * 4)).off + 3, none⟩ = some (.int .i64 ((rd_T64 l1 x5_1).f3))) (ds := []) (bm 10 0) (by kernel_rfl) rfl (bm0 _) ⟨(hL HB hw336_0), (hL HB hw336_1), (hL HB hw336_2), (hL HB hw336_3), (hL HB hw337_0), (hL HB hw337_1), (hL HB hw337_2), (hL HB hw337_3)⟩ (fun hHeld => ?_); refine with_tabW laws_eqMoveS.tab6 laws_eqMoveS.bits6 (fun HT_ HW_ => ?_)
      generalize wr.drew = w9 at HB hx336_0 hx336_1 hx336_2 hx336_3 hx337_0 hx337_1 hx337_2 hx337_3 hHeld ⊢
      refine pU 0 (some 17) (bm 10 1) HT_ rfl rfl ?_
      refine pU 1 (some 18) (bm 10 3) HT_ rfl rfl ?_
      refine pU 2 (some 19) (bm 10 7) HT_ rfl rfl ?_
      refine pU 4 (some 21) (bm 10 23) HT_ rfl rfl ?_
      refine pU 5 (some 22) (bm 10 55) HT_ rfl rfl ?_
      refine pU 6 (some 23) (bm 10 119) HT_ rfl rfl ?_
      refine tU 3 (some 20) (bm 10 127) HT_ HW_ rfl rfl hHeld ?_
      refine tU 7 (some 24) (bm 10 255) HT_ HW_ rfl rfl hHeld ?_
      refine one_ (i := 8) (N := some 25) (bm 10 511) rfl rfl (one_of HT_.out (by kernel_rfl)) (by decide) (fun K hK => ?_)
      refine goes_ Try.func66 (by kernel_rfl) rfl #[.agg #[.int .i64 ((rd_T64 l0 x5_1).f0), .bool ((rd_T64 l0 x5_1).f1), .int .i64 ((rd_T64 l0 x5_1).f2), .int .i64 ((rd_T64 l0 x5_1).f3)], .agg #[.int .i64 ((rd_T64 l1 x5_1).f0), .bool ((rd_T64 l1 x5_1).f1), .int .i64 ((rd_T64 l1 x5_1).f2), .int .i64 ((rd_T64 l1 x5_1).f3)]] (by rfl) rfl rfl zG ?_
      with_reducible refine (laws_eqMove.calls ((rd_T64 l0 x5_1).f0) ((rd_T64 l0 x5_1).f1) ((rd_T64 l0 x5_1).f2) ((rd_T64 l0 x5_1).f3) ((rd_T64 l1 x5_1).f0) ((rd_T64 l1 x5_1).f1) ((rd_T64 l1 x5_1).f2) ((rd_T64 l1 x5_1).f3) true _ A7.out).mono ?_
      rintro e w10 ⟨rfl, hb⟩
      refine ⟨_, rfl, ?_⟩
      replace HB := bS HB hb
      (try clear hb)
      (try clear hb2)
      (try clear hk)
      (try clear hi)
      refine hK.out _ _ ⟨(hL HB hw336_0), (hL HB hw336_1), (hL HB hw336_2), (hL HB hw336_3), (hL HB hw337_0), (hL HB hw337_1), (hL HB hw337_2), (hL HB hw337_3)⟩ (fun hHeld => ?_)
      clear hK K
      refine norm_ (a' := ?_) ?_ ?_
      rotate_left
      ·show Act.put _ (some 25) _ = _
       simp only [Act.put, List.setIfInBounds_toArray, List.set_cons_zero, List.set_cons_succ, i64_w, i32_w]
       rfl
      refine pU 9 (some 26) (bm 10 1023) HT_ rfl rfl ?_
      refine done_ (done_of HT_.out (by kernel_rfl)) ?_
      try clear hHeld
      try go_wp2
      go_roundg k1
      case measure => have := HK1.out; omega
      case rel => exact ⟨(wrap64 (x5_1 + 1)), zF, H', ⟨by have := HK1.out; omega⟩, ⟨zB HB⟩⟩
     ·replace c8 := Bool.eq_false_iff.mpr c8
      subst c8
      have H1 : (some false) = some r := by rw [if_neg (show ¬ (false = true) by decide)] at H; exact H
      clear H
      have H := H1
      clear H1
      obtain rfl := Option.some.inj H
      try go_wp2
      replace HB := Aside0.mk (below_drew1 HB.out)
      have p336 : 0 ≤ (x5_1 : Int) := zD
      have q336 : x5_1 < (l0.length : Int) := zD
      obtain ⟨ad336, e336, hx336_0, hx336_1, hx336_2, hx336_3⟩ := at_T64 HR0.out x5_1 p336 q336
      have hw336_3 := hx336_3
      have hw336_2 := hx336_2
      have hw336_1 := hx336_1
      have hw336_0 := hx336_0
      cases e336
      replace hx336_0 := hL HB hx336_0
      replace hx336_1 := hL HB hx336_1
      replace hx336_2 := hL HB hx336_2
      replace hx336_3 := hL HB hx336_3
      replace p336 := eq_true p336
      replace q336 := eq_true q336
      have p337 : 0 ≤ (x5_1 : Int) := zD
      have q337 : x5_1 < (l1.length : Int) := zD
      obtain ⟨ad337, e337, hx337_0, hx337_1, hx337_2, hx337_3⟩ := at_T64 HR1.out x5_1 p337 q337
      have hw337_3 := hx337_3
      have hw337_2 := hx337_2
      have hw337_1 := hx337_1
      have hw337_0 := hx337_0
      cases e337
      replace hx337_0 := hL HB hx337_0
      replace hx337_1 := hL HB hx337_1
      replace hx337_2 := hL HB hx337_2
      replace hx337_3 := hL HB hx337_3
      replace p337 := eq_true p337
      replace q337 := eq_true q337
      refine start_ (n := 10) (S := fun w' => w'.cell? (ad336.add ((x5_1).toNat * 4)) = some (.int .i64 ((rd_T64 l0 x5_1).f0)) ∧ w'.cell? ⟨(ad336.add ((x5_1).toNat * 4)).block, (ad336.add ((x5_1).toNat * 4)).off + 1, none⟩ = some (.bool ((rd_T64 l0 x5_1).f1)) ∧ w'.cell? ⟨(ad336.add ((x5_1).toNat * 4)).block, (ad336.add ((x5_1).toNat * 4)).off + 2, none⟩ = some (.int .i64 ((rd_T64 l0 x5_1).f2)) ∧ w'.cell? ⟨(ad336.add ((x5_1).toNat * 4)).block, (ad336.add ((x5_1).toNat * 4)).off + 3, none⟩ = some (.int .i64 ((rd_T64 l0 x5_1).f3)) ∧ w'.cell? (ad337.add ((x5_1).toNat * 4)) = some (.int .i64 ((rd_T64 l1 x5_1).f0)) ∧ w'.cell? ⟨(ad337.add ((x5_1).toNat * 4)).block, (ad337.add ((x5_1).toNat * 4)).off + 1, none⟩ = some (.bool ((rd_T64 l1 x5_1).f1)) ∧ w'.cell? ⟨(ad337.add ((x5_1).toNat * 4)).block, (ad337.add ((x5_1).toNat * 4)).off + 2, none⟩ = some (.int .i64 ((rd_T64 l1 x5_1).f2)) ∧ w'.cell? ⟨(ad337.add ((x5_1).toNat * 4)).block, (ad337.add ((x5_1).toNat * 4)).off + 3, none⟩ = some (.int .i64 ((rd_T64 l1 x5_1).f3))) (ds := []) (bm 10 0) (by kernel_rfl) rfl (bm0 _) ⟨(hL HB hw336_0), (hL HB hw336_1), (hL HB hw336_2), (hL HB hw336_3), (hL HB hw337_0), (hL HB hw337_1), (hL HB hw337_2), (hL HB hw337_3)⟩ (fun hHeld => ?_); refine with_tabW laws_eqMoveS.tab6 laws_eqMoveS.bits6 (fun HT_ HW_ => ?_)
      generalize wr.drew = w11 at HB hx336_0 hx336_1 hx336_2 hx336_3 hx337_0 hx337_1 hx337_2 hx337_3 hHeld ⊢
      refine pU 0 (some 17) (bm 10 1) HT_ rfl rfl ?_
      refine pU 1 (some 18) (bm 10 3) HT_ rfl rfl ?_
      refine pU 2 (some 19) (bm 10 7) HT_ rfl rfl ?_
      refine pU 4 (some 21) (bm 10 23) HT_ rfl rfl ?_
      refine pU 5 (some 22) (bm 10 55) HT_ rfl rfl ?_
      refine pU 6 (some 23) (bm 10 119) HT_ rfl rfl ?_
      refine tU 3 (some 20) (bm 10 127) HT_ HW_ rfl rfl hHeld ?_
      refine tU 7 (some 24) (bm 10 255) HT_ HW_ rfl rfl hHeld ?_
      refine one_ (i := 8) (N := some 25) (bm 10 511) rfl rfl (one_of HT_.out (by kernel_rfl)) (by decide) (fun K hK => ?_)
      refine goes_ Try.func66 (by kernel_rfl) rfl #[.agg #[.int .i64 ((rd_T64 l0 x5_1).f0), .bool ((rd_T64 l0 x5_1).f1), .int .i64 ((rd_T64 l0 x5_1).f2), .int .i64 ((rd_T64 l0 x5_1).f3)], .agg #[.int .i64 ((rd_T64 l1 x5_1).f0), .bool ((rd_T64 l1 x5_1).f1), .int .i64 ((rd_T64 l1 x5_1).f2), .int .i64 ((rd_T64 l1 x5_1).f3)]] (by rfl) rfl rfl zG ?_
      with_reducible refine (laws_eqMove.calls ((rd_T64 l0 x5_1).f0) ((rd_T64 l0 x5_1).f1) ((rd_T64 l0 x5_1).f2) ((rd_T64 l0 x5_1).f3) ((rd_T64 l1 x5_1).f0) ((rd_T64 l1 x5_1).f1) ((rd_T64 l1 x5_1).f2) ((rd_T64 l1 x5_1).f3) false _ A7.out).mono ?_
      rintro e w12 ⟨rfl, hb⟩
      refine ⟨_, rfl, ?_⟩
      replace HB := bS HB hb
      (try clear hb)
      (try clear hb2)
      (try clear hk)
      (try clear hi)
      refine hK.out _ _ ⟨(hL HB hw336_0), (hL HB hw336_1), (hL HB hw336_2), (hL HB hw336_3), (hL HB hw337_0), (hL HB hw337_1), (hL HB hw337_2), (hL HB hw337_3)⟩ (fun hHeld => ?_)
      clear hK K
      refine norm_ (a' := ?_) ?_ ?_
      rotate_left
      ·show Act.put _ (some 25) _ = _
       simp only [Act.put, List.setIfInBounds_toArray, List.set_cons_zero, List.set_cons_succ, i64_w, i32_w]
       rfl
      refine pU 9 (some 26) (bm 10 1023) HT_ rfl rfl ?_
      refine done_ (done_of HT_.out (by kernel_rfl)) ?_
      try clear hHeld
      try go_wp2
      go_ret
      exact ⟨zE, zB HB⟩
    ·rw [if_neg c4] at H
     have c4b0 : decide (x5_1 < (l0.length : Int)) = false := decide_eq_false c4
     clear c4
     obtain rfl := Option.some.inj H
     go_wp2
     go_ret
     exact ⟨zE, zB HB⟩
 ·rw [if_neg c3] at H
  have c3b0 : ((l0.length : Int) == (l1.length : Int)) = false := beq_eq_false_iff_ne.mpr c3
  have c3b1 : ((l0.length : Int) != (l1.length : Int)) = true := bne_iff_ne.mpr c3
  have c3b2 : (l0.length == l1.length) = false := by first | simpa using c3 | (simp at c3 ⊢; omega)
  obtain rfl := Option.some.inj H
  go_enter Try.func46, Try.ntmps46
  go_wp2
  go_ret
  exact ⟨zE, zB HB⟩

end Go.Proofs.Ytmenijbpglknbaa.PFnExactPairsOf
