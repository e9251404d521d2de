-- WRITTEN by pp.py, this session's own wrapper around the print; not trusted: Lean checks it
import Derived.Test.YtfibjclnaeocbaaPFnChainx0
import Derived.Test.YtfibjclnaeocbaaPFnChainx2
namespace Go.Proofs.Ytfibjclnaeocbaa.PFnChain
open Go.RowKit Go.Proofs.Ytfibjclnaeocbaa.Hw Go.Proofs.YtfibjclnaeocbaaW.PrintWords Go.Proofs.YtfibjclnaeocbaaW.PrintLast Go.Proofs.YtfibjclnaeocbaaW.PrintMore
attribute [local go_sem] max2_int min2_int max_two min_two max_three min_three max_four min_four   -- for this text's walks alone
set_option linter.unusedVariables false
set_option linter.unusedSimpArgs false
set_option linter.unusedSectionVars false

/-! ### spec_l13Draw: function 32 -/
mutual
def spec_l13Draw.l0 : Nat → Int → List Int → Int → Int → Int → List Bool → List (S46) → Option (Int × List Bool × (List (S46)) × Int × Int)
 | 0, _, _, _, _, _, _, _ => none
 | k + 1, x4, x1000, x1001, x1002, x141000, x141001, x141002 => if x4 < x141000 then ((spec_l1Once.f x1000 x1001 x1002 2).bind fun bt141 => ((spec_l1Below.f x1000 bt141.2.1 bt141.2.2 3).bind fun bt144 => (if x4 = 0 then ((spec_l1Below.f x1000 bt144.2.1 bt144.2.2 2).bind fun bt147 => (spec_l13Draw.j1 k x4 bt141.1 (wrap64 (1 + bt147.1)) x1000 bt147.2.1 bt147.2.2 x141000 x141001 x141002)) else (spec_l13Draw.j1 k x4 bt141.1 bt144.1 x1000 bt144.2.1 bt144.2.2 x141000 x141001 x141002)))) else (some (x141000, x141001, x141002, x1001, x1002))
def spec_l13Draw.j1 : Nat → Int → Bool → Int → List Int → Int → Int → Int → List Bool → List (S46) → Option (Int × List Bool × (List (S46)) × Int × Int)
 | 0, _, _, _, _, _, _, _, _, _ => none
 | k + 1, x4, x5, x6, x1000, x1001, x1002, x141000, x141001, x141002 => spec_l13Draw.l1 k x4 x5 x6 0 x1000 x1001 x1002 x141000 x141001 x141002
def spec_l13Draw.l1 : Nat → Int → Bool → Int → Int → List Int → Int → Int → Int → List Bool → List (S46) → Option (Int × List Bool × (List (S46)) × Int × Int)
 | 0, _, _, _, _, _, _, _, _, _, _ => none
 | k + 1, x4, x5, x6, x7, x1000, x1001, x1002, x141000, x141001, x141002 => if x7 < x6 then ((spec_l1Below.f x1000 x1001 x1002 3).bind fun bt159 => ((spec_l1Below.f x1000 bt159.2.1 bt159.2.2 x141000).bind fun bt162 => ((spec_MoveOf.f k x141000 x141001 x141002 x4 x5 bt159.1).bind fun t166 => (if t166 < 0 then (if x141002.length < 4398046511104 then (spec_l13Draw.l1 k x4 x5 x6 (wrap64 (x7 + 1)) x1000 bt162.2.1 bt162.2.2 x141000 x141001 (x141002 ++ [(⟨x4, x5, bt159.1, bt162.1⟩ : S46)])) else (none)) else (spec_l13Draw.l1 k x4 x5 x6 (wrap64 (x7 + 1)) x1000 bt162.2.1 bt162.2.2 x141000 x141001 x141002))))) else (if x6 = 0 then (if x141001.length < 140737488355328 then (spec_l13Draw.l0 k (wrap64 (x4 + 1)) x1000 x1001 x1002 x141000 (x141001 ++ [true]) x141002) else (none)) else ((spec_l1Once.f x1000 x1001 x1002 4).bind fun bt153 => (if x141001.length < 140737488355328 then (spec_l13Draw.l0 k (wrap64 (x4 + 1)) x1000 bt153.2.1 bt153.2.2 x141000 (x141001 ++ [bt153.1]) x141002) else (none))))
end
def spec_l13Draw.f (k : Nat) (s0_0 : List Int) (s0_1 : Int) (s0_2 : Int) : Option (Int × List Bool × (List (S46)) × Int × Int) := (spec_l1Below.f s0_0 s0_1 s0_2 4).bind fun bt137 => (spec_l13Draw.l0 k 0 s0_0 bt137.2.1 bt137.2.2 (wrap64 (1 + bt137.1)) ([] : List Bool) ([] : List (S46)))
theorem spec_l13Draw.mono_l : ∀ k, (∀ y0 y1 y2 y3 y4 y5 y6, LeO (spec_l13Draw.l0 k y0 y1 y2 y3 y4 y5 y6) (spec_l13Draw.l0 (k + 1) y0 y1 y2 y3 y4 y5 y6)) ∧ (∀ y0 y1 y2 y3 y4 y5 y6 y7 y8, LeO (spec_l13Draw.j1 k y0 y1 y2 y3 y4 y5 y6 y7 y8) (spec_l13Draw.j1 (k + 1) y0 y1 y2 y3 y4 y5 y6 y7 y8)) ∧ (∀ y0 y1 y2 y3 y4 y5 y6 y7 y8 y9, LeO (spec_l13Draw.l1 k y0 y1 y2 y3 y4 y5 y6 y7 y8 y9) (spec_l13Draw.l1 (k + 1) y0 y1 y2 y3 y4 y5 y6 y7 y8 y9))
 | 0 => ⟨fun _ _ _ _ _ _ _ r h => by simp [spec_l13Draw.l0] at h, fun _ _ _ _ _ _ _ _ _ r h => by simp [spec_l13Draw.j1] at h, fun _ _ _ _ _ _ _ _ _ _ r h => by simp [spec_l13Draw.l1] at h⟩
 | k + 1 => by
  obtain ⟨ih0, ih1, ih2⟩ := spec_l13Draw.mono_l k
  refine ⟨?a0, ?a1, ?a2⟩
  case' a0 => intros; unfold spec_l13Draw.l0
  case' a1 => intros; unfold spec_l13Draw.j1
  case' a2 => intros; unfold spec_l13Draw.l1
  all_goals repeat' first
  | (with_reducible exact ih0 _ _ _ _ _ _ _)
  | (with_reducible exact ih1 _ _ _ _ _ _ _ _ _)
  | (with_reducible exact ih2 _ _ _ _ _ _ _ _ _ _)
  | (with_reducible exact spec_MoveOf.mono _ _ _ _ _ _ _)
  | (with_reducible exact LeO.refl _)
  | (with_reducible exact LeO.none _)
  | (with_reducible refine LeO.ite ?_ ?_)
  | (with_reducible refine LeO.bind ?_ (fun _ => ?_))
  | exact ih0 _ _ _ _ _ _ _
  | exact ih1 _ _ _ _ _ _ _ _ _
  | exact ih2 _ _ _ _ _ _ _ _ _ _
  | exact spec_MoveOf.mono _ _ _ _ _ _ _
  | exact LeO.none _
  | refine LeO.ite ?_ ?_
  | refine LeO.bind ?_ (fun _ => ?_)
theorem spec_l13Draw.mono : ∀ a0 a1 a2 k, LeO (spec_l13Draw.f k a0 a1 a2) (spec_l13Draw.f (k + 1) a0 a1 a2) := by
 intro a0 a1 a2 k
 obtain ⟨ih0, ih1, ih2⟩ := spec_l13Draw.mono_l k
 unfold spec_l13Draw.f
 repeat' first
   | (with_reducible exact ih0 _ _ _ _ _ _ _)
   | (with_reducible exact ih1 _ _ _ _ _ _ _ _ _)
   | (with_reducible exact ih2 _ _ _ _ _ _ _ _ _ _)
   | (with_reducible exact spec_MoveOf.mono _ _ _ _ _ _ _)
   | (with_reducible exact LeO.refl _)
   | (with_reducible exact LeO.none _)
   | (with_reducible refine LeO.ite ?_ ?_)
   | (with_reducible refine LeO.bind ?_ (fun _ => ?_))
   | exact ih0 _ _ _ _ _ _ _
   | exact ih1 _ _ _ _ _ _ _ _ _
   | exact ih2 _ _ _ _ _ _ _ _ _ _
   | exact spec_MoveOf.mono _ _ _ _ _ _ _
   | exact LeO.none _
   | refine LeO.ite ?_ ?_
   | refine LeO.bind ?_ (fun _ => ?_)
def spec_l13Draw.T12 : Bool × List (List Nat × List Nat) := (true, [([], []), ([], []), ([], []), ([2], [2]), ([], []), ([], []), ([5], [5]), ([4, 6, 3], [4, 6]), ([0, 1, 3, 7], [0, 1, 3, 7]), ([], []), ([9, 8, 7, 0, 1, 2, 3, 4, 5, 6, 7, 8, 9], [8, 9])])
def spec_l13Draw.B12 : List Nat := [0, 0, 0, 4, 0, 0, 32, 124, 255, 0, 1023]
theorem spec_l13Draw.tab12 : rtab .any (opsOf Try.f32 12) = spec_l13Draw.T12 := by kernel_rfl
theorem spec_l13Draw.bits12 : waitsOk spec_l13Draw.T12.2 spec_l13Draw.B12 = true := by kernel_rfl
def spec_l13Draw.T15 : Bool × List (List Nat × List Nat) := (true, [([], []), ([0], [0]), ([], []), ([2], [2]), ([3], [3]), ([4], [4]), ([5, 4, 4], [4, 5]), ([4, 6], [4, 6]), ([7], [7]), ([1, 8, 6], [1, 8]), ([0, 1, 2, 3, 4, 5, 6, 7, 8, 9], []), ([10, 9, 9, 0, 1, 2, 3, 4, 5, 6, 7, 8, 9], [9, 10])])
def spec_l13Draw.B15 : List Nat := [0, 1, 0, 4, 12, 28, 60, 124, 252, 511, 1023, 2047]
theorem spec_l13Draw.tab15 : rtab .any (opsOf Try.f32 15) = spec_l13Draw.T15 := by kernel_rfl
theorem spec_l13Draw.bits15 : waitsOk spec_l13Draw.T15.2 spec_l13Draw.B15 = true := by kernel_rfl
theorem spec_l13Draw.zI69 {P Q : Prop} (h : Aside0 P) (hw : P → Q := by intro h_; repeat (first | (with_reducible first | exact h_ | apply IsS69.alloc | apply IsS69.drew | apply IsS69.drewN | apply IsS69.set_1 | apply IsS69.set_2 | refine IsS69.far ?_ (Aside0.out (by assumption)) _) | exact h_)) : Q := hw h.out
set_option maxHeartbeats 8000000 in
set_option maxRecDepth 100000 in
theorem spec_l13Draw.calls (k : Nat) (g : Nat) (s0_0 : List Int) (s0_1 : Int) (s0_2 : Int) (r1 : Int) (r2 : List Bool) (r3 : List (S46)) (r4 : Int) (r5 : Int) (w0 w : World) (hI : IsS69 w0 w g s0_0 s0_1 s0_2) (hB : Below w0.heap.size w0 w) (h : spec_l13Draw.f k s0_0 s0_1 s0_2 = some (r1, r2, r3, r4, r5)) :
  Calls Try.prog 32 #[.pointer (some ⟨g, 0, none⟩)] w fun e w' => ∃ v1_ v2_ : Value, e = .returned (.agg #[.int .i64 r1, v1_, v2_]) ∧ Kd.R Kd.bool 4 w' w.heap.size (fun _ => True) v1_ r2 ∧ Kd.R k46 46 w' w.heap.size (fun _ => True) v2_ r3 ∧ IsS69 w0 w' g s0_0 r4 r5 ∧ Below w0.heap.size w0 w' ∧ KeepBut w w' g none := by
 have hu27 := Try.underlying27
 have hu46 := Try.underlying46
 have HI0 := Aside0.mk hI
 have GI0 := Aside0.mk (IsS69.ge hI)
 have HK := Aside0.mk (KeepBut.refl w g none)
 have HL := Aside0.mk hB.size
 clear hI
 have HW0 := Aside0.mk hB.size
 have HB := Aside0.mk hB
 clear hB
 have H : ((spec_l1Below.f s0_0 s0_1 s0_2 4).bind fun bt137 => (spec_l13Draw.l0 k 0 s0_0 bt137.2.1 bt137.2.2 (wrap64 (1 + bt137.1)) ([] : List Bool) ([] : List (S46)))) = some (r1, r2, r3, r4, r5) := h
 clear h
 replace H := Option.bind_eq_some_iff.mp H
 obtain ⟨⟨t137, t138, t139⟩, A20, H⟩ := H
 dsimp only at H
 have A2 := Aside0.mk A20
 clear A20
 have H' := Aside0.mk H
 clear H
 go_enter Try.func32, Try.ntmps32
 go_wp2_with (first | ((with_reducible refine gate_dst (N := 2) rfl ?_); refine box_event ?hg (N := 2) ?hd (cs := #[.int .i64 0, .slice none 0 0, .slice none 0 0]) (t := 27) ?hr ?_; (case hd => rfl); (case hg => rfl); (case hr => first | (go_simp; done) | (go_simp; rfl)); intro gb136 hg w3 hbox hb; replace HB := bS HB hb; have BK136 := Aside0.mk (hbox); have GW136 := gK HK hg; have GE136 := gL HW0 GW136; replace HK := hkB HK hb; have NB0_136 := IsS69.nL HI0 hg; have NB136_0 := IsS69.nR HI0 hg; replace HI0 := Aside0.mk (IsS69.below (spec_l13Draw.zI69 HI0) hb); clear hb hbox hg) | ((with_reducible refine gate_callee (f := 33) rfl ?_); refine goesL_ (some 10) rfl rfl Try.func33 (by kernel_rfl) rfl #[.pointer (some ⟨g, 0, none⟩), .int .i64 4] rfl zG ?_; (with_reducible refine (spec_l1Below.calls g s0_0 s0_1 s0_2 4 t137 t138 t139 w0 _ ?side1 ?side2 A2.out).mono ?_); (case side1 => exact spec_l13Draw.zI69 HI0); (case side2 => exact zB HB); rintro e w4 ⟨rfl, hi, hb, hk⟩; refine ⟨_, rfl, ?_⟩; replace BK136 := kbT hk BK136 NB136_0; replace HK := hkT HK hk; replace HB := Aside0.mk (hb); replace HI0 := Aside0.mk (hi); (try clear hb)) | ((with_reducible refine gate_dst (N := 3) rfl ?_); refine box_event ?hg (N := 3) ?hd (cs := #[.int .i64 0, .slice none 0 0, .slice none 0 0]) (t := 27) ?hr ?_; (case hd => rfl); (case hg => rfl); (case hr => first | (go_simp; done) | (go_simp; rfl)); intro gb140 hg w5 hbox hb; replace HB := bS HB hb; have BK140 := Aside0.mk (hbox); have GW140 := gK HK hg; have GE140 := gL HW0 GW140; replace HK := hkB HK hb; have NB136_140 := nL BK136 hg; have NB140_136 := nR BK136 hg; replace BK136 := kB BK136 hb; have NB0_140 := IsS69.nL HI0 hg; have NB140_0 := IsS69.nR HI0 hg; replace HI0 := Aside0.mk (IsS69.below (spec_l13Draw.zI69 HI0) hb); clear hb hbox hg; have hnb6 := NB140_136.out; have hnc6 := NB136_140.out; have hnb7 := NB140_0.out; have hnc7 := NB0_140.out; obtain ⟨hcz8_0, hcz8_1, hcz8_2, hfz8_0, hfz8_1, hfz8_2⟩ := bq3 BK140))
 go_loopg [4] k (fun kq v4 w' => ∃ (x4_1 : Int) (x1001_1 : Int) (x1002_1 : Int) (x141001_1 : List Bool) (x141002_1 : List (S46)) (u141001 : Value) (u141002 : Value), v4 = .int .i64 x4_1 ∧ Aside0 (spec_l13Draw.l0 kq x4_1 s0_0 x1001_1 x1002_1 (wrap64 (1 + t137)) x141001_1 x141002_1 = some (r1, r2, r3, r4, r5)) ∧ Aside0 (kq ≤ k) ∧ Aside0 (Kd.R Kd.bool 4 w' w.heap.size (fun _ => True) u141001 x141001_1) ∧ Aside0 (Kd.R k46 46 w' w.heap.size (fun _ => True) u141002 x141002_1) ∧ Aside0 (w'.heap[gb136]? = some (.cells #[.int .i64 0, (.slice none 0 0), (.slice none 0 0)] 27 (0, 0))) ∧ Aside0 (w'.heap[gb140]? = some (.cells #[.int .i64 (wrap64 (1 + t137)), u141001, u141002] 27 (0, 0))) ∧ Aside0 (IsS69 w0 w' g s0_0 x1001_1 x1002_1) ∧ Aside0 (KeepBut w w' g none) ∧ Aside0 (Below w0.heap.size w0 w'))
 case atStart => exact ⟨(0), (t138), (t139), (([] : List Bool)), (([] : List (S46))), (.slice none 0 0), (.slice none 0 0), zF, H', ⟨Nat.le_refl _⟩, ⟨by first | exact Kd.R_nil _ _ _ _ _ | exact Kd.N_nil _ _ _ _ _ | exact Kd.V_nil _ _ _ _ _ | exact Kd.Q_nil _ _ _ _ _ | exact Kd.S_nil _ _ _ _ _⟩, ⟨by first | exact Kd.R_nil _ _ _ _ _ | exact Kd.N_nil _ _ _ _ _ | exact Kd.V_nil _ _ _ _ _ | exact Kd.Q_nil _ _ _ _ _ | exact Kd.S_nil _ _ _ _ _⟩, ⟨kF BK136⟩, ⟨by (with_reducible repeat (first | refine blk_drewN ?_ _ | refine blk_drew ?_ | refine blk_alloc ?_ _)); refine blk_put (cs := #[.int .i64 (wrap64 (1 + t137)), .slice none 0 0, .slice none 0 0]) ?_ 2 _ rfl; (with_reducible repeat (first | refine blk_drewN ?_ _ | refine blk_drew ?_ | refine blk_alloc ?_ _)); refine blk_put (cs := #[.int .i64 (wrap64 (1 + t137)), .slice none 0 0, .slice none 0 0]) ?_ 1 _ rfl; (with_reducible repeat (first | refine blk_drewN ?_ _ | refine blk_drew ?_ | refine blk_alloc ?_ _)); refine blk_put (cs := #[.int .i64 0, .slice none 0 0, .slice none 0 0]) ?_ 0 _ rfl; (with_reducible repeat (first | refine blk_drewN ?_ _ | refine blk_drew ?_ | refine blk_alloc ?_ _)); exact BK140.out⟩, ⟨spec_l13Draw.zI69 HI0⟩, ⟨zH HK⟩, ⟨zB HB⟩⟩
 case round =>
  clear H'
  try clear p2
  try clear c3
  try clear c6
  try clear p6
  try clear c7
  try clear hcz8_0
  try clear hcz8_1
  try clear hcz8_2
  try clear hfz8_0
  try clear hfz8_1
  try clear hfz8_2
  obtain ⟨x4_1, x1001_1, x1002_1, x141001_1, x141002_1, u141001, u141002, rfl, HA, HK1, HO_141001, HO_141002, BK136, BK140, HI0, HK, HB⟩ := hrel
  cases gk with
  | zero => exact absurd HA.out (by simp [spec_l13Draw.l0])
  | succ k1 =>
   have H := HA.out
   clear HA
   simp only [spec_l13Draw.l0] at H
   by_cases c9 : x4_1 < (wrap64 (1 + t137))
   ·rw [if_pos c9] at H
    have c9b0 : decide (x4_1 < (wrap64 (1 + t137))) = true := decide_eq_true c9
    clear c9
    replace H := Option.bind_eq_some_iff.mp H
    obtain ⟨⟨t141, t142, t143⟩, A100, H⟩ := H
    dsimp only at H
    have A10 := Aside0.mk A100
    clear A100
    replace H := Option.bind_eq_some_iff.mp H
    obtain ⟨⟨t144, t145, t146⟩, A110, H⟩ := H
    dsimp only at H
    have A11 := Aside0.mk A110
    clear A110
    have HC12 := Aside0.mk H
    clear H
    have hnb13 := NB140_136.out
    have hnc13 := NB136_140.out
    have hnb14 := NB140_0.out
    have hnc14 := NB0_140.out
    obtain ⟨hcz15_0, hcz15_1, hcz15_2, hfz15_0, hfz15_1, hfz15_2⟩ := bq3 BK140
    go_upto_if 24 with (first | ((with_reducible refine gate_callee (f := 31) rfl ?_); refine goesL_ (some 20) rfl rfl Try.func31 (by kernel_rfl) rfl #[.pointer (some ⟨g, 0, none⟩), .int .i64 2] rfl zG ?_; (with_reducible refine (spec_l1Once.calls g s0_0 x1001_1 x1002_1 2 t141 t142 t143 w0 _ ?side1 ?side2 A10.out).mono ?_); (case side1 => exact spec_l13Draw.zI69 HI0); (case side2 => exact zB HB); rintro e w16 ⟨rfl, hi, hb, hk⟩; refine ⟨_, rfl, ?_⟩; replace HO_141001 := IsS69.kR HI0 HO_141001 hk; replace HO_141002 := IsS69.kR HI0 HO_141002 hk; replace BK136 := kbT hk BK136 NB136_0; replace BK140 := kbT hk BK140 NB140_0; replace HK := hkT HK hk; replace HB := Aside0.mk (hb); replace HI0 := Aside0.mk (hi); (try clear hb)) | ((with_reducible refine gate_callee (f := 33) rfl ?_); refine goesL_ (some 22) rfl rfl Try.func33 (by kernel_rfl) rfl #[.pointer (some ⟨g, 0, none⟩), .int .i64 3] rfl zG ?_; (with_reducible refine (spec_l1Below.calls g s0_0 t142 t143 3 t144 t145 t146 w0 _ ?side1 ?side2 A11.out).mono ?_); (case side1 => exact spec_l13Draw.zI69 HI0); (case side2 => exact zB HB); rintro e w17 ⟨rfl, hi, hb, hk⟩; refine ⟨_, rfl, ?_⟩; replace HO_141001 := IsS69.kR HI0 HO_141001 hk; replace HO_141002 := IsS69.kR HI0 HO_141002 hk; replace BK136 := kbT hk BK136 NB136_0; replace BK140 := kbT hk BK140 NB140_0; replace HK := hkT HK hk; replace HB := Aside0.mk (hb); replace HI0 := Aside0.mk (hi); (try clear hb)))
    (try simp only [Act.put, List.setIfInBounds_toArray, List.set_cons_zero, List.set_cons_succ])
    go_cut [6] (fun v6 wc => ∃ (kq : Nat) (x6_11 : Int) (x1001_11 : Int) (x1002_11 : Int), v6 = .int .i64 x6_11 ∧ Aside0 (spec_l13Draw.j1 kq x4_1 t141 x6_11 s0_0 x1001_11 x1002_11 (wrap64 (1 + t137)) x141001_1 x141002_1 = some (r1, r2, r3, r4, r5)) ∧ Aside0 (kq ≤ k1) ∧ Aside0 (Kd.R Kd.bool 4 wc w.heap.size (fun _ => True) u141001 x141001_1) ∧ Aside0 (Kd.R k46 46 wc w.heap.size (fun _ => True) u141002 x141002_1) ∧ Aside0 (wc.heap[gb136]? = some (.cells #[.int .i64 0, (.slice none 0 0), (.slice none 0 0)] 27 (0, 0))) ∧ Aside0 (wc.heap[gb140]? = some (.cells #[.int .i64 (wrap64 (1 + t137)), u141001, u141002] 27 (0, 0))) ∧ Aside0 (IsS69 w0 wc g s0_0 x1001_11 x1002_11) ∧ Aside0 (KeepBut w wc g none) ∧ Aside0 (Below w0.heap.size w0 wc))
    case first =>
     have H := HC12.out
     clear HC12
     by_cases c18 : x4_1 = 0
     ·rw [if_pos c18] at H
      have c18b0 : (x4_1 == 0) = true := beq_iff_eq.mpr c18
      have c18b1 : (x4_1 != 0) = false := bne_eq_false_iff_eq.mpr c18
      clear c18
      (first | rw [c18b0] | (simp only [i64_w, i32_w]; rw [c18b0]) | skip)
      replace H := Option.bind_eq_some_iff.mp H
      obtain ⟨⟨t147, t148, t149⟩, A190, H⟩ := H
      dsimp only at H
      have A19 := Aside0.mk A190
      clear A190
      have H' := Aside0.mk H
      clear H
      go_wp2_with (first | ((with_reducible refine gate_callee (f := 33) rfl ?_); refine goesL_ (some 26) rfl rfl Try.func33 (by kernel_rfl) rfl #[.pointer (some ⟨g, 0, none⟩), .int .i64 2] rfl zG ?_; (with_reducible refine (spec_l1Below.calls g s0_0 t145 t146 2 t147 t148 t149 w0 _ ?side1 ?side2 A19.out).mono ?_); (case side1 => exact spec_l13Draw.zI69 HI0); (case side2 => exact zB HB); rintro e w20 ⟨rfl, hi, hb, hk⟩; refine ⟨_, rfl, ?_⟩; replace HO_141001 := IsS69.kR HI0 HO_141001 hk; replace HO_141002 := IsS69.kR HI0 HO_141002 hk; replace BK136 := kbT hk BK136 NB136_0; replace BK140 := kbT hk BK140 NB140_0; replace HK := hkT HK hk; replace HB := Aside0.mk (hb); replace HI0 := Aside0.mk (hi); (try clear hb)))
      go_meet
      case rel => exact ⟨_, (wrap64 (1 + t147)), (t148), (t149), zF, H', ⟨by have := HK1.out; first | omega | exact Nat.le_refl _⟩, ⟨zR HO_141001⟩, ⟨zR HO_141002⟩, ⟨zK BK136⟩, ⟨zK BK140⟩, ⟨spec_l13Draw.zI69 HI0⟩, ⟨zH HK⟩, ⟨zB HB⟩⟩
     ·rw [if_neg c18] at H
      have c18b0 : (x4_1 == 0) = false := beq_eq_false_iff_ne.mpr c18
      have c18b1 : (x4_1 != 0) = true := bne_iff_ne.mpr c18
      (first | rw [c18b0] | (simp only [i64_w, i32_w]; rw [c18b0]) | skip)
      have H' := Aside0.mk H
      clear H
      go_wp2
      go_meet
      case rel => exact ⟨_, (t144), (t145), (t146), zF, H', ⟨by have := HK1.out; first | omega | exact Nat.le_refl _⟩, ⟨zR HO_141001⟩, ⟨zR HO_141002⟩, ⟨zK BK136⟩, ⟨zK BK140⟩, ⟨spec_l13Draw.zI69 HI0⟩, ⟨zH HK⟩, ⟨zB HB⟩⟩
    case rest =>
     clear HC12
     try clear c1
     try clear p2
     try clear c3
     try clear c6
     try clear p6
     try clear c7
     try clear c9
     try clear c9b0
     try clear c13
     try clear c14
     try clear c18
     try clear c18b0
     try clear c18b1
     try clear hcz15_0
     try clear hcz15_1
     try clear hcz15_2
     try clear hcz8_0
     try clear hcz8_1
     try clear hcz8_2
     try clear hfz15_0
     try clear hfz15_1
     try clear hfz15_2
     try clear hfz8_0
     try clear hfz8_1
     try clear hfz8_2
     try clear p2
     try clear p6
     obtain ⟨kq, x6_11, x1001_11, x1002_11, rfl, HA, HJ11, HO_141001, HO_141002, BK136, BK140, HI0, HK, HB⟩ := hcut
     cases kq with
     | zero => exact absurd HA.out (by simp [spec_l13Draw.j1])
     | succ kj11 =>
      have H := HA.out
      clear HA
      simp only [spec_l13Draw.j1] at H
      have H' := Aside0.mk H
      clear H
      go_wp2
      go_loopg [7] kj11 (fun kq v7 w' => ∃ (x7_3 : Int) (x1001_3 : Int) (x1002_3 : Int) (x141002_3 : List (S46)) (u141002 : Value), v7 = .int .i64 x7_3 ∧ Aside0 (spec_l13Draw.l1 kq x4_1 t141 x6_11 x7_3 s0_0 x1001_3 x1002_3 (wrap64 (1 + t137)) x141001_1 x141002_3 = some (r1, r2, r3, r4, r5)) ∧ Aside0 (kq ≤ kj11) ∧ Aside0 (Kd.R Kd.bool 4 w' w.heap.size (fun _ => True) u141001 x141001_1) ∧ Aside0 (Kd.R k46 46 w' w.heap.size (fun _ => True) u141002 x141002_3) ∧ Aside0 (w'.heap[gb136]? = some (.cells #[.int .i64 0, (.slice none 0 0), (.slice none 0 0)] 27 (0, 0))) ∧ Aside0 (w'.heap[gb140]? = some (.cells #[.int .i64 (wrap64 (1 + t137)), u141001, u141002] 27 (0, 0))) ∧ Aside0 (IsS69 w0 w' g s0_0 x1001_3 x1002_3) ∧ Aside0 (KeepBut w w' g none) ∧ Aside0 (Below w0.heap.size w0 w'))
      case atStart => exact ⟨(0), (x1001_11), (x1002_11), (x141002_1), (u141002), zF, H', ⟨Nat.le_refl _⟩, ⟨zR HO_141001⟩, ⟨zR HO_141002⟩, ⟨zK BK136⟩, ⟨zK BK140⟩, ⟨spec_l13Draw.zI69 HI0⟩, ⟨zH HK⟩, ⟨zB HB⟩⟩
      case round =>
       clear H'
       try clear c1
       try clear p2
       try clear c3
       try clear c6
       try clear p6
       try clear c7
       try clear c9
       try clear c9b0
       try clear c13
       try clear c14
       try clear c18
       try clear c18b0
       try clear c18b1
       try clear hcz15_0
       try clear hcz15_1
       try clear hcz15_2
       try clear hcz8_0
       try clear hcz8_1
       try clear hcz8_2
       try clear hfz15_0
       try clear hfz15_1
       try clear hfz15_2
       try clear hfz8_0
       try clear hfz8_1
       try clear hfz8_2
       try clear p2
       try clear p6
       obtain ⟨x7_3, x1001_3, x1002_3, x141002_3, u141002, rfl, HA, HK3, HO_141001, HO_141002, BK136, BK140, HI0, HK, HB⟩ := hrel
       cases gk with
       | zero => exact absurd HA.out (by simp [spec_l13Draw.l1])
       | succ k3 =>
        have H := HA.out
        clear HA
        simp only [spec_l13Draw.l1] at H
        by_cases c21 : x7_3 < x6_11
        ·rw [if_pos c21] at H
         have c21b0 : decide (x7_3 < x6_11) = true := decide_eq_true c21
         clear c21
         replace H := Option.bind_eq_some_iff.mp H
         obtain ⟨⟨t159, t160, t161⟩, A220, H⟩ := H
         dsimp only at H
         have A22 := Aside0.mk A220
         clear A220
         replace H := Option.bind_eq_some_iff.mp H
         obtain ⟨⟨t162, t163, t164⟩, A230, H⟩ := H
         dsimp only at H
         have A23 := Aside0.mk A230
         clear A230
         obtain ⟨t166, A24, H⟩ := bindS H
         by_cases c25 : t166 < 0
         ·rw [if_pos c25] at H
          have c25b0 : decide (t166 < 0) = true := decide_eq_true c25
          clear c25
          obtain ⟨c26, H⟩ := ifS H
          have LMc26 := Aside0.mk c26
          clear c26
          obtain ⟨y167, hy167⟩ : ∃ y_ : List (S46), y_ = (x141002_3 ++ [(⟨x4_1, t141, t159, t162⟩ : S46)]) := ⟨_, rfl⟩
          replace H : (spec_l13Draw.l1 k3 x4_1 t141 x6_11 (wrap64 (x7_3 + 1)) s0_0 t163 t164 (wrap64 (1 + t137)) x141001_1 y167) = some (r1, r2, r3, r4, r5) := by first | (rw [hy167]; with_reducible exact H) | (rw [hy167]; exact H) | exact H
          have Ny167 := Aside0.mk hy167
          clear hy167
          have H' := Aside0.mk H
          clear H
          try go_wp2
          replace HO_141001 := Aside0.mk (Kd.R_drew HO_141001.out)
          replace HO_141002 := Aside0.mk (Kd.R_drew HO_141002.out)
          replace BK136 := Aside0.mk (blk_drew BK136.out)
          replace BK140 := Aside0.mk (blk_drew BK140.out)
          replace HI0 := Aside0.mk (IsS69.drew HI0.out)
          replace HK := Aside0.mk (keep_drew HK.out)
          replace HB := Aside0.mk (below_drew1 HB.out)
          refine start_ (n := 11) (S := fun w' => w'.cell? ⟨gb140, 0, none⟩ = some (.int .i64 (wrap64 (1 + t137))) ∧ w'.cell? ⟨gb140, 1, none⟩ = some (u141001) ∧ w'.cell? ⟨gb140, 2, none⟩ = some (u141002)) (ds := []) (bm 11 0) (by kernel_rfl) rfl (bm0 _) ⟨bc0 BK140, bc1 BK140, bc2 BK140⟩ (fun hHeld => ?_); refine with_tabW spec_l13Draw.tab12 spec_l13Draw.bits12 (fun HT_ HW_ => ?_)
          generalize wr.drew = w27 at HO_141001 HO_141002 BK136 BK140 HI0 HK HB hHeld ⊢
          refine pU 0 (some 33) (bm 11 1) HT_ rfl rfl ?_
          refine pU 1 (some 34) (bm 11 3) HT_ rfl rfl ?_
          refine pU 2 (some 35) (bm 11 7) HT_ rfl rfl ?_
          refine pU 4 (some 37) (bm 11 23) HT_ rfl rfl ?_
          refine pU 5 (some 38) (bm 11 55) HT_ rfl rfl ?_
          refine tU 6 (some 39) (bm 11 119) HT_ HW_ rfl rfl hHeld ?_
          refine join_ (σ := Nat) 1 (bm 11 1023) (fun s_ => [(36, .int .i64 t159), (40, .int .i64 t162), (8, .pointer (some ⟨s_, 0, none⟩)), (41, .agg #[.int .i64 x4_1, .bool t141, .int .i64 t159, .int .i64 t162])]) (fun s_ w' => (w'.cell? ⟨gb140, 0, none⟩ = some (.int .i64 (wrap64 (1 + t137))) ∧ w'.cell? ⟨gb140, 1, none⟩ = some (u141001) ∧ w'.cell? ⟨gb140, 2, none⟩ = some (u141002)) ∧ (Kd.R Kd.bool 4 w' w.heap.size (fun _ => True) u141001 x141001_1) ∧ (Kd.R k46 46 w' w.heap.size (fun k_ => k_ ≠ s_) u141002 x141002_3) ∧ (w'.heap[gb136]? = some (.cells #[.int .i64 0, .slice none 0 0, .slice none 0 0] 27 (0, 0))) ∧ (w'.heap[gb140]? = some (.cells #[.int .i64 (wrap64 (1 + t137)), u141001, u141002] 27 (0, 0))) ∧ (w'.heap[s_]? = some (.cells #[.int .i64 0, .bool false, .int .i64 0, .int .i64 0] 46 (0, 0))) ∧ (w.heap.size ≤ s_) ∧ (w0.heap.size ≤ s_) ∧ (g ≠ s_) ∧ (s_ ≠ g) ∧ (gb136 ≠ s_) ∧ (s_ ≠ gb136) ∧ (gb140 ≠ s_) ∧ (s_ ≠ gb140) ∧ (IsS69 w0 w' g s0_0 t163 t164) ∧ (KeepBut w w' g none) ∧ (Below w0.heap.size w0 w')) ?_ ?_
          rotate_left
          ·intro hCont
           refine two_ (i := 3) (j := 9) (Ni := some 36) (Nj := some 8) (bm 11 127) (bm 11 631) rfl rfl rfl rfl (two_of HT_.out (by kernel_rfl)) (by decide) (by decide) (fun K hK => ?_) (fun K hK => ?_)
           ·skip
            refine goes_ Try.func33 (by kernel_rfl) rfl #[.pointer (some ⟨g, 0, none⟩), .int .i64 3] (by rfl) rfl rfl zG ?_
            with_reducible refine (spec_l1Below.calls g s0_0 x1001_3 x1002_3 3 t159 t160 t161 w0 _ ?side1 ?side2 A22.out).mono ?_
            (case side1 => exact spec_l13Draw.zI69 HI0)
            (case side2 => exact zB HB)
            rintro e w28 ⟨rfl, hi, hb, hk⟩
            refine ⟨_, rfl, ?_⟩
            replace HO_141001 := IsS69.kR HI0 HO_141001 hk
            replace HO_141002 := IsS69.kR HI0 HO_141002 hk
            replace BK136 := kbT hk BK136 NB136_0
            replace BK140 := kbT hk BK140 NB140_0
            replace HK := hkT HK hk
            replace HB := Aside0.mk (hb)
            replace HI0 := Aside0.mk (hi)
            (try clear hb); (try clear hb2); (try clear hk); (try clear hi)
            refine hK.out _ _ ⟨bc0 BK140, bc1 BK140, bc2 BK140⟩ (fun hHeld => ?_)
            clear hK K
            refine nU 36 ?_
            refine two_ (i := 7) (j := 9) (Ni := some 40) (Nj := some 8) (bm 11 255) (bm 11 639) rfl rfl rfl rfl (two_of HT_.out (by kernel_rfl)) (by decide) (by decide) (fun K hK => ?_) (fun K hK => ?_)
            ·skip
             refine goes_ Try.func33 (by kernel_rfl) rfl #[.pointer (some ⟨g, 0, none⟩), .int .i64 (wrap64 (1 + t137))] (by rfl) rfl rfl zG ?_
             with_reducible refine (spec_l1Below.calls g s0_0 t160 t161 (wrap64 (1 + t137)) t162 t163 t164 w0 _ ?side1 ?side2 A23.out).mono ?_
             (case side1 => exact spec_l13Draw.zI69 HI0)
             (case side2 => exact zB HB)
             rintro e w29 ⟨rfl, hi, hb, hk⟩
             refine ⟨_, rfl, ?_⟩
             replace HO_141001 := IsS69.kR HI0 HO_141001 hk
             replace HO_141002 := IsS69.kR HI0 HO_141002 hk
             replace BK136 := kbT hk BK136 NB136_0
             replace BK140 := kbT hk BK140 NB140_0
             replace HK := hkT HK hk
             replace HB := Aside0.mk (hb)
             replace HI0 := Aside0.mk (hi)
             (try clear hb); (try clear hb2); (try clear hk); (try clear hi)
             refine hK.out _ _ ⟨bc0 BK140, bc1 BK140, bc2 BK140⟩ (fun hHeld => ?_)
             clear hK K
             refine nU 40 ?_
             refine pU 8 (some 41) (bm 11 511) HT_ rfl rfl ?_
             refine one_ (i := 9) (N := some 8) (bm 11 1023) rfl rfl (one_of HT_.out (by kernel_rfl)) (by decide) (fun K hK => ?_)
             refine box_step ?hg (N := 8) ?hd (cs := #[.int .i64 0, .bool false, .int .i64 0, .int .i64 0]) (t := 46) ?hr ?_; (case hd => rfl); (case hg => rfl); (case hr => first | (go_simp; done) | (go_simp; rfl))
             intro gb165 hg w30 hbox hb
             replace HO_141001 := Aside0.mk (Kd.R_below (zR HO_141001) hb)
             replace HO_141002 := Aside0.mk (Kd.R_below (Kd.R_elderB (zR HO_141002) gb165 (Nat.le_of_eq hg.symm)) hb)
             replace HB := bS HB hb
             have BK165 := Aside0.mk (hbox)
             have GW165 := gK HK hg
             have GE165 := gL HW0 GW165
             replace HK := hkB HK hb
             have NB136_165 := nL BK136 hg
             have NB165_136 := nR BK136 hg
             replace BK136 := kB BK136 hb
             have NB140_165 := nL BK140 hg
             have NB165_140 := nR BK140 hg
             replace BK140 := kB BK140 hb
             have NB0_165 := IsS69.nL HI0 hg
             have NB165_0 := IsS69.nR HI0 hg
             replace HI0 := Aside0.mk (IsS69.below (spec_l13Draw.zI69 HI0) hb)
             clear hb hbox hg
             refine hK.out _ _ ⟨bc0 BK140, bc1 BK140, bc2 BK140⟩ (fun hHeld => ?_)
             clear hK K
             refine nU 8 ?_
             exact norm_ (by simp only [putAll, Act.put, List.setIfInBounds_toArray, List.set_cons_zero, List.set_cons_succ]) (hCont (gb165) _ ⟨hHeld, (zR HO_141001), (by (with_reducible repeat (first | apply Kd.R_alloc | apply Kd.R_drewN | apply Kd.R_drew)); exact Kd.R_mono HO_141002.out (fun _ hk => hk.2)), (zK BK136), (zK BK140), (zK BK165), GW165.out, GE165.out, NB0_165.out, NB165_0.out, NB136_165.out, NB165_136.out, NB140_165.out, NB165_140.out, (spec_l13Draw.zI69 HI0), (zH HK), (zB HB)⟩)
            ·skip
             refine box_step ?hg (N := 8) ?hd (cs := #[.int .i64 0, .bool false, .int .i64 0, .int .i64 0]) (t := 46) ?hr ?_; (case hd => rfl); (case hg => rfl); (case hr => first | (go_simp; done) | (go_simp; rfl))
             intro gb165 hg w29 hbox hb
             replace HO_141001 := Aside0.mk (Kd.R_below (zR HO_141001) hb)
             replace HO_141002 := Aside0.mk (Kd.R_below (Kd.R_elderB (zR HO_141002) gb165 (Nat.le_of_eq hg.symm)) hb)
             replace HB := bS HB hb
             have BK165 := Aside0.mk (hbox)
             have GW165 := gK HK hg
             have GE165 := gL HW0 GW165
             replace HK := hkB HK hb
             have NB136_165 := nL BK136 hg
             have NB165_136 := nR BK136 hg
             replace BK136 := kB BK136 hb
             have NB140_165 := nL BK140 hg
             have NB165_140 := nR BK140 hg
             replace BK140 := kB BK140 hb
             have NB0_165 := IsS69.nL HI0 hg
             have NB165_0 := IsS69.nR HI0 hg
             replace HI0 := Aside0.mk (IsS69.below (spec_l13Draw.zI69 HI0) hb)
             clear hb hbox hg
             refine hK.out _ _ ⟨bc0 BK140, bc1 BK140, bc2 BK140⟩ (fun hHeld => ?_)
             clear hK K
             refine nU 8 ?_
             refine one_ (i := 7) (N := some 40) (bm 11 767) rfl rfl (one_of HT_.out (by kernel_rfl)) (by decide) (fun K hK => ?_)
             refine goes_ Try.func33 (by kernel_rfl) rfl #[.pointer (some ⟨g, 0, none⟩), .int .i64 (wrap64 (1 + t137))] (by rfl) rfl rfl zG ?_
             with_reducible refine (spec_l1Below.calls g s0_0 t160 t161 (wrap64 (1 + t137)) t162 t163 t164 w0 _ ?side1 ?side2 A23.out).mono ?_
             (case side1 => exact spec_l13Draw.zI69 HI0)
             (case side2 => exact zB HB)
             rintro e w30 ⟨rfl, hi, hb, hk⟩
             refine ⟨_, rfl, ?_⟩
             replace HO_141001 := IsS69.kR HI0 HO_141001 hk
             replace HO_141002 := IsS69.kR HI0 HO_141002 hk
             replace BK136 := kbT hk BK136 NB136_0
             replace BK140 := kbT hk BK140 NB140_0
             replace BK165 := kbT hk BK165 NB165_0
             replace HK := hkT HK hk
             replace HB := Aside0.mk (hb)
             replace HI0 := Aside0.mk (hi)
             (try clear hb); (try clear hb2); (try clear hk); (try clear hi)
             refine hK.out _ _ ⟨bc0 BK140, bc1 BK140, bc2 BK140⟩ (fun hHeld => ?_)
             clear hK K
             refine nU 40 ?_
             refine pU 8 (some 41) (bm 11 1023) HT_ rfl rfl ?_
             exact norm_ (by simp only [putAll, Act.put, List.setIfInBounds_toArray, List.set_cons_zero, List.set_cons_succ]) (hCont (gb165) _ ⟨hHeld, (zR HO_141001), (by (with_reducible repeat (first | apply Kd.R_alloc | apply Kd.R_drewN | apply Kd.R_drew)); exact Kd.R_mono HO_141002.out (fun _ hk => hk.2)), (zK BK136), (zK BK140), (zK BK165), GW165.out, GE165.out, NB0_165.out, NB165_0.out, NB136_165.out, NB165_136.out, NB140_165.out, NB165_140.out, (spec_l13Draw.zI69 HI0), (zH HK), (zB HB)⟩)
           ·skip
            refine box_step ?hg (N := 8) ?hd (cs := #[.int .i64 0, .bool false, .int .i64 0, .int .i64 0]) (t := 46) ?hr ?_; (case hd => rfl); (case hg => rfl); (case hr => first | (go_simp; done) | (go_simp; rfl))
            intro gb165 hg w28 hbox hb
            replace HO_141001 := Aside0.mk (Kd.R_below (zR HO_141001) hb)
            replace HO_141002 := Aside0.mk (Kd.R_below (Kd.R_elderB (zR HO_141002) gb165 (Nat.le_of_eq hg.symm)) hb)
            replace HB := bS HB hb
            have BK165 := Aside0.mk (hbox)
            have GW165 := gK HK hg
            have GE165 := gL HW0 GW165
            replace HK := hkB HK hb
            have NB136_165 := nL BK136 hg
            have NB165_136 := nR BK136 hg
            replace BK136 := kB BK136 hb
            have NB140_165 := nL BK140 hg
            have NB165_140 := nR BK140 hg
            replace BK140 := kB BK140 hb
            have NB0_165 := IsS69.nL HI0 hg
            have NB165_0 := IsS69.nR HI0 hg
            replace HI0 := Aside0.mk (IsS69.below (spec_l13Draw.zI69 HI0) hb)
            clear hb hbox hg
            refine hK.out _ _ ⟨bc0 BK140, bc1 BK140, bc2 BK140⟩ (fun hHeld => ?_)
            clear hK K
            refine nU 8 ?_
            refine one_ (i := 3) (N := some 36) (bm 11 639) rfl rfl (one_of HT_.out (by kernel_rfl)) (by decide) (fun K hK => ?_)
            refine goes_ Try.func33 (by kernel_rfl) rfl #[.pointer (some ⟨g, 0, none⟩), .int .i64 3] (by rfl) rfl rfl zG ?_
            with_reducible refine (spec_l1Below.calls g s0_0 x1001_3 x1002_3 3 t159 t160 t161 w0 _ ?side1 ?side2 A22.out).mono ?_
            (case side1 => exact spec_l13Draw.zI69 HI0)
            (case side2 => exact zB HB)
            rintro e w29 ⟨rfl, hi, hb, hk⟩
            refine ⟨_, rfl, ?_⟩
            replace HO_141001 := IsS69.kR HI0 HO_141001 hk
            replace HO_141002 := IsS69.kR HI0 HO_141002 hk
            replace BK136 := kbT hk BK136 NB136_0
            replace BK140 := kbT hk BK140 NB140_0
            replace BK165 := kbT hk BK165 NB165_0
            replace HK := hkT HK hk
            replace HB := Aside0.mk (hb)
            replace HI0 := Aside0.mk (hi)
            (try clear hb); (try clear hb2); (try clear hk); (try clear hi)
            refine hK.out _ _ ⟨bc0 BK140, bc1 BK140, bc2 BK140⟩ (fun hHeld => ?_)
            clear hK K
            refine nU 36 ?_
            refine one_ (i := 7) (N := some 40) (bm 11 767) rfl rfl (one_of HT_.out (by kernel_rfl)) (by decide) (fun K hK => ?_)
            refine goes_ Try.func33 (by kernel_rfl) rfl #[.pointer (some ⟨g, 0, none⟩), .int .i64 (wrap64 (1 + t137))] (by rfl) rfl rfl zG ?_
            with_reducible refine (spec_l1Below.calls g s0_0 t160 t161 (wrap64 (1 + t137)) t162 t163 t164 w0 _ ?side1 ?side2 A23.out).mono ?_
            (case side1 => exact spec_l13Draw.zI69 HI0)
            (case side2 => exact zB HB)
            rintro e w30 ⟨rfl, hi, hb, hk⟩
            refine ⟨_, rfl, ?_⟩
            replace HO_141001 := IsS69.kR HI0 HO_141001 hk
            replace HO_141002 := IsS69.kR HI0 HO_141002 hk
            replace BK136 := kbT hk BK136 NB136_0
            replace BK140 := kbT hk BK140 NB140_0
            replace BK165 := kbT hk BK165 NB165_0
            replace HK := hkT HK hk
            replace HB := Aside0.mk (hb)
            replace HI0 := Aside0.mk (hi)
            (try clear hb); (try clear hb2); (try clear hk); (try clear hi)
            refine hK.out _ _ ⟨bc0 BK140, bc1 BK140, bc2 BK140⟩ (fun hHeld => ?_)
            clear hK K
            refine nU 40 ?_
            refine pU 8 (some 41) (bm 11 1023) HT_ rfl rfl ?_
            exact norm_ (by simp only [putAll, Act.put, List.setIfInBounds_toArray, List.set_cons_zero, List.set_cons_succ]) (hCont (gb165) _ ⟨hHeld, (zR HO_141001), (by (with_reducible repeat (first | apply Kd.R_alloc | apply Kd.R_drewN | apply Kd.R_drew)); exact Kd.R_mono HO_141002.out (fun _ hk => hk.2)), (zK BK136), (zK BK140), (zK BK165), GW165.out, GE165.out, NB0_165.out, NB165_0.out, NB136_165.out, NB165_136.out, NB140_165.out, NB165_140.out, (spec_l13Draw.zI69 HI0), (zH HK), (zB HB)⟩)
          rintro gb165 w31 ⟨hS_, h0_, h1_, h2_, h3_, h4_, h5_, h6_, h7_, h8_, h9_, h10_, h11_, h12_, h13_, h14_, h15_⟩
          replace HO_141001 : Aside0 (Kd.R Kd.bool 4 w31 w.heap.size (fun _ => True) u141001 x141001_1) := ⟨h0_⟩
          replace HO_141002 : Aside0 (Kd.R k46 46 w31 w.heap.size (fun k_ => k_ ≠ gb165) u141002 x141002_3) := ⟨h1_⟩
          replace BK136 : Aside0 (w31.heap[gb136]? = some (.cells #[.int .i64 0, .slice none 0 0, .slice none 0 0] 27 (0, 0))) := ⟨h2_⟩
          replace BK140 : Aside0 (w31.heap[gb140]? = some (.cells #[.int .i64 (wrap64 (1 + t137)), u141001, u141002] 27 (0, 0))) := ⟨h3_⟩
          have BK165 : Aside0 (w31.heap[gb165]? = some (.cells #[.int .i64 0, .bool false, .int .i64 0, .int .i64 0] 46 (0, 0))) := ⟨h4_⟩
          have GW165 : Aside0 (w.heap.size ≤ gb165) := ⟨h5_⟩
          have GE165 : Aside0 (w0.heap.size ≤ gb165) := ⟨h6_⟩
          have NB0_165 : Aside0 (g ≠ gb165) := ⟨h7_⟩
          have NB165_0 : Aside0 (gb165 ≠ g) := ⟨h8_⟩
          have NB136_165 : Aside0 (gb136 ≠ gb165) := ⟨h9_⟩
          have NB165_136 : Aside0 (gb165 ≠ gb136) := ⟨h10_⟩
          have NB140_165 : Aside0 (gb140 ≠ gb165) := ⟨h11_⟩
          have NB165_140 : Aside0 (gb165 ≠ gb140) := ⟨h12_⟩
          replace HI0 : Aside0 (IsS69 w0 w31 g s0_0 t163 t164) := ⟨h13_⟩
          replace HK : Aside0 (KeepBut w w31 g none) := ⟨h14_⟩
          replace HB : Aside0 (Below w0.heap.size w0 w31) := ⟨h15_⟩
          clear h0_ h1_ h2_ h3_ h4_ h5_ h6_ h7_ h8_ h9_ h10_ h11_ h12_ h13_ h14_ h15_
          have hHeld : w31.cell? ⟨gb140, 0, none⟩ = some (.int .i64 (wrap64 (1 + t137))) ∧ w31.cell? ⟨gb140, 1, none⟩ = some (u141001) ∧ w31.cell? ⟨gb140, 2, none⟩ = some (u141002) := hS_
          refine norm_ (a' := ?_) ?_ ?_
          rotate_left
          ·simp only [putAll, Act.put, List.setIfInBounds_toArray, List.set_cons_zero, List.set_cons_succ]
           rfl
          refine one_ (i := 10) (N := none) (bm 11 2047) rfl rfl (one_of HT_.out (by kernel_rfl)) (by decide) (fun K hK => ?_)
          have hs32 : w31.cell? ⟨gb165, 0, none⟩ = some (.int .i64 0) := bc0 BK165
          have hfs32 := bf BK165 0
          have hns32_0 := NB136_165.out
          have hns32_1 := NB140_165.out
          have hms32_0 := NB165_136.out
          have hms32_1 := NB165_140.out
          have hs33 : w31.cell? ⟨gb165, 1, none⟩ = some (.bool false) := bc1 BK165
          have hfs33 := bf BK165 1
          have hns33_0 := NB136_165.out
          have hns33_1 := NB140_165.out
          have hms33_0 := NB165_136.out
          have hms33_1 := NB165_140.out
          have hs34 : w31.cell? ⟨gb165, 2, none⟩ = some (.int .i64 0) := bc2 BK165
          have hfs34 := bf BK165 2
          have hns34_0 := NB136_165.out
          have hns34_1 := NB140_165.out
          have hms34_0 := NB165_136.out
          have hms34_1 := NB165_140.out
          have hs35 : w31.cell? ⟨gb165, 3, none⟩ = some (.int .i64 0) := bc3 BK165
          have hfs35 := bf BK165 3
          have hns35_0 := NB136_165.out
          have hns35_1 := NB140_165.out
          have hms35_0 := NB165_136.out
          have hms35_1 := NB165_140.out
          refine skip_ (w1 := ?_) (by rfl) rfl ?_ ?_
          rotate_left
          ·go_simp
           rfl
          refine hK.out _ _ ⟨((cell_far (p := ⟨gb165, _, none⟩) NB140_165.out _).trans (((cell_far (p := ⟨gb165, _, none⟩) NB140_165.out _).trans (((cell_far (p := ⟨gb165, _, none⟩) NB140_165.out _).trans (((cell_far (p := ⟨gb165, _, none⟩) NB140_165.out _).trans (hHeld.1)))))))), ((cell_far (p := ⟨gb165, _, none⟩) NB140_165.out _).trans (((cell_far (p := ⟨gb165, _, none⟩) NB140_165.out _).trans (((cell_far (p := ⟨gb165, _, none⟩) NB140_165.out _).trans (((cell_far (p := ⟨gb165, _, none⟩) NB140_165.out _).trans (hHeld.2.1)))))))), ((cell_far (p := ⟨gb165, _, none⟩) NB140_165.out _).trans (((cell_far (p := ⟨gb165, _, none⟩) NB140_165.out _).trans (((cell_far (p := ⟨gb165, _, none⟩) NB140_165.out _).trans (((cell_far (p := ⟨gb165, _, none⟩) NB140_165.out _).trans (hHeld.2.2))))))))⟩ (fun hHeld => ?_)
          clear hK K
          refine done_ (done_of HT_.out (by kernel_rfl)) ?_
          try clear hHeld
          have hnb36 := NB140_136.out
          have hnc36 := NB136_140.out
          have hnb37 := NB140_165.out
          have hnc37 := NB165_140.out
          have hnb38 := NB140_0.out
          have hnc38 := NB0_140.out
          obtain ⟨hcz39_0, hcz39_1, hcz39_2, hfz39_0, hfz39_1, hfz39_2⟩ := bq3 BK140
          have hnb40 := NB165_136.out
          have hnc40 := NB136_165.out
          have hnb41 := NB165_0.out
          have hnc41 := NB0_165.out
          obtain ⟨hcz42_0, hcz42_1, hcz42_2, hcz42_3, hfz42_0, hfz42_1, hfz42_2, hfz42_3⟩ := bq4 BK165
          obtain ⟨Ao43, co43, eo43⟩ := Kd.R_slice HO_141001.out
          subst eo43
          obtain ⟨Ao44, co44, eo44⟩ := Kd.R_slice HO_141002.out
          subst eo44
          try go_wp2_with (first | ((with_reducible refine gate_callee (f := 24) rfl ?_); refine goesL_ (some 47) rfl rfl Try.func24 (by kernel_rfl) rfl #[.agg #[.int .i64 (wrap64 (1 + t137)), .slice Ao43 x141001_1.length co43, .slice Ao44 x141002_3.length co44], .int .i64 x4_1, .bool t141, .int .i64 t159] rfl zG ?_; (with_reducible refine (spec_MoveOf.calls k3 (wrap64 (1 + t137)) _ _ x141001_1 _ _ x141002_3 x4_1 t141 t159 t166 _ ?side1 ?side2 ?side3 ?side4 A24.out).mono ?_); (case side1 => refine (Kd.R_reads' (e := 4) (base := w.heap.size) (ok := fun k_ => True) (n := x141001_1.length) (c := co43) ?_).2.2; exact ((Kd.R_mono (rB HO_141001 BK165) (fun _ h_ => h_.1)))); (case side2 => exact (Kd.R_reads' HO_141001.out).2.1); (case side3 => refine (Kd.R_reads' (e := 46) (base := w.heap.size) (ok := fun k_ => k_ ≠ gb165) (n := x141002_3.length) (c := co44) ?_).2.2; exact (by (with_reducible repeat (first | apply Kd.R_alloc | apply Kd.R_drewN | apply Kd.R_drew)); exact (Kd.R_mono (Kd.R_far (p := ⟨gb165, 3, none⟩) (Kd.R_far (p := ⟨gb165, 2, none⟩) (Kd.R_far (p := ⟨gb165, 1, none⟩) (Kd.R_far (p := ⟨gb165, 0, none⟩) (Kd.R_mono HO_141002.out (fun k_ hk => (⟨hk, hk⟩ : _ ∧ k_ ≠ gb165))) (fun _ hk => hk.2) (.int .i64 x4_1)) (fun _ hk => hk.2) (.bool t141)) (fun _ hk => hk.2) (.int .i64 t159)) (fun _ hk => hk.2) (.int .i64 t162)) (fun _ h_ => h_.1)))); (case side4 => exact (Kd.R_reads' HO_141002.out).2.1); rintro e w45 ⟨rfl, hb⟩; refine ⟨_, rfl, ?_⟩; replace HO_141001 := Aside0.mk (Kd.R_below ((Kd.R_mono (rB HO_141001 BK165) (fun _ h_ => h_.1))) hb); replace HO_141002 := Aside0.mk (Kd.R_below (by (with_reducible repeat (first | apply Kd.R_alloc | apply Kd.R_drewN | apply Kd.R_drew)); exact (Kd.R_mono (Kd.R_far (p := ⟨gb165, 3, none⟩) (Kd.R_far (p := ⟨gb165, 2, none⟩) (Kd.R_far (p := ⟨gb165, 1, none⟩) (Kd.R_far (p := ⟨gb165, 0, none⟩) (Kd.R_mono HO_141002.out (fun k_ hk => (⟨hk, hk⟩ : _ ∧ k_ ≠ gb165))) (fun _ hk => hk.2) (.int .i64 x4_1)) (fun _ hk => hk.2) (.bool t141)) (fun _ hk => hk.2) (.int .i64 t159)) (fun _ hk => hk.2) (.int .i64 t162)) (fun _ h_ => h_.1))) hb); replace BK136 := Aside0.mk (blk_below (kF BK136) hb); replace BK140 := Aside0.mk (blk_below (kF BK140) hb); replace BK165 := Aside0.mk (blk_below (g := gb165) (o := .cells #[.int .i64 x4_1, .bool t141, .int .i64 t159, .int .i64 t162] 46 (0, 0)) (by (with_reducible repeat (first | refine blk_drewN ?_ _ | refine blk_drew ?_ | refine blk_alloc ?_ _)); refine blk_put (cs := #[.int .i64 x4_1, .bool t141, .int .i64 t159, .int .i64 0]) ?_ 3 _ rfl; (with_reducible repeat (first | refine blk_drewN ?_ _ | refine blk_drew ?_ | refine blk_alloc ?_ _)); refine blk_put (cs := #[.int .i64 x4_1, .bool t141, .int .i64 0, .int .i64 0]) ?_ 2 _ rfl; (with_reducible repeat (first | refine blk_drewN ?_ _ | refine blk_drew ?_ | refine blk_alloc ?_ _)); refine blk_put (cs := #[.int .i64 x4_1, .bool false, .int .i64 0, .int .i64 0]) ?_ 1 _ rfl; (with_reducible repeat (first | refine blk_drewN ?_ _ | refine blk_drew ?_ | refine blk_alloc ?_ _)); refine blk_put (cs := #[.int .i64 0, .bool false, .int .i64 0, .int .i64 0]) ?_ 0 _ rfl; (with_reducible repeat (first | refine blk_drewN ?_ _ | refine blk_drew ?_ | refine blk_alloc ?_ _)); exact BK165.out) hb); replace HK := hkB HK hb; replace HB := bS HB hb; replace HI0 := Aside0.mk (IsS69.below (show IsS69 w0 ((((w31.setCell ⟨gb165, 0, none⟩ (.int .i64 x4_1)).setCell ⟨gb165, 1, none⟩ (.bool t141)).setCell ⟨gb165, 2, none⟩ (.int .i64 t159)).setCell ⟨gb165, 3, none⟩ (.int .i64 t162)) g s0_0 t163 t164 from spec_l13Draw.zI69 HI0) hb); (try clear hb); obtain ⟨hcz46_0, hcz46_1, hcz46_2, hfz46_0, hfz46_1, hfz46_2⟩ := bq3 BK140; obtain ⟨hcz47_0, hcz47_1, hcz47_2, hcz47_3, hfz47_0, hfz47_1, hfz47_2, hfz47_3⟩ := bq4 BK165) | ((with_reducible refine gate_builtin (b := .append) (xs := #[.tmp 50, .tmp 52]) rfl ?_); at_builtin; refine Kd.R_append k46 w.heap.size rfl (.tmp 50) (.tmp 52) 25 46 (.agg #[(.int .i64 0), (.bool false), (.int .i64 0), (.int .i64 0)]) 32 rfl Try.underlying25 info46 rfl (by decide) (by omega) (.slice Ao44 x141002_3.length co44) x141002_3 (⟨x4_1, t141, t159, t162⟩ : S46) [.int .i64 x4_1, .bool t141, .int .i64 t159, .int .i64 t162] (fun k_ => k_ ≠ gb165) (fun _ => False) rfl rfl ?aP (fun _ hk => hk.elim) ?aF ?aO (Below.refl _ _) ?aS ?aL ?_; (case aP => exact k46_mkM _ _ _ (⟨x4_1, t141, t159, t162⟩ : S46)); (case aF => exact (fun k_ hk => Kd.freshB (g := gb165) (o := .cells #[.int .i64 x4_1, .bool t141, .int .i64 t159, .int .i64 t162] 46 (0, 0)) (zK BK165) k_ hk)); (case aO => exact (zR HO_141002)); (case aS => exact (keep_size (w := w) (g := g) (row := none) (zH HK))); (case aL => have := LMc26.out; omega); intro v168 w48 ho hb hg hat; rw [← Ny167.out] at ho; replace HO_141001 := Aside0.mk (Kd.R_over' (zR HO_141001) (Kd.R_typed (zR HO_141002)) (by decide) hg); replace BK136 := Aside0.mk (blk_grown (g := gb136) (o := .cells #[.int .i64 0, .slice none 0 0, .slice none 0 0] 27 (0, 0)) (zK BK136) hg (Kd.R_ne HO_141002.out BK136.out (by decide))); replace BK140 := Aside0.mk (blk_grown (g := gb140) (o := .cells #[.int .i64 (wrap64 (1 + t137)), .slice Ao43 x141001_1.length co43, .slice Ao44 x141002_3.length co44] 27 (0, 0)) (zK BK140) hg (Kd.R_ne HO_141002.out BK140.out (by decide))); replace BK165 := Aside0.mk (blk_grown (g := gb165) (o := .cells #[.int .i64 x4_1, .bool t141, .int .i64 t159, .int .i64 t162] 46 (0, 0)) (zK BK165) hg (Kd.R_away HO_141002.out (fun _ hk => hk))); replace HB := Aside0.mk (below_weaken (zB HB) HL.out hb); replace HI0 := Aside0.mk (IsS69.grown (spec_l13Draw.zI69 HI0) hg (IsS69.own_ne HI0.out HO_141002.out (by decide))); replace HK := Aside0.mk (KeepBut.trans (zH HK) (KeepBut.of_grown hg g) (Kd.R_base2 HO_141002.out)); have HO169 := Aside0.mk (ho); clear HO_141002; clear ho hb hg hat; obtain ⟨Ao49, co49, eo49⟩ := Kd.R_slice HO169.out; subst eo49; obtain ⟨hcz50_0, hcz50_1, hcz50_2, hfz50_0, hfz50_1, hfz50_2⟩ := bq3 BK140))
          go_roundg k3
          case measure => have := HK1.out; have := HJ11.out; have := HK3.out; omega
          case rel => exact ⟨(wrap64 (x7_3 + 1)), (t163), (t164), (y167), (.slice Ao49 y167.length co49), zF, H', ⟨by have := HK1.out; have := HJ11.out; have := HK3.out; omega⟩, ⟨Kd.R_mono (rB HO_141001 BK140) (fun _ hk => trivial)⟩, ⟨Kd.R_mono (rB HO169 BK140) (fun _ hk => trivial)⟩, ⟨kF BK136⟩, ⟨by (with_reducible repeat (first | refine blk_drewN ?_ _ | refine blk_drew ?_ | refine blk_alloc ?_ _)); refine blk_put (cs := #[.int .i64 (wrap64 (1 + t137)), .slice Ao43 x141001_1.length co43, .slice Ao44 x141002_3.length co44]) ?_ 2 _ rfl; (with_reducible repeat (first | refine blk_drewN ?_ _ | refine blk_drew ?_ | refine blk_alloc ?_ _)); exact BK140.out⟩, ⟨spec_l13Draw.zI69 HI0⟩, ⟨zH HK⟩, ⟨zB HB⟩⟩
         ·rw [if_neg c25] at H
          have c25b0 : decide (t166 < 0) = false := decide_eq_false c25
          clear c25
          have H' := Aside0.mk H
          clear H
          try go_wp2
          replace HO_141001 := Aside0.mk (Kd.R_drew HO_141001.out)
          replace HO_141002 := Aside0.mk (Kd.R_drew HO_141002.out)
          replace BK136 := Aside0.mk (blk_drew BK136.out)
          replace BK140 := Aside0.mk (blk_drew BK140.out)
          replace HI0 := Aside0.mk (IsS69.drew HI0.out)
          replace HK := Aside0.mk (keep_drew HK.out)
          replace HB := Aside0.mk (below_drew1 HB.out)
          refine start_ (n := 11) (S := fun w' => w'.cell? ⟨gb140, 0, none⟩ = some (.int .i64 (wrap64 (1 + t137))) ∧ w'.cell? ⟨gb140, 1, none⟩ = some (u141001) ∧ w'.cell? ⟨gb140, 2, none⟩ = some (u141002)) (ds := []) (bm 11 0) (by kernel_rfl) rfl (bm0 _) ⟨bc0 BK140, bc1 BK140, bc2 BK140⟩ (fun hHeld => ?_); refine with_tabW spec_l13Draw.tab12 spec_l13Draw.bits12 (fun HT_ HW_ => ?_)
          generalize wr.drew = w51 at HO_141001 HO_141002 BK136 BK140 HI0 HK HB hHeld ⊢
          refine pU 0 (some 33) (bm 11 1) HT_ rfl rfl ?_
          refine pU 1 (some 34) (bm 11 3) HT_ rfl rfl ?_
          refine pU 2 (some 35) (bm 11 7) HT_ rfl rfl ?_
          refine pU 4 (some 37) (bm 11 23) HT_ rfl rfl ?_
          refine pU 5 (some 38) (bm 11 55) HT_ rfl rfl ?_
          refine tU 6 (some 39) (bm 11 119) HT_ HW_ rfl rfl hHeld ?_
          refine join_ (σ := Nat) 1 (bm 11 1023) (fun s_ => [(36, .int .i64 t159), (40, .int .i64 t162), (8, .pointer (some ⟨s_, 0, none⟩)), (41, .agg #[.int .i64 x4_1, .bool t141, .int .i64 t159, .int .i64 t162])]) (fun s_ w' => (w'.cell? ⟨gb140, 0, none⟩ = some (.int .i64 (wrap64 (1 + t137))) ∧ w'.cell? ⟨gb140, 1, none⟩ = some (u141001) ∧ w'.cell? ⟨gb140, 2, none⟩ = some (u141002)) ∧ (Kd.R Kd.bool 4 w' w.heap.size (fun _ => True) u141001 x141001_1) ∧ (Kd.R k46 46 w' w.heap.size (fun k_ => k_ ≠ s_) u141002 x141002_3) ∧ (w'.heap[gb136]? = some (.cells #[.int .i64 0, .slice none 0 0, .slice none 0 0] 27 (0, 0))) ∧ (w'.heap[gb140]? = some (.cells #[.int .i64 (wrap64 (1 + t137)), u141001, u141002] 27 (0, 0))) ∧ (w'.heap[s_]? = some (.cells #[.int .i64 0, .bool false, .int .i64 0, .int .i64 0] 46 (0, 0))) ∧ (w.heap.size ≤ s_) ∧ (w0.heap.size ≤ s_) ∧ (g ≠ s_) ∧ (s_ ≠ g) ∧ (gb136 ≠ s_) ∧ (s_ ≠ gb136) ∧ (gb140 ≠ s_) ∧ (s_ ≠ gb140) ∧ (IsS69 w0 w' g s0_0 t163 t164) ∧ (KeepBut w w' g none) ∧ (Below w0.heap.size w0 w')) ?_ ?_
          rotate_left
          ·intro hCont
           refine two_ (i := 3) (j := 9) (Ni := some 36) (Nj := some 8) (bm 11 127) (bm 11 631) rfl rfl rfl rfl (two_of HT_.out (by kernel_rfl)) (by decide) (by decide) (fun K hK => ?_) (fun K hK => ?_)
           ·skip
            refine goes_ Try.func33 (by kernel_rfl) rfl #[.pointer (some ⟨g, 0, none⟩), .int .i64 3] (by rfl) rfl rfl zG ?_
            with_reducible refine (spec_l1Below.calls g s0_0 x1001_3 x1002_3 3 t159 t160 t161 w0 _ ?side1 ?side2 A22.out).mono ?_
            (case side1 => exact spec_l13Draw.zI69 HI0)
            (case side2 => exact zB HB)
            rintro e w52 ⟨rfl, hi, hb, hk⟩
            refine ⟨_, rfl, ?_⟩
            replace HO_141001 := IsS69.kR HI0 HO_141001 hk
            replace HO_141002 := IsS69.kR HI0 HO_141002 hk
            replace BK136 := kbT hk BK136 NB136_0
            replace BK140 := kbT hk BK140 NB140_0
            replace HK := hkT HK hk
            replace HB := Aside0.mk (hb)
            replace HI0 := Aside0.mk (hi)
            (try clear hb); (try clear hb2); (try clear hk); (try clear hi)
            refine hK.out _ _ ⟨bc0 BK140, bc1 BK140, bc2 BK140⟩ (fun hHeld => ?_)
            clear hK K
            refine nU 36 ?_
            refine two_ (i := 7) (j := 9) (Ni := some 40) (Nj := some 8) (bm 11 255) (bm 11 639) rfl rfl rfl rfl (two_of HT_.out (by kernel_rfl)) (by decide) (by decide) (fun K hK => ?_) (fun K hK => ?_)
            ·skip
             refine goes_ Try.func33 (by kernel_rfl) rfl #[.pointer (some ⟨g, 0, none⟩), .int .i64 (wrap64 (1 + t137))] (by rfl) rfl rfl zG ?_
             with_reducible refine (spec_l1Below.calls g s0_0 t160 t161 (wrap64 (1 + t137)) t162 t163 t164 w0 _ ?side1 ?side2 A23.out).mono ?_
             (case side1 => exact spec_l13Draw.zI69 HI0)
             (case side2 => exact zB HB)
             rintro e w53 ⟨rfl, hi, hb, hk⟩
             refine ⟨_, rfl, ?_⟩
             replace HO_141001 := IsS69.kR HI0 HO_141001 hk
             replace HO_141002 := IsS69.kR HI0 HO_141002 hk
             replace BK136 := kbT hk BK136 NB136_0
             replace BK140 := kbT hk BK140 NB140_0
             replace HK := hkT HK hk
             replace HB := Aside0.mk (hb)
             replace HI0 := Aside0.mk (hi)
             (try clear hb); (try clear hb2); (try clear hk); (try clear hi)
             refine hK.out _ _ ⟨bc0 BK140, bc1 BK140, bc2 BK140⟩ (fun hHeld => ?_)
             clear hK K
             refine nU 40 ?_
             refine pU 8 (some 41) (bm 11 511) HT_ rfl rfl ?_
             refine one_ (i := 9) (N := some 8) (bm 11 1023) rfl rfl (one_of HT_.out (by kernel_rfl)) (by decide) (fun K hK => ?_)
             refine box_step ?hg (N := 8) ?hd (cs := #[.int .i64 0, .bool false, .int .i64 0, .int .i64 0]) (t := 46) ?hr ?_; (case hd => rfl); (case hg => rfl); (case hr => first | (go_simp; done) | (go_simp; rfl))
             intro gb165 hg w54 hbox hb
             replace HO_141001 := Aside0.mk (Kd.R_below (zR HO_141001) hb)
             replace HO_141002 := Aside0.mk (Kd.R_below (Kd.R_elderB (zR HO_141002) gb165 (Nat.le_of_eq hg.symm)) hb)
             replace HB := bS HB hb
             have BK165 := Aside0.mk (hbox)
             have GW165 := gK HK hg
             have GE165 := gL HW0 GW165
             replace HK := hkB HK hb
             have NB136_165 := nL BK136 hg
             have NB165_136 := nR BK136 hg
             replace BK136 := kB BK136 hb
             have NB140_165 := nL BK140 hg
             have NB165_140 := nR BK140 hg
             replace BK140 := kB BK140 hb
             have NB0_165 := IsS69.nL HI0 hg
             have NB165_0 := IsS69.nR HI0 hg
             replace HI0 := Aside0.mk (IsS69.below (spec_l13Draw.zI69 HI0) hb)
             clear hb hbox hg
             refine hK.out _ _ ⟨bc0 BK140, bc1 BK140, bc2 BK140⟩ (fun hHeld => ?_)
             clear hK K
             refine nU 8 ?_
             exact norm_ (by simp only [putAll, Act.put, List.setIfInBounds_toArray, List.set_cons_zero, List.set_cons_succ]) (hCont (gb165) _ ⟨hHeld, (zR HO_141001), (by (with_reducible repeat (first | apply Kd.R_alloc | apply Kd.R_drewN | apply Kd.R_drew)); exact Kd.R_mono HO_141002.out (fun _ hk => hk.2)), (zK BK136), (zK BK140), (zK BK165), GW165.out, GE165.out, NB0_165.out, NB165_0.out, NB136_165.out, NB165_136.out, NB140_165.out, NB165_140.out, (spec_l13Draw.zI69 HI0), (zH HK), (zB HB)⟩)
            ·skip
             refine box_step ?hg (N := 8) ?hd (cs := #[.int .i64 0, .bool false, .int .i64 0, .int .i64 0]) (t := 46) ?hr ?_; (case hd => rfl); (case hg => rfl); (case hr => first | (go_simp; done) | (go_simp; rfl))
             intro gb165 hg w53 hbox hb
             replace HO_141001 := Aside0.mk (Kd.R_below (zR HO_141001) hb)
             replace HO_141002 := Aside0.mk (Kd.R_below (Kd.R_elderB (zR HO_141002) gb165 (Nat.le_of_eq hg.symm)) hb)
             replace HB := bS HB hb
             have BK165 := Aside0.mk (hbox)
             have GW165 := gK HK hg
             have GE165 := gL HW0 GW165
             replace HK := hkB HK hb
             have NB136_165 := nL BK136 hg
             have NB165_136 := nR BK136 hg
             replace BK136 := kB BK136 hb
             have NB140_165 := nL BK140 hg
             have NB165_140 := nR BK140 hg
             replace BK140 := kB BK140 hb
             have NB0_165 := IsS69.nL HI0 hg
             have NB165_0 := IsS69.nR HI0 hg
             replace HI0 := Aside0.mk (IsS69.below (spec_l13Draw.zI69 HI0) hb)
             clear hb hbox hg
             refine hK.out _ _ ⟨bc0 BK140, bc1 BK140, bc2 BK140⟩ (fun hHeld => ?_)
             clear hK K
             refine nU 8 ?_
             refine one_ (i := 7) (N := some 40) (bm 11 767) rfl rfl (one_of HT_.out (by kernel_rfl)) (by decide) (fun K hK => ?_)
             refine goes_ Try.func33 (by kernel_rfl) rfl #[.pointer (some ⟨g, 0, none⟩), .int .i64 (wrap64 (1 + t137))] (by rfl) rfl rfl zG ?_
             with_reducible refine (spec_l1Below.calls g s0_0 t160 t161 (wrap64 (1 + t137)) t162 t163 t164 w0 _ ?side1 ?side2 A23.out).mono ?_
             (case side1 => exact spec_l13Draw.zI69 HI0)
             (case side2 => exact zB HB)
             rintro e w54 ⟨rfl, hi, hb, hk⟩
             refine ⟨_, rfl, ?_⟩
             replace HO_141001 := IsS69.kR HI0 HO_141001 hk
             replace HO_141002 := IsS69.kR HI0 HO_141002 hk
             replace BK136 := kbT hk BK136 NB136_0
             replace BK140 := kbT hk BK140 NB140_0
             replace BK165 := kbT hk BK165 NB165_0
             replace HK := hkT HK hk
             replace HB := Aside0.mk (hb)
             replace HI0 := Aside0.mk (hi)
             (try clear hb); (try clear hb2); (try clear hk); (try clear hi)
             refine hK.out _ _ ⟨bc0 BK140, bc1 BK140, bc2 BK140⟩ (fun hHeld => ?_)
             clear hK K
             refine nU 40 ?_
             refine pU 8 (some 41) (bm 11 1023) HT_ rfl rfl ?_
             exact norm_ (by simp only [putAll, Act.put, List.setIfInBounds_toArray, List.set_cons_zero, List.set_cons_succ]) (hCont (gb165) _ ⟨hHeld, (zR HO_141001), (by (with_reducible repeat (first | apply Kd.R_alloc | apply Kd.R_drewN | apply Kd.R_drew)); exact Kd.R_mono HO_141002.out (fun _ hk => hk.2)), (zK BK136), (zK BK140), (zK BK165), GW165.out, GE165.out, NB0_165.out, NB165_0.out, NB136_165.out, NB165_136.out, NB140_165.out, NB165_140.out, (spec_l13Draw.zI69 HI0), (zH HK), (zB HB)⟩)
           ·skip
            refine box_step ?hg (N := 8) ?hd (cs := #[.int .i64 0, .bool false, .int .i64 0, .int .i64 0]) (t := 46) ?hr ?_; (case hd => rfl); (case hg => rfl); (case hr => first | (go_simp; done) | (go_simp; rfl))
            intro gb165 hg w52 hbox hb
            replace HO_141001 := Aside0.mk (Kd.R_below (zR HO_141001) hb)
            replace HO_141002 := Aside0.mk (Kd.R_below (Kd.R_elderB (zR HO_141002) gb165 (Nat.le_of_eq hg.symm)) hb)
            replace HB := bS HB hb
            have BK165 := Aside0.mk (hbox)
            have GW165 := gK HK hg
            have GE165 := gL HW0 GW165
            replace HK := hkB HK hb
            have NB136_165 := nL BK136 hg
            have NB165_136 := nR BK136 hg
            replace BK136 := kB BK136 hb
            have NB140_165 := nL BK140 hg
            have NB165_140 := nR BK140 hg
            replace BK140 := kB BK140 hb
            have NB0_165 := IsS69.nL HI0 hg
            have NB165_0 := IsS69.nR HI0 hg
            replace HI0 := Aside0.mk (IsS69.below (spec_l13Draw.zI69 HI0) hb)
            clear hb hbox hg
            refine hK.out _ _ ⟨bc0 BK140, bc1 BK140, bc2 BK140⟩ (fun hHeld => ?_)
            clear hK K
            refine nU 8 ?_
            refine one_ (i := 3) (N := some 36) (bm 11 639) rfl rfl (one_of HT_.out (by kernel_rfl)) (by decide) (fun K hK => ?_)
            refine goes_ Try.func33 (by kernel_rfl) rfl #[.pointer (some ⟨g, 0, none⟩), .int .i64 3] (by rfl) rfl rfl zG ?_
            with_reducible refine (spec_l1Below.calls g s0_0 x1001_3 x1002_3 3 t159 t160 t161 w0 _ ?side1 ?side2 A22.out).mono ?_
            (case side1 => exact spec_l13Draw.zI69 HI0)
            (case side2 => exact zB HB)
            rintro e w53 ⟨rfl, hi, hb, hk⟩
            refine ⟨_, rfl, ?_⟩
            replace HO_141001 := IsS69.kR HI0 HO_141001 hk
            replace HO_141002 := IsS69.kR HI0 HO_141002 hk
            replace BK136 := kbT hk BK136 NB136_0
            replace BK140 := kbT hk BK140 NB140_0
            replace BK165 := kbT hk BK165 NB165_0
            replace HK := hkT HK hk
            replace HB := Aside0.mk (hb)
            replace HI0 := Aside0.mk (hi)
            (try clear hb); (try clear hb2); (try clear hk); (try clear hi)
            refine hK.out _ _ ⟨bc0 BK140, bc1 BK140, bc2 BK140⟩ (fun hHeld => ?_)
            clear hK K
            refine nU 36 ?_
            refine one_ (i := 7) (N := some 40) (bm 11 767) rfl rfl (one_of HT_.out (by kernel_rfl)) (by decide) (fun K hK => ?_)
            refine goes_ Try.func33 (by kernel_rfl) rfl #[.pointer (some ⟨g, 0, none⟩), .int .i64 (wrap64 (1 + t137))] (by rfl) rfl rfl zG ?_
            with_reducible refine (spec_l1Below.calls g s0_0 t160 t161 (wrap64 (1 + t137)) t162 t163 t164 w0 _ ?side1 ?side2 A23.out).mono ?_
            (case side1 => exact spec_l13Draw.zI69 HI0)
            (case side2 => exact zB HB)
            rintro e w54 ⟨rfl, hi, hb, hk⟩
            refine ⟨_, rfl, ?_⟩
            replace HO_141001 := IsS69.kR HI0 HO_141001 hk
            replace HO_141002 := IsS69.kR HI0 HO_141002 hk
            replace BK136 := kbT hk BK136 NB136_0
            replace BK140 := kbT hk BK140 NB140_0
            replace BK165 := kbT hk BK165 NB165_0
            replace HK := hkT HK hk
            replace HB := Aside0.mk (hb)
            replace HI0 := Aside0.mk (hi)
            (try clear hb); (try clear hb2); (try clear hk); (try clear hi)
            refine hK.out _ _ ⟨bc0 BK140, bc1 BK140, bc2 BK140⟩ (fun hHeld => ?_)
            clear hK K
            refine nU 40 ?_
            refine pU 8 (some 41) (bm 11 1023) HT_ rfl rfl ?_
            exact norm_ (by simp only [putAll, Act.put, List.setIfInBounds_toArray, List.set_cons_zero, List.set_cons_succ]) (hCont (gb165) _ ⟨hHeld, (zR HO_141001), (by (with_reducible repeat (first | apply Kd.R_alloc | apply Kd.R_drewN | apply Kd.R_drew)); exact Kd.R_mono HO_141002.out (fun _ hk => hk.2)), (zK BK136), (zK BK140), (zK BK165), GW165.out, GE165.out, NB0_165.out, NB165_0.out, NB136_165.out, NB165_136.out, NB140_165.out, NB165_140.out, (spec_l13Draw.zI69 HI0), (zH HK), (zB HB)⟩)
          rintro gb165 w55 ⟨hS_, h0_, h1_, h2_, h3_, h4_, h5_, h6_, h7_, h8_, h9_, h10_, h11_, h12_, h13_, h14_, h15_⟩
          replace HO_141001 : Aside0 (Kd.R Kd.bool 4 w55 w.heap.size (fun _ => True) u141001 x141001_1) := ⟨h0_⟩
          replace HO_141002 : Aside0 (Kd.R k46 46 w55 w.heap.size (fun k_ => k_ ≠ gb165) u141002 x141002_3) := ⟨h1_⟩
          replace BK136 : Aside0 (w55.heap[gb136]? = some (.cells #[.int .i64 0, .slice none 0 0, .slice none 0 0] 27 (0, 0))) := ⟨h2_⟩
          replace BK140 : Aside0 (w55.heap[gb140]? = some (.cells #[.int .i64 (wrap64 (1 + t137)), u141001, u141002] 27 (0, 0))) := ⟨h3_⟩
          have BK165 : Aside0 (w55.heap[gb165]? = some (.cells #[.int .i64 0, .bool false, .int .i64 0, .int .i64 0] 46 (0, 0))) := ⟨h4_⟩
          have GW165 : Aside0 (w.heap.size ≤ gb165) := ⟨h5_⟩
          have GE165 : Aside0 (w0.heap.size ≤ gb165) := ⟨h6_⟩
          have NB0_165 : Aside0 (g ≠ gb165) := ⟨h7_⟩
          have NB165_0 : Aside0 (gb165 ≠ g) := ⟨h8_⟩
          have NB136_165 : Aside0 (gb136 ≠ gb165) := ⟨h9_⟩
          have NB165_136 : Aside0 (gb165 ≠ gb136) := ⟨h10_⟩
          have NB140_165 : Aside0 (gb140 ≠ gb165) := ⟨h11_⟩
          have NB165_140 : Aside0 (gb165 ≠ gb140) := ⟨h12_⟩
          replace HI0 : Aside0 (IsS69 w0 w55 g s0_0 t163 t164) := ⟨h13_⟩
          replace HK : Aside0 (KeepBut w w55 g none) := ⟨h14_⟩
          replace HB : Aside0 (Below w0.heap.size w0 w55) := ⟨h15_⟩
          clear h0_ h1_ h2_ h3_ h4_ h5_ h6_ h7_ h8_ h9_ h10_ h11_ h12_ h13_ h14_ h15_
          have hHeld : w55.cell? ⟨gb140, 0, none⟩ = some (.int .i64 (wrap64 (1 + t137))) ∧ w55.cell? ⟨gb140, 1, none⟩ = some (u141001) ∧ w55.cell? ⟨gb140, 2, none⟩ = some (u141002) := hS_
          refine norm_ (a' := ?_) ?_ ?_
          rotate_left
          ·simp only [putAll, Act.put, List.setIfInBounds_toArray, List.set_cons_zero, List.set_cons_succ]
           rfl
          refine one_ (i := 10) (N := none) (bm 11 2047) rfl rfl (one_of HT_.out (by kernel_rfl)) (by decide) (fun K hK => ?_)
          have hs56 : w55.cell? ⟨gb165, 0, none⟩ = some (.int .i64 0) := bc0 BK165
          have hfs56 := bf BK165 0
          have hns56_0 := NB136_165.out
          have hns56_1 := NB140_165.out
          have hms56_0 := NB165_136.out
          have hms56_1 := NB165_140.out
          have hs57 : w55.cell? ⟨gb165, 1, none⟩ = some (.bool false) := bc1 BK165
          have hfs57 := bf BK165 1
          have hns57_0 := NB136_165.out
          have hns57_1 := NB140_165.out
          have hms57_0 := NB165_136.out
          have hms57_1 := NB165_140.out
          have hs58 : w55.cell? ⟨gb165, 2, none⟩ = some (.int .i64 0) := bc2 BK165
          have hfs58 := bf BK165 2
          have hns58_0 := NB136_165.out
          have hns58_1 := NB140_165.out
          have hms58_0 := NB165_136.out
          have hms58_1 := NB165_140.out
          have hs59 : w55.cell? ⟨gb165, 3, none⟩ = some (.int .i64 0) := bc3 BK165
          have hfs59 := bf BK165 3
          have hns59_0 := NB136_165.out
          have hns59_1 := NB140_165.out
          have hms59_0 := NB165_136.out
          have hms59_1 := NB165_140.out
          refine skip_ (w1 := ?_) (by rfl) rfl ?_ ?_
          rotate_left
          ·go_simp
           rfl
          refine hK.out _ _ ⟨((cell_far (p := ⟨gb165, _, none⟩) NB140_165.out _).trans (((cell_far (p := ⟨gb165, _, none⟩) NB140_165.out _).trans (((cell_far (p := ⟨gb165, _, none⟩) NB140_165.out _).trans (((cell_far (p := ⟨gb165, _, none⟩) NB140_165.out _).trans (hHeld.1)))))))), ((cell_far (p := ⟨gb165, _, none⟩) NB140_165.out _).trans (((cell_far (p := ⟨gb165, _, none⟩) NB140_165.out _).trans (((cell_far (p := ⟨gb165, _, none⟩) NB140_165.out _).trans (((cell_far (p := ⟨gb165, _, none⟩) NB140_165.out _).trans (hHeld.2.1)))))))), ((cell_far (p := ⟨gb165, _, none⟩) NB140_165.out _).trans (((cell_far (p := ⟨gb165, _, none⟩) NB140_165.out _).trans (((cell_far (p := ⟨gb165, _, none⟩) NB140_165.out _).trans (((cell_far (p := ⟨gb165, _, none⟩) NB140_165.out _).trans (hHeld.2.2))))))))⟩ (fun hHeld => ?_)
          clear hK K
          refine done_ (done_of HT_.out (by kernel_rfl)) ?_
          try clear hHeld
          have hnb60 := NB140_136.out
          have hnc60 := NB136_140.out
          have hnb61 := NB140_165.out
          have hnc61 := NB165_140.out
          have hnb62 := NB140_0.out
          have hnc62 := NB0_140.out
          obtain ⟨hcz63_0, hcz63_1, hcz63_2, hfz63_0, hfz63_1, hfz63_2⟩ := bq3 BK140
          have hnb64 := NB165_136.out
          have hnc64 := NB136_165.out
          have hnb65 := NB165_0.out
          have hnc65 := NB0_165.out
          obtain ⟨hcz66_0, hcz66_1, hcz66_2, hcz66_3, hfz66_0, hfz66_1, hfz66_2, hfz66_3⟩ := bq4 BK165
          obtain ⟨Ao67, co67, eo67⟩ := Kd.R_slice HO_141001.out
          subst eo67
          obtain ⟨Ao68, co68, eo68⟩ := Kd.R_slice HO_141002.out
          subst eo68
          try go_wp2_with (first | ((with_reducible refine gate_callee (f := 24) rfl ?_); refine goesL_ (some 47) rfl rfl Try.func24 (by kernel_rfl) rfl #[.agg #[.int .i64 (wrap64 (1 + t137)), .slice Ao67 x141001_1.length co67, .slice Ao68 x141002_3.length co68], .int .i64 x4_1, .bool t141, .int .i64 t159] rfl zG ?_; (with_reducible refine (spec_MoveOf.calls k3 (wrap64 (1 + t137)) _ _ x141001_1 _ _ x141002_3 x4_1 t141 t159 t166 _ ?side1 ?side2 ?side3 ?side4 A24.out).mono ?_); (case side1 => refine (Kd.R_reads' (e := 4) (base := w.heap.size) (ok := fun k_ => True) (n := x141001_1.length) (c := co67) ?_).2.2; exact ((Kd.R_mono (rB HO_141001 BK165) (fun _ h_ => h_.1)))); (case side2 => exact (Kd.R_reads' HO_141001.out).2.1); (case side3 => refine (Kd.R_reads' (e := 46) (base := w.heap.size) (ok := fun k_ => k_ ≠ gb165) (n := x141002_3.length) (c := co68) ?_).2.2; exact (by (with_reducible repeat (first | apply Kd.R_alloc | apply Kd.R_drewN | apply Kd.R_drew)); exact (Kd.R_mono (Kd.R_far (p := ⟨gb165, 3, none⟩) (Kd.R_far (p := ⟨gb165, 2, none⟩) (Kd.R_far (p := ⟨gb165, 1, none⟩) (Kd.R_far (p := ⟨gb165, 0, none⟩) (Kd.R_mono HO_141002.out (fun k_ hk => (⟨hk, hk⟩ : _ ∧ k_ ≠ gb165))) (fun _ hk => hk.2) (.int .i64 x4_1)) (fun _ hk => hk.2) (.bool t141)) (fun _ hk => hk.2) (.int .i64 t159)) (fun _ hk => hk.2) (.int .i64 t162)) (fun _ h_ => h_.1)))); (case side4 => exact (Kd.R_reads' HO_141002.out).2.1); rintro e w69 ⟨rfl, hb⟩; refine ⟨_, rfl, ?_⟩; replace HO_141001 := Aside0.mk (Kd.R_below ((Kd.R_mono (rB HO_141001 BK165) (fun _ h_ => h_.1))) hb); replace HO_141002 := Aside0.mk (Kd.R_below (by (with_reducible repeat (first | apply Kd.R_alloc | apply Kd.R_drewN | apply Kd.R_drew)); exact (Kd.R_mono (Kd.R_far (p := ⟨gb165, 3, none⟩) (Kd.R_far (p := ⟨gb165, 2, none⟩) (Kd.R_far (p := ⟨gb165, 1, none⟩) (Kd.R_far (p := ⟨gb165, 0, none⟩) (Kd.R_mono HO_141002.out (fun k_ hk => (⟨hk, hk⟩ : _ ∧ k_ ≠ gb165))) (fun _ hk => hk.2) (.int .i64 x4_1)) (fun _ hk => hk.2) (.bool t141)) (fun _ hk => hk.2) (.int .i64 t159)) (fun _ hk => hk.2) (.int .i64 t162)) (fun _ h_ => h_.1))) hb); replace BK136 := Aside0.mk (blk_below (kF BK136) hb); replace BK140 := Aside0.mk (blk_below (kF BK140) hb); replace BK165 := Aside0.mk (blk_below (g := gb165) (o := .cells #[.int .i64 x4_1, .bool t141, .int .i64 t159, .int .i64 t162] 46 (0, 0)) (by (with_reducible repeat (first | refine blk_drewN ?_ _ | refine blk_drew ?_ | refine blk_alloc ?_ _)); refine blk_put (cs := #[.int .i64 x4_1, .bool t141, .int .i64 t159, .int .i64 0]) ?_ 3 _ rfl; (with_reducible repeat (first | refine blk_drewN ?_ _ | refine blk_drew ?_ | refine blk_alloc ?_ _)); refine blk_put (cs := #[.int .i64 x4_1, .bool t141, .int .i64 0, .int .i64 0]) ?_ 2 _ rfl; (with_reducible repeat (first | refine blk_drewN ?_ _ | refine blk_drew ?_ | refine blk_alloc ?_ _)); refine blk_put (cs := #[.int .i64 x4_1, .bool false, .int .i64 0, .int .i64 0]) ?_ 1 _ rfl; (with_reducible repeat (first | refine blk_drewN ?_ _ | refine blk_drew ?_ | refine blk_alloc ?_ _)); refine blk_put (cs := #[.int .i64 0, .bool false, .int .i64 0, .int .i64 0]) ?_ 0 _ rfl; (with_reducible repeat (first | refine blk_drewN ?_ _ | refine blk_drew ?_ | refine blk_alloc ?_ _)); exact BK165.out) hb); replace HK := hkB HK hb; replace HB := bS HB hb; replace HI0 := Aside0.mk (IsS69.below (show IsS69 w0 ((((w55.setCell ⟨gb165, 0, none⟩ (.int .i64 x4_1)).setCell ⟨gb165, 1, none⟩ (.bool t141)).setCell ⟨gb165, 2, none⟩ (.int .i64 t159)).setCell ⟨gb165, 3, none⟩ (.int .i64 t162)) g s0_0 t163 t164 from spec_l13Draw.zI69 HI0) hb); (try clear hb)))
          go_roundg k3
          case measure => have := HK1.out; have := HJ11.out; have := HK3.out; omega
          case rel => exact ⟨(wrap64 (x7_3 + 1)), (t163), (t164), (x141002_3), (.slice Ao68 x141002_3.length co68), zF, H', ⟨by have := HK1.out; have := HJ11.out; have := HK3.out; omega⟩, ⟨zR HO_141001⟩, ⟨by (with_reducible repeat (first | apply Kd.R_alloc | apply Kd.R_drewN | apply Kd.R_drew)); exact Kd.R_mono HO_141002.out (fun _ hk => trivial)⟩, ⟨zK BK136⟩, ⟨zK BK140⟩, ⟨spec_l13Draw.zI69 HI0⟩, ⟨zH HK⟩, ⟨zB HB⟩⟩
        ·rw [if_neg c21] at H
         have c21b0 : decide (x7_3 < x6_11) = false := decide_eq_false c21
         clear c21
         by_cases c70 : x6_11 = 0
         ·rw [if_pos c70] at H
          have c70b0 : (x6_11 == 0) = true := beq_iff_eq.mpr c70
          have c70b1 : (x6_11 != 0) = false := bne_eq_false_iff_eq.mpr c70
          clear c70
          obtain ⟨c71, H⟩ := ifS H
          have LMc71 := Aside0.mk c71
          clear c71
          obtain ⟨y150, hy150⟩ : ∃ y_ : List Bool, y_ = (x141001_1 ++ [true]) := ⟨_, rfl⟩
          replace H : (spec_l13Draw.l0 k3 (wrap64 (x4_1 + 1)) s0_0 x1001_3 x1002_3 (wrap64 (1 + t137)) y150 x141002_3) = some (r1, r2, r3, r4, r5) := by first | (rw [hy150]; with_reducible exact H) | (rw [hy150]; exact H) | exact H
          have Ny150 := Aside0.mk hy150
          clear hy150
          have H' := Aside0.mk H
          clear H
          try go_wp2
          replace HO_141001 := Aside0.mk (Kd.R_drew HO_141001.out)
          replace HO_141002 := Aside0.mk (Kd.R_drew HO_141002.out)
          replace BK136 := Aside0.mk (blk_drew BK136.out)
          replace BK140 := Aside0.mk (blk_drew BK140.out)
          replace HI0 := Aside0.mk (IsS69.drew HI0.out)
          replace HK := Aside0.mk (keep_drew HK.out)
          replace HB := Aside0.mk (below_drew1 HB.out)
          refine start_ (n := 12) (S := fun w' => w'.cell? ⟨gb140, 0, none⟩ = some (.int .i64 (wrap64 (1 + t137))) ∧ w'.cell? ⟨gb140, 1, none⟩ = some (u141001) ∧ w'.cell? ⟨gb140, 2, none⟩ = some (u141002)) (ds := [11]) (bm 12 0) (by kernel_rfl) rfl (bm0 _) ⟨bc0 BK140, bc1 BK140, bc2 BK140⟩ (fun hHeld => ?_); refine with_tabW spec_l13Draw.tab15 spec_l13Draw.bits15 (fun HT_ HW_ => ?_)
          generalize wr.drew = w72 at HO_141001 HO_141002 BK136 BK140 HI0 HK HB hHeld ⊢
          refine pU 0 (some 55) (bm 12 1) HT_ rfl rfl ?_
          refine pU 2 (some 57) (bm 12 5) HT_ rfl rfl ?_
          refine pU 3 (some 58) (bm 12 13) HT_ rfl rfl ?_
          refine pU 4 (some 59) (bm 12 29) HT_ rfl rfl ?_
          refine pV 5 (some 60) (bm 12 61) HT_ rfl rfl ?_
          refine pV 6 (some 61) (bm 12 125) HT_ rfl rfl ?_
          refine pU 7 (some 62) (bm 12 253) HT_ rfl rfl ?_
          refine tU 1 (some 56) (bm 12 255) HT_ HW_ rfl rfl hHeld ?_
          refine one_ (i := 8) (N := some 63) (bm 12 511) rfl rfl (one_of HT_.out (by kernel_rfl)) (by decide) (fun K hK => ?_)
          refine value_ (w1 := ?_) (v := ?_) (by rfl) rfl ?_ ?_
          rotate_left 2
          ·go_simp
           constructor
           ·rfl
           ·rfl
          refine hK.out _ _ ⟨(blk_cell (blk_alloc BK140.out _) 0).trans rfl, (blk_cell (blk_alloc BK140.out _) 1).trans rfl, (blk_cell (blk_alloc BK140.out _) 2).trans rfl⟩ (fun hHeld => ?_)
          clear hK K
          refine nU 63 ?_
          refine one_ (i := 9) (N := some 64) (bm 12 1023) rfl rfl (one_of HT_.out (by kernel_rfl)) (by decide) (fun K hK => ?_)
          refine Kd.R_append_step Kd.bool w.heap.size (by rfl) (.tmp 56) (.tmp 63) 24 4 (.bool false) 1 rfl Try.underlying24 info4 rfl (by decide) (by omega) u141001 x141001_1 true [.bool true] (fun _ => True) (fun _ => False) rfl rfl ?aP (fun _ hk => hk.elim) ?aF ?aO (Below.refl _ _) ?aS ?aL ?_
          (case aP => exact rfl)
          (case aF => exact (fun _ _ => trivial))
          (case aO => exact (zR HO_141001))
          (case aS => exact (keep_size (w := w) (g := g) (row := none) (zH HK)))
          (case aL => have := LMc71.out; omega)
          intro v151 w73 ho hb hg hat
          rw [← Ny150.out] at ho
          replace HO_141002 := Aside0.mk (Kd.R_over' (zR HO_141002) (Kd.R_typed (zR HO_141001)) (by decide) hg)
          replace BK136 := Aside0.mk (blk_grown (g := gb136) (o := .cells #[.int .i64 0, .slice none 0 0, .slice none 0 0] 27 (0, 0)) (zK BK136) hg (Kd.R_ne HO_141001.out BK136.out (by decide)))
          replace BK140 := Aside0.mk (blk_grown (g := gb140) (o := .cells #[.int .i64 (wrap64 (1 + t137)), u141001, u141002] 27 (0, 0)) (zK BK140) hg (Kd.R_ne HO_141001.out BK140.out (by decide)))
          replace HB := Aside0.mk (below_weaken (zB HB) HL.out hb)
          replace HI0 := Aside0.mk (IsS69.grown (spec_l13Draw.zI69 HI0) hg (IsS69.own_ne HI0.out HO_141001.out (by decide)))
          replace HK := Aside0.mk (KeepBut.trans (zH HK) (KeepBut.of_grown hg g) (Kd.R_base2 HO_141001.out))
          have HO152 := Aside0.mk (ho)
          clear HO_141001
          clear ho hb hg hat
          obtain ⟨Ao74, co74, eo74⟩ := Kd.R_slice HO152.out
          (first | subst eo74 | (obtain ⟨f4_, f5_⟩ := slI eo74; subst f4_; subst f5_))
          refine hK.out _ _ ⟨bc0 BK140, bc1 BK140, bc2 BK140⟩ (fun hHeld => ?_)
          clear hK K
          refine nU 64 ?_
          refine pU 10 (some 65) (bm 12 2047) HT_ rfl rfl ?_
          refine last_ (i := 11) (N := none) (bm 12 4095) rfl rfl (one_of HT_.out (by kernel_rfl)) (by decide) (fun K hK => ?_)
          have hs75 : w73.cell? ⟨gb140, 1, none⟩ = some (u141001) := bc1 BK140
          have hfs75 := bf BK140 1
          have hns75_0 := NB136_140.out
          have hms75_0 := NB140_136.out
          refine skip_ (w1 := ?_) (by rfl) rfl ?_ ?_
          rotate_left
          ·go_simp
           rfl
          refine hK.out _ _ ?_
          clear hK K
          refine done_ (done_of HT_.out (by kernel_rfl)) ?_
          try clear hHeld
          try go_wp2
          go_roundg k3
          case measure => have := HK1.out; have := HJ11.out; have := HK3.out; omega
          case rel => exact ⟨(wrap64 (x4_1 + 1)), (x1001_3), (x1002_3), (y150), (x141002_3), (.slice Ao74 y150.length co74), (u141002), zF, H', ⟨by have := HK1.out; have := HJ11.out; have := HK3.out; omega⟩, ⟨Kd.R_mono (rB HO152 BK140) (fun _ hk => trivial)⟩, ⟨Kd.R_mono (rB HO_141002 BK140) (fun _ hk => trivial)⟩, ⟨kF BK136⟩, ⟨by (with_reducible repeat (first | refine blk_drewN ?_ _ | refine blk_drew ?_ | refine blk_alloc ?_ _)); refine blk_put (cs := #[.int .i64 (wrap64 (1 + t137)), u141001, u141002]) ?_ 1 _ rfl; (with_reducible repeat (first | refine blk_drewN ?_ _ | refine blk_drew ?_ | refine blk_alloc ?_ _)); exact BK140.out⟩, ⟨spec_l13Draw.zI69 HI0⟩, ⟨zH HK⟩, ⟨zB HB⟩⟩
         ·rw [if_neg c70] at H
          have c70b0 : (x6_11 == 0) = false := beq_eq_false_iff_ne.mpr c70
          have c70b1 : (x6_11 != 0) = true := bne_iff_ne.mpr c70
          replace H := Option.bind_eq_some_iff.mp H
          obtain ⟨⟨t153, t154, t155⟩, A760, H⟩ := H
          dsimp only at H
          have A76 := Aside0.mk A760
          clear A760
          obtain ⟨c77, H⟩ := ifS H
          have LMc77 := Aside0.mk c77
          clear c77
          obtain ⟨y156, hy156⟩ : ∃ y_ : List Bool, y_ = (x141001_1 ++ [t153]) := ⟨_, rfl⟩
          replace H : (spec_l13Draw.l0 k3 (wrap64 (x4_1 + 1)) s0_0 t154 t155 (wrap64 (1 + t137)) y156 x141002_3) = some (r1, r2, r3, r4, r5) := by first | (rw [hy156]; with_reducible exact H) | (rw [hy156]; exact H) | exact H
          have Ny156 := Aside0.mk hy156
          clear hy156
          have H' := Aside0.mk H
          clear H
          try go_wp2
          replace HO_141001 := Aside0.mk (Kd.R_drew HO_141001.out)
          replace HO_141002 := Aside0.mk (Kd.R_drew HO_141002.out)
          replace BK136 := Aside0.mk (blk_drew BK136.out)
          replace BK140 := Aside0.mk (blk_drew BK140.out)
          replace HI0 := Aside0.mk (IsS69.drew HI0.out)
          replace HK := Aside0.mk (keep_drew HK.out)
          replace HB := Aside0.mk (below_drew1 HB.out)
          refine start_ (n := 12) (S := fun w' => w'.cell? ⟨gb140, 0, none⟩ = some (.int .i64 (wrap64 (1 + t137))) ∧ w'.cell? ⟨gb140, 1, none⟩ = some (u141001) ∧ w'.cell? ⟨gb140, 2, none⟩ = some (u141002)) (ds := [11]) (bm 12 0) (by kernel_rfl) rfl (bm0 _) ⟨bc0 BK140, bc1 BK140, bc2 BK140⟩ (fun hHeld => ?_); refine with_tabW spec_l13Draw.tab15 spec_l13Draw.bits15 (fun HT_ HW_ => ?_)
          generalize wr.drew = w78 at HO_141001 HO_141002 BK136 BK140 HI0 HK HB hHeld ⊢
          refine pU 0 (some 55) (bm 12 1) HT_ rfl rfl ?_
          refine pU 2 (some 57) (bm 12 5) HT_ rfl rfl ?_
          refine pU 3 (some 58) (bm 12 13) HT_ rfl rfl ?_
          refine pU 4 (some 59) (bm 12 29) HT_ rfl rfl ?_
          refine pU 5 (some 60) (bm 12 61) HT_ rfl rfl ?_
          refine tU 1 (some 56) (bm 12 63) HT_ HW_ rfl rfl hHeld ?_
          refine one_ (i := 6) (N := some 61) (bm 12 127) rfl rfl (one_of HT_.out (by kernel_rfl)) (by decide) (fun K hK => ?_)
          refine goes_ Try.func31 (by kernel_rfl) rfl #[.pointer (some ⟨g, 0, none⟩), .int .i64 4] (by rfl) rfl rfl zG ?_
          with_reducible refine (spec_l1Once.calls g s0_0 x1001_3 x1002_3 4 t153 t154 t155 w0 _ ?side1 ?side2 A76.out).mono ?_
          (case side1 => exact spec_l13Draw.zI69 HI0)
          (case side2 => exact zB HB)
          rintro e w79 ⟨rfl, hi, hb, hk⟩
          refine ⟨_, rfl, ?_⟩
          replace HO_141001 := IsS69.kR HI0 HO_141001 hk
          replace HO_141002 := IsS69.kR HI0 HO_141002 hk
          replace BK136 := kbT hk BK136 NB136_0
          replace BK140 := kbT hk BK140 NB140_0
          replace HK := hkT HK hk
          replace HB := Aside0.mk (hb)
          replace HI0 := Aside0.mk (hi)
          (try clear hb); (try clear hb2); (try clear hk); (try clear hi)
          refine hK.out _ _ ⟨bc0 BK140, bc1 BK140, bc2 BK140⟩ (fun hHeld => ?_)
          clear hK K
          refine nU 61 ?_
          refine pU 7 (some 62) (bm 12 255) HT_ rfl rfl ?_
          refine one_ (i := 8) (N := some 63) (bm 12 511) rfl rfl (one_of HT_.out (by kernel_rfl)) (by decide) (fun K hK => ?_)
          refine value_ (w1 := ?_) (v := ?_) (by rfl) rfl ?_ ?_
          rotate_left 2
          ·go_simp
           constructor
           ·rfl
           ·rfl
          refine hK.out _ _ ⟨(blk_cell (blk_alloc BK140.out _) 0).trans rfl, (blk_cell (blk_alloc BK140.out _) 1).trans rfl, (blk_cell (blk_alloc BK140.out _) 2).trans rfl⟩ (fun hHeld => ?_)
          clear hK K
          refine nU 63 ?_
          refine one_ (i := 9) (N := some 64) (bm 12 1023) rfl rfl (one_of HT_.out (by kernel_rfl)) (by decide) (fun K hK => ?_)
          refine Kd.R_append_step Kd.bool w.heap.size (by rfl) (.tmp 56) (.tmp 63) 24 4 (.bool false) 1 rfl Try.underlying24 info4 rfl (by decide) (by omega) u141001 x141001_1 t153 [.bool t153] (fun _ => True) (fun _ => False) rfl rfl ?aP (fun _ hk => hk.elim) ?aF ?aO (Below.refl _ _) ?aS ?aL ?_
          (case aP => exact rfl)
          (case aF => exact (fun _ _ => trivial))
          (case aO => exact (zR HO_141001))
          (case aS => exact (keep_size (w := w) (g := g) (row := none) (zH HK)))
          (case aL => have := LMc77.out; omega)
          intro v157 w80 ho hb hg hat
          rw [← Ny156.out] at ho
          replace HO_141002 := Aside0.mk (Kd.R_over' (zR HO_141002) (Kd.R_typed (zR HO_141001)) (by decide) hg)
          replace BK136 := Aside0.mk (blk_grown (g := gb136) (o := .cells #[.int .i64 0, .slice none 0 0, .slice none 0 0] 27 (0, 0)) (zK BK136) hg (Kd.R_ne HO_141001.out BK136.out (by decide)))
          replace BK140 := Aside0.mk (blk_grown (g := gb140) (o := .cells #[.int .i64 (wrap64 (1 + t137)), u141001, u141002] 27 (0, 0)) (zK BK140) hg (Kd.R_ne HO_141001.out BK140.out (by decide)))
          replace HB := Aside0.mk (below_weaken (zB HB) HL.out hb)
          replace HI0 := Aside0.mk (IsS69.grown (spec_l13Draw.zI69 HI0) hg (IsS69.own_ne HI0.out HO_141001.out (by decide)))
          replace HK := Aside0.mk (KeepBut.trans (zH HK) (KeepBut.of_grown hg g) (Kd.R_base2 HO_141001.out))
          have HO158 := Aside0.mk (ho)
          clear HO_141001
          clear ho hb hg hat
          obtain ⟨Ao81, co81, eo81⟩ := Kd.R_slice HO158.out
          (first | subst eo81 | (obtain ⟨f4_, f5_⟩ := slI eo81; subst f4_; subst f5_))
          refine hK.out _ _ ⟨bc0 BK140, bc1 BK140, bc2 BK140⟩ (fun hHeld => ?_)
          clear hK K
          refine nU 64 ?_
          refine pU 10 (some 65) (bm 12 2047) HT_ rfl rfl ?_
          refine last_ (i := 11) (N := none) (bm 12 4095) rfl rfl (one_of HT_.out (by kernel_rfl)) (by decide) (fun K hK => ?_)
          have hs82 : w80.cell? ⟨gb140, 1, none⟩ = some (u141001) := bc1 BK140
          have hfs82 := bf BK140 1
          have hns82_0 := NB136_140.out
          have hms82_0 := NB140_136.out
          refine skip_ (w1 := ?_) (by rfl) rfl ?_ ?_
          rotate_left
          ·go_simp
           rfl
          refine hK.out _ _ ?_
          clear hK K
          refine done_ (done_of HT_.out (by kernel_rfl)) ?_
          try clear hHeld
          try go_wp2
          go_roundg k3
          case measure => have := HK1.out; have := HJ11.out; have := HK3.out; omega
          case rel => exact ⟨(wrap64 (x4_1 + 1)), (t154), (t155), (y156), (x141002_3), (.slice Ao81 y156.length co81), (u141002), zF, H', ⟨by have := HK1.out; have := HJ11.out; have := HK3.out; omega⟩, ⟨Kd.R_mono (rB HO158 BK140) (fun _ hk => trivial)⟩, ⟨Kd.R_mono (rB HO_141002 BK140) (fun _ hk => trivial)⟩, ⟨kF BK136⟩, ⟨by (with_reducible repeat (first | refine blk_drewN ?_ _ | refine blk_drew ?_ | refine blk_alloc ?_ _)); refine blk_put (cs := #[.int .i64 (wrap64 (1 + t137)), u141001, u141002]) ?_ 1 _ rfl; (with_reducible repeat (first | refine blk_drewN ?_ _ | refine blk_drew ?_ | refine blk_alloc ?_ _)); exact BK140.out⟩, ⟨spec_l13Draw.zI69 HI0⟩, ⟨zH HK⟩, ⟨zB HB⟩⟩
   ·rw [if_neg c9] at H
    have c9b0 : decide (x4_1 < (wrap64 (1 + t137))) = false := decide_eq_false c9
    clear c9
    simp only [Option.some.injEq, Prod.mk.injEq] at H
    obtain ⟨rfl, rfl, rfl, rfl, rfl⟩ := H
    have hnb83 := NB140_136.out
    have hnc83 := NB136_140.out
    have hnb84 := NB140_0.out
    have hnc84 := NB0_140.out
    obtain ⟨hcz85_0, hcz85_1, hcz85_2, hfz85_0, hfz85_1, hfz85_2⟩ := bq3 BK140
    have hnb86 := NB136_0.out
    have hnc86 := NB0_136.out
    obtain ⟨hcz87_0, hcz87_1, hcz87_2, hfz87_0, hfz87_1, hfz87_2⟩ := bq3 BK136
    obtain ⟨Ao88, co88, eo88⟩ := Kd.R_slice HO_141001.out
    subst eo88
    obtain ⟨Ao89, co89, eo89⟩ := Kd.R_slice HO_141002.out
    subst eo89
    go_wp2
    refine bodyPost_ret (results_cell_row rfl _ _ gb136 27 #[.int .i64 (wrap64 (1 + t137)), .slice Ao88 x141001_1.length co88, .slice Ao89 x141002_1.length co89] (0, 0) _ rfl (by (with_reducible repeat (first | refine blk_drewN ?_ _ | refine blk_drew ?_ | refine blk_alloc ?_ _)); refine blk_put (cs := #[.int .i64 (wrap64 (1 + t137)), .slice Ao88 x141001_1.length co88, .slice none 0 0]) ?_ 2 _ rfl; (with_reducible repeat (first | refine blk_drewN ?_ _ | refine blk_drew ?_ | refine blk_alloc ?_ _)); refine blk_put (cs := #[.int .i64 (wrap64 (1 + t137)), .slice none 0 0, .slice none 0 0]) ?_ 1 _ rfl; (with_reducible repeat (first | refine blk_drewN ?_ _ | refine blk_drew ?_ | refine blk_alloc ?_ _)); refine blk_put (cs := #[.int .i64 0, .slice none 0 0, .slice none 0 0]) ?_ 0 _ rfl; (with_reducible repeat (first | refine blk_drewN ?_ _ | refine blk_drew ?_ | refine blk_alloc ?_ _)); exact BK136.out) Try.underlying27 rfl (by kernel_rfl)) rfl ?_
    exact ⟨_, _, zE, Kd.R_mono (rB HO_141001 BK136) (fun _ hk => trivial), Kd.R_mono (rB HO_141002 BK136) (fun _ hk => trivial), spec_l13Draw.zI69 HI0, zB HB, zH HK⟩

end Go.Proofs.Ytfibjclnaeocbaa.PFnChain
