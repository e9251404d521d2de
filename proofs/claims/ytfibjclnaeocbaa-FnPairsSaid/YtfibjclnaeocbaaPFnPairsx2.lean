-- WRITTEN by pp.py, this session's own wrapper around the print; not trusted: Lean checks it
import Derived.Test.YtfibjclnaeocbaaPFnPairsx0
import Derived.Test.YtfibjclnaeocbaaPFnPairsx1
namespace Go.Proofs.Ytfibjclnaeocbaa.PFnPairs
open Go.RowKit Go.Proofs.Ytfibjclnaeocbaa.Hw Go.Proofs.YtfibjclnaeocbaaW.PrintWords Go.Proofs.YtfibjclnaeocbaaW.PrintLast Go.Proofs.YtfibjclnaeocbaaW.PrintMore
attribute [local go_sem] max2_int min2_int max_two min_two max_three min_three max_four min_four   -- for this text's walks alone
set_option linter.unusedVariables false
set_option linter.unusedSimpArgs false
set_option linter.unusedSectionVars false

/-! ### spec_l13Draw: function 32 -/
mutual
def spec_l13Draw.l0 : Nat → Int → List Int → Int → Int → Int → List Bool → List (S46) → Option (Int × List Bool × (List (S46)) × Int × Int)
 | 0, _, _, _, _, _, _, _ => none
 | k + 1, x4, x1000, x1001, x1002, x128000, x128001, x128002 => if x4 < x128000 then ((spec_l1Once.f x1000 x1001 x1002 2).bind fun bt128 => ((spec_l1Below.f x1000 bt128.2.1 bt128.2.2 3).bind fun bt131 => (if x4 = 0 then ((spec_l1Below.f x1000 bt131.2.1 bt131.2.2 2).bind fun bt134 => (spec_l13Draw.j1 k x4 bt128.1 (wrap64 (1 + bt134.1)) x1000 bt134.2.1 bt134.2.2 x128000 x128001 x128002)) else (spec_l13Draw.j1 k x4 bt128.1 bt131.1 x1000 bt131.2.1 bt131.2.2 x128000 x128001 x128002)))) else (some (x128000, x128001, x128002, x1001, x1002))
def spec_l13Draw.j1 : Nat → Int → Bool → Int → List Int → Int → Int → Int → List Bool → List (S46) → Option (Int × List Bool × (List (S46)) × Int × Int)
 | 0, _, _, _, _, _, _, _, _, _ => none
 | k + 1, x4, x5, x6, x1000, x1001, x1002, x128000, x128001, x128002 => spec_l13Draw.l1 k x4 x5 x6 0 x1000 x1001 x1002 x128000 x128001 x128002
def spec_l13Draw.l1 : Nat → Int → Bool → Int → Int → List Int → Int → Int → Int → List Bool → List (S46) → Option (Int × List Bool × (List (S46)) × Int × Int)
 | 0, _, _, _, _, _, _, _, _, _, _ => none
 | k + 1, x4, x5, x6, x7, x1000, x1001, x1002, x128000, x128001, x128002 => if x7 < x6 then ((spec_l1Below.f x1000 x1001 x1002 3).bind fun bt146 => ((spec_l1Below.f x1000 bt146.2.1 bt146.2.2 x128000).bind fun bt149 => ((spec_MoveOf.f k x128000 x128001 x128002 x4 x5 bt146.1).bind fun t153 => (if t153 < 0 then (if x128002.length < 4398046511104 then (spec_l13Draw.l1 k x4 x5 x6 (wrap64 (x7 + 1)) x1000 bt149.2.1 bt149.2.2 x128000 x128001 (x128002 ++ [(⟨x4, x5, bt146.1, bt149.1⟩ : S46)])) else (none)) else (spec_l13Draw.l1 k x4 x5 x6 (wrap64 (x7 + 1)) x1000 bt149.2.1 bt149.2.2 x128000 x128001 x128002))))) else (if x6 = 0 then (if x128001.length < 140737488355328 then (spec_l13Draw.l0 k (wrap64 (x4 + 1)) x1000 x1001 x1002 x128000 (x128001 ++ [true]) x128002) else (none)) else ((spec_l1Once.f x1000 x1001 x1002 4).bind fun bt140 => (if x128001.length < 140737488355328 then (spec_l13Draw.l0 k (wrap64 (x4 + 1)) x1000 bt140.2.1 bt140.2.2 x128000 (x128001 ++ [bt140.1]) x128002) else (none))))
end
def spec_l13Draw.f (k : Nat) (s0_0 : List Int) (s0_1 : Int) (s0_2 : Int) : Option (Int × List Bool × (List (S46)) × Int × Int) := (spec_l1Below.f s0_0 s0_1 s0_2 4).bind fun bt124 => (spec_l13Draw.l0 k 0 s0_0 bt124.2.1 bt124.2.2 (wrap64 (1 + bt124.1)) ([] : List Bool) ([] : List (S46)))
theorem spec_l13Draw.mono_l : ∀ k, (∀ y0 y1 y2 y3 y4 y5 y6, LeO (spec_l13Draw.l0 k y0 y1 y2 y3 y4 y5 y6) (spec_l13Draw.l0 (k + 1) y0 y1 y2 y3 y4 y5 y6)) ∧ (∀ y0 y1 y2 y3 y4 y5 y6 y7 y8, LeO (spec_l13Draw.j1 k y0 y1 y2 y3 y4 y5 y6 y7 y8) (spec_l13Draw.j1 (k + 1) y0 y1 y2 y3 y4 y5 y6 y7 y8)) ∧ (∀ y0 y1 y2 y3 y4 y5 y6 y7 y8 y9, LeO (spec_l13Draw.l1 k y0 y1 y2 y3 y4 y5 y6 y7 y8 y9) (spec_l13Draw.l1 (k + 1) y0 y1 y2 y3 y4 y5 y6 y7 y8 y9))
 | 0 => ⟨fun _ _ _ _ _ _ _ r h => by simp [spec_l13Draw.l0] at h, fun _ _ _ _ _ _ _ _ _ r h => by simp [spec_l13Draw.j1] at h, fun _ _ _ _ _ _ _ _ _ _ r h => by simp [spec_l13Draw.l1] at h⟩
 | k + 1 => by
  obtain ⟨ih0, ih1, ih2⟩ := spec_l13Draw.mono_l k
  refine ⟨?a0, ?a1, ?a2⟩
  case' a0 => intros; unfold spec_l13Draw.l0
  case' a1 => intros; unfold spec_l13Draw.j1
  case' a2 => intros; unfold spec_l13Draw.l1
  all_goals repeat' first
  | (with_reducible first | exact ih0 _ _ _ _ _ _ _ | exact ih1 _ _ _ _ _ _ _ _ _ | exact ih2 _ _ _ _ _ _ _ _ _ _ | exact spec_MoveOf.mono _ _ _ _ _ _ _ | exact LeO.refl _ | exact LeO.none _ | refine LeO.ite ?_ ?_ | refine LeO.bind ?_ (fun _ => ?_))
  | exact ih0 _ _ _ _ _ _ _
  | exact ih1 _ _ _ _ _ _ _ _ _
  | exact ih2 _ _ _ _ _ _ _ _ _ _
  | exact spec_MoveOf.mono _ _ _ _ _ _ _
  | exact LeO.none _
  | refine LeO.ite ?_ ?_
  | refine LeO.bind ?_ (fun _ => ?_)
theorem spec_l13Draw.mono : ∀ a0 a1 a2 k, LeO (spec_l13Draw.f k a0 a1 a2) (spec_l13Draw.f (k + 1) a0 a1 a2) := by
 intro a0 a1 a2 k
 obtain ⟨ih0, ih1, ih2⟩ := spec_l13Draw.mono_l k
 unfold spec_l13Draw.f
 repeat' first
   | (with_reducible first | exact ih0 _ _ _ _ _ _ _ | exact ih1 _ _ _ _ _ _ _ _ _ | exact ih2 _ _ _ _ _ _ _ _ _ _ | exact spec_MoveOf.mono _ _ _ _ _ _ _ | exact LeO.refl _ | exact LeO.none _ | refine LeO.ite ?_ ?_ | refine LeO.bind ?_ (fun _ => ?_))
   | exact ih0 _ _ _ _ _ _ _
   | exact ih1 _ _ _ _ _ _ _ _ _
   | exact ih2 _ _ _ _ _ _ _ _ _ _
   | exact spec_MoveOf.mono _ _ _ _ _ _ _
   | exact LeO.none _
   | refine LeO.ite ?_ ?_
   | refine LeO.bind ?_ (fun _ => ?_)
def spec_l13Draw.T12 : Bool × List (List Nat × List Nat) := (true, [([], []), ([], []), ([], []), ([2], [2]), ([], []), ([], []), ([5], [5]), ([4, 6, 3], [4, 6]), ([0, 1, 3, 7], [0, 1, 3, 7]), ([], []), ([9, 8, 7, 0, 1, 2, 3, 4, 5, 6, 7, 8, 9], [8, 9])])
def spec_l13Draw.B12 : List Nat := [0, 0, 0, 4, 0, 0, 32, 124, 255, 0, 1023]
theorem spec_l13Draw.tab12 : rtab .any (opsOf Try.f32 12) = spec_l13Draw.T12 := by kernel_rfl
theorem spec_l13Draw.bits12 : waitsOk spec_l13Draw.T12.2 spec_l13Draw.B12 = true := by kernel_rfl
def spec_l13Draw.T15 : Bool × List (List Nat × List Nat) := (true, [([], []), ([0], [0]), ([], []), ([2], [2]), ([3], [3]), ([4], [4]), ([5, 4, 4], [4, 5]), ([4, 6], [4, 6]), ([7], [7]), ([1, 8, 6], [1, 8]), ([0, 1, 2, 3, 4, 5, 6, 7, 8, 9], []), ([10, 9, 9, 0, 1, 2, 3, 4, 5, 6, 7, 8, 9], [9, 10])])
def spec_l13Draw.B15 : List Nat := [0, 1, 0, 4, 12, 28, 60, 124, 252, 511, 1023, 2047]
theorem spec_l13Draw.tab15 : rtab .any (opsOf Try.f32 15) = spec_l13Draw.T15 := by kernel_rfl
theorem spec_l13Draw.bits15 : waitsOk spec_l13Draw.T15.2 spec_l13Draw.B15 = true := by kernel_rfl
theorem spec_l13Draw.zI69 {P Q : Prop} (h : Aside0 P) (hw : P → Q := by intro h_; repeat (first | (with_reducible first | exact h_ | apply IsS69.alloc | apply IsS69.drew | apply IsS69.drewN | apply IsS69.set_1 | apply IsS69.set_2 | refine IsS69.far ?_ (Aside0.o (by assumption)) _) | exact h_)) : Q := hw h.o
set_option maxHeartbeats 8000000 in
set_option maxRecDepth 100000 in
theorem spec_l13Draw.calls (k : Nat) (g : Nat) (s0_0 : List Int) (s0_1 : Int) (s0_2 : Int) (r1 : Int) (r2 : List Bool) (r3 : List (S46)) (r4 : Int) (r5 : Int) (w0 w : World) (hI : IsS69 w0 w g s0_0 s0_1 s0_2) (hB : Below w0.heap.size w0 w) (h : spec_l13Draw.f k s0_0 s0_1 s0_2 = some (r1, r2, r3, r4, r5)) :
  Calls Try.prog 32 #[.pointer (some ⟨g, 0, none⟩)] w fun e w' => ∃ v1_ v2_ : Value, e = .returned (.agg #[.int .i64 r1, v1_, v2_]) ∧ Kd.R Kd.bool 4 w' w.heap.size (fun _ => True) v1_ r2 ∧ Kd.R k46 46 w' w.heap.size (fun _ => True) v2_ r3 ∧ IsS69 w0 w' g s0_0 r4 r5 ∧ Below w0.heap.size w0 w' ∧ KeepBut w w' g none := by
 have hu27 := Try.underlying27
 have hu46 := Try.underlying46
 have HI0 := aM hI
 have GI0 := aM (IsS69.ge hI)
 have HK := aM (KeepBut.refl w g none)
 have HL := aM hB.size
 clear hI
 have HW0 := aM hB.size
 have HB := aM hB
 clear hB
 have H : ((spec_l1Below.f s0_0 s0_1 s0_2 4).bind fun bt124 => (spec_l13Draw.l0 k 0 s0_0 bt124.2.1 bt124.2.2 (wrap64 (1 + bt124.1)) ([] : List Bool) ([] : List (S46)))) = some (r1, r2, r3, r4, r5) := h
 clear h
 replace H := oB.mp H
 obtain ⟨⟨t124, t125, t126⟩, A20, H⟩ := H
 dsimp only at H
 have A2 := aM A20
 clear A20
 have H' := aM H
 clear H
 go_enter Try.func32, Try.ntmps32
 go_wp2_with (first | ((with_reducible refine gD (N := 2) rfl ?_); refine box_event ?hg (N := 2) ?hd (cs := #[.int .i64 0, .slice none 0 0, .slice none 0 0]) (t := 27) ?hr ?_; (case hd => rfl); (case hg => rfl); (case hr => first | (go_simp; done) | (go_simp; rfl)); intro gb123 hg w3 hbox hb; replace HB := bS HB hb; have BK123 := aM (hbox); have GW123 := gK HK hg; have GE123 := gL HW0 GW123; replace HK := hkB HK hb; have NB0_123 := IsS69.nL HI0 hg; have NB123_0 := IsS69.nR HI0 hg; replace HI0 := aM (IsS69.below (spec_l13Draw.zI69 HI0) hb); clear hb hbox hg) | ((with_reducible refine gC (f := 33) rfl ?_); refine goesL_ (some 10) rfl rfl Try.func33 (by kernel_rfl) rfl #[.pointer (some ⟨g, 0, none⟩), .int .i64 4] rfl zG ?_; (with_reducible refine (spec_l1Below.calls g s0_0 s0_1 s0_2 4 t124 t125 t126 w0 _ ?s1 ?s2 A2.o).mono ?_); (case s1 => exact spec_l13Draw.zI69 HI0); (case s2 => exact zB HB); rintro e w4 ⟨rfl, hi, hb, hk⟩; refine ⟨_, rfl, ?_⟩; replace BK123 := kbT hk BK123 NB123_0; replace HK := hkT HK hk; replace HB := aM (hb); replace HI0 := aM (hi); (try clear hb)) | ((with_reducible refine gD (N := 3) rfl ?_); refine box_event ?hg (N := 3) ?hd (cs := #[.int .i64 0, .slice none 0 0, .slice none 0 0]) (t := 27) ?hr ?_; (case hd => rfl); (case hg => rfl); (case hr => first | (go_simp; done) | (go_simp; rfl)); intro gb127 hg w5 hbox hb; replace HB := bS HB hb; have BK127 := aM (hbox); have GW127 := gK HK hg; have GE127 := gL HW0 GW127; replace HK := hkB HK hb; have NB123_127 := nL BK123 hg; have NB127_123 := nR BK123 hg; replace BK123 := kB BK123 hb; have NB0_127 := IsS69.nL HI0 hg; have NB127_0 := IsS69.nR HI0 hg; replace HI0 := aM (IsS69.below (spec_l13Draw.zI69 HI0) hb); clear hb hbox hg; have hnb6 := NB127_123.o; have hnc6 := NB123_127.o; have hnb7 := NB127_0.o; have hnc7 := NB0_127.o; obtain ⟨z8_0, z8_1, z8_2, f8_0, f8_1, f8_2⟩ := bq3 BK127))
 go_loopg [4] k (fun kq v4 w' => ∃ (x4_1 : Int) (x1001_1 : Int) (x1002_1 : Int) (x128001_1 : List Bool) (x128002_1 : List (S46)) (u128001 : Value) (u128002 : Value), v4 = .int .i64 x4_1 ∧ Aside0 (spec_l13Draw.l0 kq x4_1 s0_0 x1001_1 x1002_1 (wrap64 (1 + t124)) x128001_1 x128002_1 = some (r1, r2, r3, r4, r5)) ∧ Aside0 (kq ≤ k) ∧ Aside0 (Kd.R Kd.bool 4 w' w.heap.size (fun _ => True) u128001 x128001_1) ∧ Aside0 (Kd.R k46 46 w' w.heap.size (fun _ => True) u128002 x128002_1) ∧ Aside0 (w'.heap[gb123]? = some (.cells #[.int .i64 0, (.slice none 0 0), (.slice none 0 0)] 27 (0, 0))) ∧ Aside0 (w'.heap[gb127]? = some (.cells #[.int .i64 (wrap64 (1 + t124)), u128001, u128002] 27 (0, 0))) ∧ Aside0 (IsS69 w0 w' g s0_0 x1001_1 x1002_1) ∧ Aside0 (KeepBut w w' g none) ∧ Aside0 (Below w0.heap.size w0 w'))
 case atStart => exact ⟨(0), (t125), (t126), (([] : List Bool)), (([] : List (S46))), (.slice none 0 0), (.slice none 0 0), zF, H', ⟨Nat.le_refl _⟩, ⟨by first | exact Kd.R_nil _ _ _ _ _ | exact Kd.N_nil _ _ _ _ _ | exact Kd.V_nil _ _ _ _ _ | exact Kd.Q_nil _ _ _ _ _ | exact Kd.S_nil _ _ _ _ _⟩, ⟨by first | exact Kd.R_nil _ _ _ _ _ | exact Kd.N_nil _ _ _ _ _ | exact Kd.V_nil _ _ _ _ _ | exact Kd.Q_nil _ _ _ _ _ | exact Kd.S_nil _ _ _ _ _⟩, ⟨kF BK123⟩, ⟨by (with_reducible repeat (first | apply bN | apply bD | apply bA)); refine bP (cs := #[.int .i64 (wrap64 (1 + t124)), .slice none 0 0, .slice none 0 0]) ?_ 2 _ rfl; (with_reducible repeat (first | apply bN | apply bD | apply bA)); refine bP (cs := #[.int .i64 (wrap64 (1 + t124)), .slice none 0 0, .slice none 0 0]) ?_ 1 _ rfl; (with_reducible repeat (first | apply bN | apply bD | apply bA)); refine bP (cs := #[.int .i64 0, .slice none 0 0, .slice none 0 0]) ?_ 0 _ rfl; (with_reducible repeat (first | apply bN | apply bD | apply bA)); exact BK127.o⟩, ⟨spec_l13Draw.zI69 HI0⟩, ⟨zH HK⟩, ⟨zB HB⟩⟩
 case round =>
  clear H'
  try clear p2
  try clear c3
  try clear c6
  try clear p6
  try clear c7
  try clear z8_0
  try clear z8_1
  try clear z8_2
  try clear f8_0
  try clear f8_1
  try clear f8_2
  obtain ⟨x4_1, x1001_1, x1002_1, x128001_1, x128002_1, u128001, u128002, rfl, HA, HK1, HO_128001, HO_128002, BK123, BK127, HI0, HK, HB⟩ := hrel
  cases gk with
  | zero => exact absurd HA.o (by simp [spec_l13Draw.l0])
  | succ k1 =>
   have H := HA.o
   clear HA
   simp only [spec_l13Draw.l0] at H
   by_cases c9 : x4_1 < (wrap64 (1 + t124))
   ·rw [if_pos c9] at H
    have c9b0 : decide (x4_1 < (wrap64 (1 + t124))) = true := dT c9
    clear c9
    replace H := oB.mp H
    obtain ⟨⟨t128, t129, t130⟩, A100, H⟩ := H
    dsimp only at H
    have A10 := aM A100
    clear A100
    replace H := oB.mp H
    obtain ⟨⟨t131, t132, t133⟩, A110, H⟩ := H
    dsimp only at H
    have A11 := aM A110
    clear A110
    have HC12 := aM H
    clear H
    have hnb13 := NB127_123.o
    have hnc13 := NB123_127.o
    have hnb14 := NB127_0.o
    have hnc14 := NB0_127.o
    obtain ⟨z15_0, z15_1, z15_2, f15_0, f15_1, f15_2⟩ := bq3 BK127
    go_upto_if 24 with (first | ((with_reducible refine gC (f := 31) rfl ?_); refine goesL_ (some 20) rfl rfl Try.func31 (by kernel_rfl) rfl #[.pointer (some ⟨g, 0, none⟩), .int .i64 2] rfl zG ?_; (with_reducible refine (spec_l1Once.calls g s0_0 x1001_1 x1002_1 2 t128 t129 t130 w0 _ ?s1 ?s2 A10.o).mono ?_); (case s1 => exact spec_l13Draw.zI69 HI0); (case s2 => exact zB HB); rintro e w16 ⟨rfl, hi, hb, hk⟩; refine ⟨_, rfl, ?_⟩; replace HO_128001 := IsS69.kR HI0 HO_128001 hk; replace HO_128002 := IsS69.kR HI0 HO_128002 hk; replace BK123 := kbT hk BK123 NB123_0; replace BK127 := kbT hk BK127 NB127_0; replace HK := hkT HK hk; replace HB := aM (hb); replace HI0 := aM (hi); (try clear hb)) | ((with_reducible refine gC (f := 33) rfl ?_); refine goesL_ (some 22) rfl rfl Try.func33 (by kernel_rfl) rfl #[.pointer (some ⟨g, 0, none⟩), .int .i64 3] rfl zG ?_; (with_reducible refine (spec_l1Below.calls g s0_0 t129 t130 3 t131 t132 t133 w0 _ ?s1 ?s2 A11.o).mono ?_); (case s1 => exact spec_l13Draw.zI69 HI0); (case s2 => exact zB HB); rintro e w17 ⟨rfl, hi, hb, hk⟩; refine ⟨_, rfl, ?_⟩; replace HO_128001 := IsS69.kR HI0 HO_128001 hk; replace HO_128002 := IsS69.kR HI0 HO_128002 hk; replace BK123 := kbT hk BK123 NB123_0; replace BK127 := kbT hk BK127 NB127_0; replace HK := hkT HK hk; replace HB := aM (hb); replace HI0 := aM (hi); (try clear hb)))
    (try simp only [Act.put, lA, lB, lC])
    go_cut [6] (fun v6 wc => ∃ (kq : Nat) (x6_11 : Int) (x1001_11 : Int) (x1002_11 : Int), v6 = .int .i64 x6_11 ∧ Aside0 (spec_l13Draw.j1 kq x4_1 t128 x6_11 s0_0 x1001_11 x1002_11 (wrap64 (1 + t124)) x128001_1 x128002_1 = some (r1, r2, r3, r4, r5)) ∧ Aside0 (kq ≤ k1) ∧ Aside0 (Kd.R Kd.bool 4 wc w.heap.size (fun _ => True) u128001 x128001_1) ∧ Aside0 (Kd.R k46 46 wc w.heap.size (fun _ => True) u128002 x128002_1) ∧ Aside0 (wc.heap[gb123]? = some (.cells #[.int .i64 0, (.slice none 0 0), (.slice none 0 0)] 27 (0, 0))) ∧ Aside0 (wc.heap[gb127]? = some (.cells #[.int .i64 (wrap64 (1 + t124)), u128001, u128002] 27 (0, 0))) ∧ Aside0 (IsS69 w0 wc g s0_0 x1001_11 x1002_11) ∧ Aside0 (KeepBut w wc g none) ∧ Aside0 (Below w0.heap.size w0 wc))
    case first =>
     have H := HC12.o
     clear HC12
     by_cases c18 : x4_1 = 0
     ·rw [if_pos c18] at H
      have c18b0 : (x4_1 == 0) = true := beq_iff_eq.mpr c18
      have c18b1 : (x4_1 != 0) = false := bne_eq_false_iff_eq.mpr c18
      clear c18
      (first | rw [c18b0] | (simp only [i64_w, i32_w]; rw [c18b0]) | skip)
      replace H := oB.mp H
      obtain ⟨⟨t134, t135, t136⟩, A190, H⟩ := H
      dsimp only at H
      have A19 := aM A190
      clear A190
      have H' := aM H
      clear H
      go_wp2_with (first | ((with_reducible refine gC (f := 33) rfl ?_); refine goesL_ (some 26) rfl rfl Try.func33 (by kernel_rfl) rfl #[.pointer (some ⟨g, 0, none⟩), .int .i64 2] rfl zG ?_; (with_reducible refine (spec_l1Below.calls g s0_0 t132 t133 2 t134 t135 t136 w0 _ ?s1 ?s2 A19.o).mono ?_); (case s1 => exact spec_l13Draw.zI69 HI0); (case s2 => exact zB HB); rintro e w20 ⟨rfl, hi, hb, hk⟩; refine ⟨_, rfl, ?_⟩; replace HO_128001 := IsS69.kR HI0 HO_128001 hk; replace HO_128002 := IsS69.kR HI0 HO_128002 hk; replace BK123 := kbT hk BK123 NB123_0; replace BK127 := kbT hk BK127 NB127_0; replace HK := hkT HK hk; replace HB := aM (hb); replace HI0 := aM (hi); (try clear hb)))
      go_meet
      case rel => exact ⟨_, (wrap64 (1 + t134)), (t135), (t136), zF, H', ⟨by have := HK1.o; first | omega | exact Nat.le_refl _⟩, ⟨zR HO_128001⟩, ⟨zR HO_128002⟩, ⟨zK BK123⟩, ⟨zK BK127⟩, ⟨spec_l13Draw.zI69 HI0⟩, ⟨zH HK⟩, ⟨zB HB⟩⟩
     ·rw [if_neg c18] at H
      have c18b0 : (x4_1 == 0) = false := beq_eq_false_iff_ne.mpr c18
      have c18b1 : (x4_1 != 0) = true := bne_iff_ne.mpr c18
      (first | rw [c18b0] | (simp only [i64_w, i32_w]; rw [c18b0]) | skip)
      have H' := aM H
      clear H
      go_wp2
      go_meet
      case rel => exact ⟨_, (t131), (t132), (t133), zF, H', ⟨by have := HK1.o; first | omega | exact Nat.le_refl _⟩, ⟨zR HO_128001⟩, ⟨zR HO_128002⟩, ⟨zK BK123⟩, ⟨zK BK127⟩, ⟨spec_l13Draw.zI69 HI0⟩, ⟨zH HK⟩, ⟨zB HB⟩⟩
    case rest =>
     clear HC12
     try clear c1
     try clear p2
     try clear c3
     try clear c6
     try clear p6
     try clear c7
     try clear c9
     try clear c9b0
     try clear c13
     try clear c14
     try clear c18
     try clear c18b0
     try clear c18b1
     try clear z15_0
     try clear z15_1
     try clear z15_2
     try clear z8_0
     try clear z8_1
     try clear z8_2
     try clear f15_0
     try clear f15_1
     try clear f15_2
     try clear f8_0
     try clear f8_1
     try clear f8_2
     try clear p2
     try clear p6
     obtain ⟨kq, x6_11, x1001_11, x1002_11, rfl, HA, HJ11, HO_128001, HO_128002, BK123, BK127, HI0, HK, HB⟩ := hcut
     cases kq with
     | zero => exact absurd HA.o (by simp [spec_l13Draw.j1])
     | succ kj11 =>
      have H := HA.o
      clear HA
      simp only [spec_l13Draw.j1] at H
      have H' := aM H
      clear H
      go_wp2
      go_loopg [7] kj11 (fun kq v7 w' => ∃ (x7_3 : Int) (x1001_3 : Int) (x1002_3 : Int) (x128002_3 : List (S46)) (u128002 : Value), v7 = .int .i64 x7_3 ∧ Aside0 (spec_l13Draw.l1 kq x4_1 t128 x6_11 x7_3 s0_0 x1001_3 x1002_3 (wrap64 (1 + t124)) x128001_1 x128002_3 = some (r1, r2, r3, r4, r5)) ∧ Aside0 (kq ≤ kj11) ∧ Aside0 (Kd.R Kd.bool 4 w' w.heap.size (fun _ => True) u128001 x128001_1) ∧ Aside0 (Kd.R k46 46 w' w.heap.size (fun _ => True) u128002 x128002_3) ∧ Aside0 (w'.heap[gb123]? = some (.cells #[.int .i64 0, (.slice none 0 0), (.slice none 0 0)] 27 (0, 0))) ∧ Aside0 (w'.heap[gb127]? = some (.cells #[.int .i64 (wrap64 (1 + t124)), u128001, u128002] 27 (0, 0))) ∧ Aside0 (IsS69 w0 w' g s0_0 x1001_3 x1002_3) ∧ Aside0 (KeepBut w w' g none) ∧ Aside0 (Below w0.heap.size w0 w'))
      case atStart => exact ⟨(0), (x1001_11), (x1002_11), (x128002_1), (u128002), zF, H', ⟨Nat.le_refl _⟩, ⟨zR HO_128001⟩, ⟨zR HO_128002⟩, ⟨zK BK123⟩, ⟨zK BK127⟩, ⟨spec_l13Draw.zI69 HI0⟩, ⟨zH HK⟩, ⟨zB HB⟩⟩
      case round =>
       clear H'
       try clear c1
       try clear p2
       try clear c3
       try clear c6
       try clear p6
       try clear c7
       try clear c9
       try clear c9b0
       try clear c13
       try clear c14
       try clear c18
       try clear c18b0
       try clear c18b1
       try clear z15_0
       try clear z15_1
       try clear z15_2
       try clear z8_0
       try clear z8_1
       try clear z8_2
       try clear f15_0
       try clear f15_1
       try clear f15_2
       try clear f8_0
       try clear f8_1
       try clear f8_2
       try clear p2
       try clear p6
       obtain ⟨x7_3, x1001_3, x1002_3, x128002_3, u128002, rfl, HA, HK3, HO_128001, HO_128002, BK123, BK127, HI0, HK, HB⟩ := hrel
       cases gk with
       | zero => exact absurd HA.o (by simp [spec_l13Draw.l1])
       | succ k3 =>
        have H := HA.o
        clear HA
        simp only [spec_l13Draw.l1] at H
        by_cases c21 : x7_3 < x6_11
        ·rw [if_pos c21] at H
         have c21b0 : decide (x7_3 < x6_11) = true := dT c21
         clear c21
         replace H := oB.mp H
         obtain ⟨⟨t146, t147, t148⟩, A220, H⟩ := H
         dsimp only at H
         have A22 := aM A220
         clear A220
         replace H := oB.mp H
         obtain ⟨⟨t149, t150, t151⟩, A230, H⟩ := H
         dsimp only at H
         have A23 := aM A230
         clear A230
         obtain ⟨t153, A24, H⟩ := bindS H
         by_cases c25 : t153 < 0
         ·rw [if_pos c25] at H
          have c25b0 : decide (t153 < 0) = true := dT c25
          clear c25
          obtain ⟨c26, H⟩ := ifS H
          have LMc26 := aM c26
          clear c26
          obtain ⟨y154, hy154⟩ : ∃ y_ : List (S46), y_ = (x128002_3 ++ [(⟨x4_1, t128, t146, t149⟩ : S46)]) := ⟨_, rfl⟩
          replace H : (spec_l13Draw.l1 k3 x4_1 t128 x6_11 (wrap64 (x7_3 + 1)) s0_0 t150 t151 (wrap64 (1 + t124)) x128001_1 y154) = some (r1, r2, r3, r4, r5) := by first | (rw [hy154]; with_reducible exact H) | (rw [hy154]; exact H) | exact H
          have Ny154 := aM hy154
          clear hy154
          have H' := aM H
          clear H
          try go_wp2
          replace HO_128001 := aM (rD HO_128001.o)
          replace HO_128002 := aM (rD HO_128002.o)
          replace BK123 := aM (bD BK123.o)
          replace BK127 := aM (bD BK127.o)
          replace HI0 := aM (IsS69.drew HI0.o)
          replace HK := aM (keep_drew HK.o)
          replace HB := aM (below_drew1 HB.o)
          refine start_ (n := 11) (S := fun w' => w'.cell? ⟨gb127, 0, none⟩ = some (.int .i64 (wrap64 (1 + t124))) ∧ w'.cell? ⟨gb127, 1, none⟩ = some (u128001) ∧ w'.cell? ⟨gb127, 2, none⟩ = some (u128002)) (ds := []) (bm 11 0) (by kernel_rfl) rfl (bm0 _) ⟨bc0 BK127, bc1 BK127, bc2 BK127⟩ (fun hK4 => ?_); refine with_tabW spec_l13Draw.tab12 spec_l13Draw.bits12 (fun HT_ HW_ => ?_)
          generalize wr.drew = w27 at HO_128001 HO_128002 BK123 BK127 HI0 HK HB hK4 ⊢
          refine pW 0 33 11 1 HT_ rfl rfl ?_
          refine pW 1 34 11 3 HT_ rfl rfl ?_
          refine pW 2 35 11 7 HT_ rfl rfl ?_
          refine pW 4 37 11 23 HT_ rfl rfl ?_
          refine pW 5 38 11 55 HT_ rfl rfl ?_
          refine tW 6 39 11 119 HT_ HW_ rfl rfl hK4 ?_
          refine join_ (σ := Nat) 1 (bm 11 1023) (fun s_ => [(36, .int .i64 t146), (40, .int .i64 t149), (8, .pointer (some ⟨s_, 0, none⟩)), (41, .agg #[.int .i64 x4_1, .bool t128, .int .i64 t146, .int .i64 t149])]) (fun s_ w' => (w'.cell? ⟨gb127, 0, none⟩ = some (.int .i64 (wrap64 (1 + t124))) ∧ w'.cell? ⟨gb127, 1, none⟩ = some (u128001) ∧ w'.cell? ⟨gb127, 2, none⟩ = some (u128002)) ∧ (Kd.R Kd.bool 4 w' w.heap.size (fun _ => True) u128001 x128001_1) ∧ (Kd.R k46 46 w' w.heap.size (fun k_ => k_ ≠ s_) u128002 x128002_3) ∧ (w'.heap[gb123]? = some (.cells #[.int .i64 0, .slice none 0 0, .slice none 0 0] 27 (0, 0))) ∧ (w'.heap[gb127]? = some (.cells #[.int .i64 (wrap64 (1 + t124)), u128001, u128002] 27 (0, 0))) ∧ (w'.heap[s_]? = some (.cells #[.int .i64 0, .bool false, .int .i64 0, .int .i64 0] 46 (0, 0))) ∧ (w.heap.size ≤ s_) ∧ (w0.heap.size ≤ s_) ∧ (g ≠ s_) ∧ (s_ ≠ g) ∧ (gb123 ≠ s_) ∧ (s_ ≠ gb123) ∧ (gb127 ≠ s_) ∧ (s_ ≠ gb127) ∧ (IsS69 w0 w' g s0_0 t150 t151) ∧ (KeepBut w w' g none) ∧ (Below w0.heap.size w0 w')) ?_ ?_
          rotate_left
          ·intro hCont
           refine two_ (i := 3) (j := 9) (Ni := some 36) (Nj := some 8) (bm 11 127) (bm 11 631) rfl rfl rfl rfl (two_of HT_.o (by kernel_rfl)) (by decide) (by decide) (fun K hK => ?_) (fun K hK => ?_)
           ·skip
            refine goes_ Try.func33 (by kernel_rfl) rfl #[.pointer (some ⟨g, 0, none⟩), .int .i64 3] (by rfl) rfl rfl zG ?_
            with_reducible refine (spec_l1Below.calls g s0_0 x1001_3 x1002_3 3 t146 t147 t148 w0 _ ?s1 ?s2 A22.o).mono ?_
            (case s1 => exact spec_l13Draw.zI69 HI0)
            (case s2 => exact zB HB)
            rintro e w28 ⟨rfl, hi, hb, hk⟩
            refine ⟨_, rfl, ?_⟩
            replace HO_128001 := IsS69.kR HI0 HO_128001 hk
            replace HO_128002 := IsS69.kR HI0 HO_128002 hk
            replace BK123 := kbT hk BK123 NB123_0
            replace BK127 := kbT hk BK127 NB127_0
            replace HK := hkT HK hk
            replace HB := aM (hb)
            replace HI0 := aM (hi)
            (try clear hb); (try clear hb2); (try clear hk); (try clear hi)
            refine hK.out _ _ ⟨bc0 BK127, bc1 BK127, bc2 BK127⟩ (fun hK4 => ?_)
            clear hK K
            refine nU 36 ?_
            refine two_ (i := 7) (j := 9) (Ni := some 40) (Nj := some 8) (bm 11 255) (bm 11 639) rfl rfl rfl rfl (two_of HT_.o (by kernel_rfl)) (by decide) (by decide) (fun K hK => ?_) (fun K hK => ?_)
            ·skip
             refine goes_ Try.func33 (by kernel_rfl) rfl #[.pointer (some ⟨g, 0, none⟩), .int .i64 (wrap64 (1 + t124))] (by rfl) rfl rfl zG ?_
             with_reducible refine (spec_l1Below.calls g s0_0 t147 t148 (wrap64 (1 + t124)) t149 t150 t151 w0 _ ?s1 ?s2 A23.o).mono ?_
             (case s1 => exact spec_l13Draw.zI69 HI0)
             (case s2 => exact zB HB)
             rintro e w29 ⟨rfl, hi, hb, hk⟩
             refine ⟨_, rfl, ?_⟩
             replace HO_128001 := IsS69.kR HI0 HO_128001 hk
             replace HO_128002 := IsS69.kR HI0 HO_128002 hk
             replace BK123 := kbT hk BK123 NB123_0
             replace BK127 := kbT hk BK127 NB127_0
             replace HK := hkT HK hk
             replace HB := aM (hb)
             replace HI0 := aM (hi)
             (try clear hb); (try clear hb2); (try clear hk); (try clear hi)
             refine hK.out _ _ ⟨bc0 BK127, bc1 BK127, bc2 BK127⟩ (fun hK4 => ?_)
             clear hK K
             refine nU 40 ?_
             refine pW 8 41 11 511 HT_ rfl rfl ?_
             refine one_ (i := 9) (N := some 8) (bm 11 1023) rfl rfl (one_of HT_.o (by kernel_rfl)) (by decide) (fun K hK => ?_)
             refine box_step ?hg (N := 8) ?hd (cs := #[.int .i64 0, .bool false, .int .i64 0, .int .i64 0]) (t := 46) ?hr ?_; (case hd => rfl); (case hg => rfl); (case hr => first | (go_simp; done) | (go_simp; rfl))
             intro gb152 hg w30 hbox hb
             replace HO_128001 := aM (rW (zR HO_128001) hb)
             replace HO_128002 := aM (rW (Kd.R_elderB (zR HO_128002) gb152 (Nat.le_of_eq hg.symm)) hb)
             replace HB := bS HB hb
             have BK152 := aM (hbox)
             have GW152 := gK HK hg
             have GE152 := gL HW0 GW152
             replace HK := hkB HK hb
             have NB123_152 := nL BK123 hg
             have NB152_123 := nR BK123 hg
             replace BK123 := kB BK123 hb
             have NB127_152 := nL BK127 hg
             have NB152_127 := nR BK127 hg
             replace BK127 := kB BK127 hb
             have NB0_152 := IsS69.nL HI0 hg
             have NB152_0 := IsS69.nR HI0 hg
             replace HI0 := aM (IsS69.below (spec_l13Draw.zI69 HI0) hb)
             clear hb hbox hg
             refine hK.out _ _ ⟨bc0 BK127, bc1 BK127, bc2 BK127⟩ (fun hK4 => ?_)
             clear hK K
             refine nU 8 ?_
             exact norm_ (by simp only [putAll, Act.put, lA, lB, lC]) (hCont (gb152) _ ⟨hK4, (zR HO_128001), (by (with_reducible repeat (first | apply rA | apply rN | apply rD)); exact rM HO_128002.o (fun _ hk => hk.2)), (zK BK123), (zK BK127), (zK BK152), GW152.o, GE152.o, NB0_152.o, NB152_0.o, NB123_152.o, NB152_123.o, NB127_152.o, NB152_127.o, (spec_l13Draw.zI69 HI0), (zH HK), (zB HB)⟩)
            ·skip
             refine box_step ?hg (N := 8) ?hd (cs := #[.int .i64 0, .bool false, .int .i64 0, .int .i64 0]) (t := 46) ?hr ?_; (case hd => rfl); (case hg => rfl); (case hr => first | (go_simp; done) | (go_simp; rfl))
             intro gb152 hg w29 hbox hb
             replace HO_128001 := aM (rW (zR HO_128001) hb)
             replace HO_128002 := aM (rW (Kd.R_elderB (zR HO_128002) gb152 (Nat.le_of_eq hg.symm)) hb)
             replace HB := bS HB hb
             have BK152 := aM (hbox)
             have GW152 := gK HK hg
             have GE152 := gL HW0 GW152
             replace HK := hkB HK hb
             have NB123_152 := nL BK123 hg
             have NB152_123 := nR BK123 hg
             replace BK123 := kB BK123 hb
             have NB127_152 := nL BK127 hg
             have NB152_127 := nR BK127 hg
             replace BK127 := kB BK127 hb
             have NB0_152 := IsS69.nL HI0 hg
             have NB152_0 := IsS69.nR HI0 hg
             replace HI0 := aM (IsS69.below (spec_l13Draw.zI69 HI0) hb)
             clear hb hbox hg
             refine hK.out _ _ ⟨bc0 BK127, bc1 BK127, bc2 BK127⟩ (fun hK4 => ?_)
             clear hK K
             refine nU 8 ?_
             refine one_ (i := 7) (N := some 40) (bm 11 767) rfl rfl (one_of HT_.o (by kernel_rfl)) (by decide) (fun K hK => ?_)
             refine goes_ Try.func33 (by kernel_rfl) rfl #[.pointer (some ⟨g, 0, none⟩), .int .i64 (wrap64 (1 + t124))] (by rfl) rfl rfl zG ?_
             with_reducible refine (spec_l1Below.calls g s0_0 t147 t148 (wrap64 (1 + t124)) t149 t150 t151 w0 _ ?s1 ?s2 A23.o).mono ?_
             (case s1 => exact spec_l13Draw.zI69 HI0)
             (case s2 => exact zB HB)
             rintro e w30 ⟨rfl, hi, hb, hk⟩
             refine ⟨_, rfl, ?_⟩
             replace HO_128001 := IsS69.kR HI0 HO_128001 hk
             replace HO_128002 := IsS69.kR HI0 HO_128002 hk
             replace BK123 := kbT hk BK123 NB123_0
             replace BK127 := kbT hk BK127 NB127_0
             replace BK152 := kbT hk BK152 NB152_0
             replace HK := hkT HK hk
             replace HB := aM (hb)
             replace HI0 := aM (hi)
             (try clear hb); (try clear hb2); (try clear hk); (try clear hi)
             refine hK.out _ _ ⟨bc0 BK127, bc1 BK127, bc2 BK127⟩ (fun hK4 => ?_)
             clear hK K
             refine nU 40 ?_
             refine pW 8 41 11 1023 HT_ rfl rfl ?_
             exact norm_ (by simp only [putAll, Act.put, lA, lB, lC]) (hCont (gb152) _ ⟨hK4, (zR HO_128001), (by (with_reducible repeat (first | apply rA | apply rN | apply rD)); exact rM HO_128002.o (fun _ hk => hk.2)), (zK BK123), (zK BK127), (zK BK152), GW152.o, GE152.o, NB0_152.o, NB152_0.o, NB123_152.o, NB152_123.o, NB127_152.o, NB152_127.o, (spec_l13Draw.zI69 HI0), (zH HK), (zB HB)⟩)
           ·skip
            refine box_step ?hg (N := 8) ?hd (cs := #[.int .i64 0, .bool false, .int .i64 0, .int .i64 0]) (t := 46) ?hr ?_; (case hd => rfl); (case hg => rfl); (case hr => first | (go_simp; done) | (go_simp; rfl))
            intro gb152 hg w28 hbox hb
            replace HO_128001 := aM (rW (zR HO_128001) hb)
            replace HO_128002 := aM (rW (Kd.R_elderB (zR HO_128002) gb152 (Nat.le_of_eq hg.symm)) hb)
            replace HB := bS HB hb
            have BK152 := aM (hbox)
            have GW152 := gK HK hg
            have GE152 := gL HW0 GW152
            replace HK := hkB HK hb
            have NB123_152 := nL BK123 hg
            have NB152_123 := nR BK123 hg
            replace BK123 := kB BK123 hb
            have NB127_152 := nL BK127 hg
            have NB152_127 := nR BK127 hg
            replace BK127 := kB BK127 hb
            have NB0_152 := IsS69.nL HI0 hg
            have NB152_0 := IsS69.nR HI0 hg
            replace HI0 := aM (IsS69.below (spec_l13Draw.zI69 HI0) hb)
            clear hb hbox hg
            refine hK.out _ _ ⟨bc0 BK127, bc1 BK127, bc2 BK127⟩ (fun hK4 => ?_)
            clear hK K
            refine nU 8 ?_
            refine one_ (i := 3) (N := some 36) (bm 11 639) rfl rfl (one_of HT_.o (by kernel_rfl)) (by decide) (fun K hK => ?_)
            refine goes_ Try.func33 (by kernel_rfl) rfl #[.pointer (some ⟨g, 0, none⟩), .int .i64 3] (by rfl) rfl rfl zG ?_
            with_reducible refine (spec_l1Below.calls g s0_0 x1001_3 x1002_3 3 t146 t147 t148 w0 _ ?s1 ?s2 A22.o).mono ?_
            (case s1 => exact spec_l13Draw.zI69 HI0)
            (case s2 => exact zB HB)
            rintro e w29 ⟨rfl, hi, hb, hk⟩
            refine ⟨_, rfl, ?_⟩
            replace HO_128001 := IsS69.kR HI0 HO_128001 hk
            replace HO_128002 := IsS69.kR HI0 HO_128002 hk
            replace BK123 := kbT hk BK123 NB123_0
            replace BK127 := kbT hk BK127 NB127_0
            replace BK152 := kbT hk BK152 NB152_0
            replace HK := hkT HK hk
            replace HB := aM (hb)
            replace HI0 := aM (hi)
            (try clear hb); (try clear hb2); (try clear hk); (try clear hi)
            refine hK.out _ _ ⟨bc0 BK127, bc1 BK127, bc2 BK127⟩ (fun hK4 => ?_)
            clear hK K
            refine nU 36 ?_
            refine one_ (i := 7) (N := some 40) (bm 11 767) rfl rfl (one_of HT_.o (by kernel_rfl)) (by decide) (fun K hK => ?_)
            refine goes_ Try.func33 (by kernel_rfl) rfl #[.pointer (some ⟨g, 0, none⟩), .int .i64 (wrap64 (1 + t124))] (by rfl) rfl rfl zG ?_
            with_reducible refine (spec_l1Below.calls g s0_0 t147 t148 (wrap64 (1 + t124)) t149 t150 t151 w0 _ ?s1 ?s2 A23.o).mono ?_
            (case s1 => exact spec_l13Draw.zI69 HI0)
            (case s2 => exact zB HB)
            rintro e w30 ⟨rfl, hi, hb, hk⟩
            refine ⟨_, rfl, ?_⟩
            replace HO_128001 := IsS69.kR HI0 HO_128001 hk
            replace HO_128002 := IsS69.kR HI0 HO_128002 hk
            replace BK123 := kbT hk BK123 NB123_0
            replace BK127 := kbT hk BK127 NB127_0
            replace BK152 := kbT hk BK152 NB152_0
            replace HK := hkT HK hk
            replace HB := aM (hb)
            replace HI0 := aM (hi)
            (try clear hb); (try clear hb2); (try clear hk); (try clear hi)
            refine hK.out _ _ ⟨bc0 BK127, bc1 BK127, bc2 BK127⟩ (fun hK4 => ?_)
            clear hK K
            refine nU 40 ?_
            refine pW 8 41 11 1023 HT_ rfl rfl ?_
            exact norm_ (by simp only [putAll, Act.put, lA, lB, lC]) (hCont (gb152) _ ⟨hK4, (zR HO_128001), (by (with_reducible repeat (first | apply rA | apply rN | apply rD)); exact rM HO_128002.o (fun _ hk => hk.2)), (zK BK123), (zK BK127), (zK BK152), GW152.o, GE152.o, NB0_152.o, NB152_0.o, NB123_152.o, NB152_123.o, NB127_152.o, NB152_127.o, (spec_l13Draw.zI69 HI0), (zH HK), (zB HB)⟩)
          rintro gb152 w31 ⟨hS_, h0_, h1_, h2_, h3_, h4_, h5_, h6_, h7_, h8_, h9_, h10_, h11_, h12_, h13_, h14_, h15_⟩
          replace HO_128001 : Aside0 (Kd.R Kd.bool 4 w31 w.heap.size (fun _ => True) u128001 x128001_1) := ⟨h0_⟩
          replace HO_128002 : Aside0 (Kd.R k46 46 w31 w.heap.size (fun k_ => k_ ≠ gb152) u128002 x128002_3) := ⟨h1_⟩
          replace BK123 : Aside0 (w31.heap[gb123]? = some (.cells #[.int .i64 0, .slice none 0 0, .slice none 0 0] 27 (0, 0))) := ⟨h2_⟩
          replace BK127 : Aside0 (w31.heap[gb127]? = some (.cells #[.int .i64 (wrap64 (1 + t124)), u128001, u128002] 27 (0, 0))) := ⟨h3_⟩
          have BK152 : Aside0 (w31.heap[gb152]? = some (.cells #[.int .i64 0, .bool false, .int .i64 0, .int .i64 0] 46 (0, 0))) := ⟨h4_⟩
          have GW152 : Aside0 (w.heap.size ≤ gb152) := ⟨h5_⟩
          have GE152 : Aside0 (w0.heap.size ≤ gb152) := ⟨h6_⟩
          have NB0_152 : Aside0 (g ≠ gb152) := ⟨h7_⟩
          have NB152_0 : Aside0 (gb152 ≠ g) := ⟨h8_⟩
          have NB123_152 : Aside0 (gb123 ≠ gb152) := ⟨h9_⟩
          have NB152_123 : Aside0 (gb152 ≠ gb123) := ⟨h10_⟩
          have NB127_152 : Aside0 (gb127 ≠ gb152) := ⟨h11_⟩
          have NB152_127 : Aside0 (gb152 ≠ gb127) := ⟨h12_⟩
          replace HI0 : Aside0 (IsS69 w0 w31 g s0_0 t150 t151) := ⟨h13_⟩
          replace HK : Aside0 (KeepBut w w31 g none) := ⟨h14_⟩
          replace HB : Aside0 (Below w0.heap.size w0 w31) := ⟨h15_⟩
          clear h0_ h1_ h2_ h3_ h4_ h5_ h6_ h7_ h8_ h9_ h10_ h11_ h12_ h13_ h14_ h15_
          have hK4 : w31.cell? ⟨gb127, 0, none⟩ = some (.int .i64 (wrap64 (1 + t124))) ∧ w31.cell? ⟨gb127, 1, none⟩ = some (u128001) ∧ w31.cell? ⟨gb127, 2, none⟩ = some (u128002) := hS_
          refine norm_ (a' := ?_) ?_ ?_
          rotate_left
          ·simp only [putAll, Act.put, lA, lB, lC]
           rfl
          refine one_ (i := 10) (N := none) (bm 11 2047) rfl rfl (one_of HT_.o (by kernel_rfl)) (by decide) (fun K hK => ?_)
          have hs32 : w31.cell? ⟨gb152, 0, none⟩ = some (.int .i64 0) := bc0 BK152
          have hfs32 := bf BK152 0
          have hns32_0 := NB123_152.o
          have hns32_1 := NB127_152.o
          have hms32_0 := NB152_123.o
          have hms32_1 := NB152_127.o
          have hs33 : w31.cell? ⟨gb152, 1, none⟩ = some (.bool false) := bc1 BK152
          have hfs33 := bf BK152 1
          have hns33_0 := NB123_152.o
          have hns33_1 := NB127_152.o
          have hms33_0 := NB152_123.o
          have hms33_1 := NB152_127.o
          have hs34 : w31.cell? ⟨gb152, 2, none⟩ = some (.int .i64 0) := bc2 BK152
          have hfs34 := bf BK152 2
          have hns34_0 := NB123_152.o
          have hns34_1 := NB127_152.o
          have hms34_0 := NB152_123.o
          have hms34_1 := NB152_127.o
          have hs35 : w31.cell? ⟨gb152, 3, none⟩ = some (.int .i64 0) := bc3 BK152
          have hfs35 := bf BK152 3
          have hns35_0 := NB123_152.o
          have hns35_1 := NB127_152.o
          have hms35_0 := NB152_123.o
          have hms35_1 := NB152_127.o
          refine skip_ (w1 := ?_) (by rfl) rfl ?_ ?_
          rotate_left
          ·go_simp
           rfl
          refine hK.out _ _ ⟨((cF (p := ⟨gb152, _, none⟩) NB127_152.o _).trans (((cF (p := ⟨gb152, _, none⟩) NB127_152.o _).trans (((cF (p := ⟨gb152, _, none⟩) NB127_152.o _).trans (((cF (p := ⟨gb152, _, none⟩) NB127_152.o _).trans (hK4.1)))))))), ((cF (p := ⟨gb152, _, none⟩) NB127_152.o _).trans (((cF (p := ⟨gb152, _, none⟩) NB127_152.o _).trans (((cF (p := ⟨gb152, _, none⟩) NB127_152.o _).trans (((cF (p := ⟨gb152, _, none⟩) NB127_152.o _).trans (hK4.2.1)))))))), ((cF (p := ⟨gb152, _, none⟩) NB127_152.o _).trans (((cF (p := ⟨gb152, _, none⟩) NB127_152.o _).trans (((cF (p := ⟨gb152, _, none⟩) NB127_152.o _).trans (((cF (p := ⟨gb152, _, none⟩) NB127_152.o _).trans (hK4.2.2))))))))⟩ (fun hK4 => ?_)
          clear hK K
          refine done_ (done_of HT_.o (by kernel_rfl)) ?_
          try clear hK4
          have n0_ : Aside0 (Kd.R Kd.bool 4 ((((w31.setCell ⟨gb152, 0, none⟩ (.int .i64 x4_1)).setCell ⟨gb152, 1, none⟩ (.bool t128)).setCell ⟨gb152, 2, none⟩ (.int .i64 t146)).setCell ⟨gb152, 3, none⟩ (.int .i64 t149)) w.heap.size (fun _ => True) u128001 x128001_1) := ⟨rM (rB HO_128001 BK152) (fun _ hk => trivial)⟩
          have n1_ : Aside0 (Kd.R k46 46 ((((w31.setCell ⟨gb152, 0, none⟩ (.int .i64 x4_1)).setCell ⟨gb152, 1, none⟩ (.bool t128)).setCell ⟨gb152, 2, none⟩ (.int .i64 t146)).setCell ⟨gb152, 3, none⟩ (.int .i64 t149)) w.heap.size (fun k_ => k_ ≠ gb152) u128002 x128002_3) := ⟨by (with_reducible repeat (first | apply rA | apply rN | apply rD)); exact rM (Kd.R_far (p := ⟨gb152, 3, none⟩) (Kd.R_far (p := ⟨gb152, 2, none⟩) (Kd.R_far (p := ⟨gb152, 1, none⟩) (Kd.R_far (p := ⟨gb152, 0, none⟩) (rM HO_128002.o (fun k_ hk => (⟨hk, hk⟩ : _ ∧ k_ ≠ gb152))) (fun _ hk => hk.2) (.int .i64 x4_1)) (fun _ hk => hk.2) (.bool t128)) (fun _ hk => hk.2) (.int .i64 t146)) (fun _ hk => hk.2) (.int .i64 t149)) (fun _ hk => hk.1)⟩
          have n2_ : Aside0 (((((w31.setCell ⟨gb152, 0, none⟩ (.int .i64 x4_1)).setCell ⟨gb152, 1, none⟩ (.bool t128)).setCell ⟨gb152, 2, none⟩ (.int .i64 t146)).setCell ⟨gb152, 3, none⟩ (.int .i64 t149)).heap[gb123]? = some (.cells #[.int .i64 0, .slice none 0 0, .slice none 0 0] 27 (0, 0))) := ⟨kF BK123⟩
          have n3_ : Aside0 (((((w31.setCell ⟨gb152, 0, none⟩ (.int .i64 x4_1)).setCell ⟨gb152, 1, none⟩ (.bool t128)).setCell ⟨gb152, 2, none⟩ (.int .i64 t146)).setCell ⟨gb152, 3, none⟩ (.int .i64 t149)).heap[gb127]? = some (.cells #[.int .i64 (wrap64 (1 + t124)), u128001, u128002] 27 (0, 0))) := ⟨kF BK127⟩
          have n4_ : Aside0 (((((w31.setCell ⟨gb152, 0, none⟩ (.int .i64 x4_1)).setCell ⟨gb152, 1, none⟩ (.bool t128)).setCell ⟨gb152, 2, none⟩ (.int .i64 t146)).setCell ⟨gb152, 3, none⟩ (.int .i64 t149)).heap[gb152]? = some (.cells #[.int .i64 x4_1, .bool t128, .int .i64 t146, .int .i64 t149] 46 (0, 0))) := ⟨by (with_reducible repeat (first | apply bN | apply bD | apply bA)); refine bP (cs := #[.int .i64 x4_1, .bool t128, .int .i64 t146, .int .i64 0]) ?_ 3 _ rfl; (with_reducible repeat (first | apply bN | apply bD | apply bA)); refine bP (cs := #[.int .i64 x4_1, .bool t128, .int .i64 0, .int .i64 0]) ?_ 2 _ rfl; (with_reducible repeat (first | apply bN | apply bD | apply bA)); refine bP (cs := #[.int .i64 x4_1, .bool false, .int .i64 0, .int .i64 0]) ?_ 1 _ rfl; (with_reducible repeat (first | apply bN | apply bD | apply bA)); refine bP (cs := #[.int .i64 0, .bool false, .int .i64 0, .int .i64 0]) ?_ 0 _ rfl; (with_reducible repeat (first | apply bN | apply bD | apply bA)); exact BK152.o⟩
          have n5_ : Aside0 (IsS69 w0 ((((w31.setCell ⟨gb152, 0, none⟩ (.int .i64 x4_1)).setCell ⟨gb152, 1, none⟩ (.bool t128)).setCell ⟨gb152, 2, none⟩ (.int .i64 t146)).setCell ⟨gb152, 3, none⟩ (.int .i64 t149)) g s0_0 t150 t151) := ⟨spec_l13Draw.zI69 HI0⟩
          have n6_ : Aside0 (KeepBut w ((((w31.setCell ⟨gb152, 0, none⟩ (.int .i64 x4_1)).setCell ⟨gb152, 1, none⟩ (.bool t128)).setCell ⟨gb152, 2, none⟩ (.int .i64 t146)).setCell ⟨gb152, 3, none⟩ (.int .i64 t149)) g none) := ⟨zH HK⟩
          have n7_ : Aside0 (Below w0.heap.size w0 ((((w31.setCell ⟨gb152, 0, none⟩ (.int .i64 x4_1)).setCell ⟨gb152, 1, none⟩ (.bool t128)).setCell ⟨gb152, 2, none⟩ (.int .i64 t146)).setCell ⟨gb152, 3, none⟩ (.int .i64 t149))) := ⟨zB HB⟩
          (try clear HO_128001); (try clear HO_128002); (try clear BK123); (try clear BK127); (try clear BK152); (try clear HI0); (try clear HK); (try clear HB)
          generalize ((((w31.setCell ⟨gb152, 0, none⟩ (.int .i64 x4_1)).setCell ⟨gb152, 1, none⟩ (.bool t128)).setCell ⟨gb152, 2, none⟩ (.int .i64 t146)).setCell ⟨gb152, 3, none⟩ (.int .i64 t149)) = w36 at n0_ n1_ n2_ n3_ n4_ n5_ n6_ n7_ ⊢
          have HO_128001 := n0_
          have HO_128002 := n1_
          have BK123 := n2_
          have BK127 := n3_
          have BK152 := n4_
          have HI0 := n5_
          have HK := n6_
          have HB := n7_
          clear n0_ n1_ n2_ n3_ n4_ n5_ n6_ n7_
          have hnb37 := NB127_123.o
          have hnc37 := NB123_127.o
          have hnb38 := NB127_152.o
          have hnc38 := NB152_127.o
          have hnb39 := NB127_0.o
          have hnc39 := NB0_127.o
          obtain ⟨z40_0, z40_1, z40_2, f40_0, f40_1, f40_2⟩ := bq3 BK127
          have hnb41 := NB152_123.o
          have hnc41 := NB123_152.o
          have hnb42 := NB152_0.o
          have hnc42 := NB0_152.o
          obtain ⟨z43_0, z43_1, z43_2, z43_3, f43_0, f43_1, f43_2, f43_3⟩ := bq4 BK152
          obtain ⟨Ao44, co44, eo44⟩ := rL HO_128001.o
          subst eo44
          obtain ⟨Ao45, co45, eo45⟩ := rL HO_128002.o
          subst eo45
          try go_wp2_with (first | ((with_reducible refine gC (f := 24) rfl ?_); refine goesL_ (some 47) rfl rfl Try.func24 (by kernel_rfl) rfl #[.agg #[.int .i64 (wrap64 (1 + t124)), .slice Ao44 x128001_1.length co44, .slice Ao45 x128002_3.length co45], .int .i64 x4_1, .bool t128, .int .i64 t146] rfl zG ?_; (with_reducible refine (spec_MoveOf.calls k3 (wrap64 (1 + t124)) _ _ x128001_1 _ _ x128002_3 x4_1 t128 t146 t153 _ ?s1 ?s2 ?s3 ?s4 A24.o).mono ?_); (case s1 => exact cU (rQ HO_128001.o).2.2); (case s2 => exact (rQ HO_128001.o).2.1); (case s3 => exact cU (rQ HO_128002.o).2.2); (case s4 => exact (rQ HO_128002.o).2.1); rintro e w46 ⟨rfl, hb⟩; refine ⟨_, rfl, ?_⟩; replace HO_128001 := aM (rW (zR HO_128001) hb); replace HO_128002 := aM (rW (zR HO_128002) hb); replace BK123 := kB BK123 hb; replace BK127 := kB BK127 hb; replace BK152 := kB BK152 hb; replace HK := hkB HK hb; replace HB := bS HB hb; replace HI0 := aM (IsS69.below (spec_l13Draw.zI69 HI0) hb); (try clear hb); obtain ⟨z47_0, z47_1, z47_2, f47_0, f47_1, f47_2⟩ := bq3 BK127; obtain ⟨z48_0, z48_1, z48_2, z48_3, f48_0, f48_1, f48_2, f48_3⟩ := bq4 BK152) | ((with_reducible refine gate_builtin (b := .append) (xs := #[.tmp 50, .tmp 52]) rfl ?_); at_builtin; refine Kd.R_append k46 w.heap.size rfl (.tmp 50) (.tmp 52) 25 46 (.agg #[(.int .i64 0), (.bool false), (.int .i64 0), (.int .i64 0)]) 32 rfl Try.underlying25 info46 rfl (by decide) (by omega) (.slice Ao45 x128002_3.length co45) x128002_3 (⟨x4_1, t128, t146, t149⟩ : S46) [.int .i64 x4_1, .bool t128, .int .i64 t146, .int .i64 t149] (fun k_ => k_ ≠ gb152) (fun _ => False) rfl rfl ?aP (fun _ hk => hk.elim) ?aF ?aO (Below.refl _ _) ?aS ?aL ?_; (case aP => exact k46_mkM _ _ _ (⟨x4_1, t128, t146, t149⟩ : S46)); (case aF => exact (fun k_ hk => Kd.freshB (g := gb152) (o := .cells #[.int .i64 x4_1, .bool t128, .int .i64 t146, .int .i64 t149] 46 (0, 0)) (zK BK152) k_ hk)); (case aO => exact (zR HO_128002)); (case aS => exact (keep_size (w := w) (g := g) (row := none) (zH HK))); (case aL => have := LMc26.o; omega); intro v155 w49 ho hb hg hat; rw [← Ny154.o] at ho; replace HO_128001 := aM (Kd.R_over' (zR HO_128001) (Kd.R_typed (zR HO_128002)) (by decide) hg); replace BK123 := aM (blk_grown (g := gb123) (o := .cells #[.int .i64 0, .slice none 0 0, .slice none 0 0] 27 (0, 0)) (zK BK123) hg (Kd.R_ne HO_128002.o BK123.o (by decide))); replace BK127 := aM (blk_grown (g := gb127) (o := .cells #[.int .i64 (wrap64 (1 + t124)), .slice Ao44 x128001_1.length co44, .slice Ao45 x128002_3.length co45] 27 (0, 0)) (zK BK127) hg (Kd.R_ne HO_128002.o BK127.o (by decide))); replace BK152 := aM (blk_grown (g := gb152) (o := .cells #[.int .i64 x4_1, .bool t128, .int .i64 t146, .int .i64 t149] 46 (0, 0)) (zK BK152) hg (Kd.R_away HO_128002.o (fun _ hk => hk))); replace HB := aM (below_weaken (zB HB) HL.o hb); replace HI0 := aM (IsS69.grown (spec_l13Draw.zI69 HI0) hg (IsS69.own_ne HI0.o HO_128002.o (by decide))); replace HK := aM (KeepBut.trans (zH HK) (KeepBut.of_grown hg g) (Kd.R_base2 HO_128002.o)); have HO156 := aM (ho); clear HO_128002; clear ho hb hg hat; obtain ⟨Ao50, co50, eo50⟩ := rL HO156.o; subst eo50; obtain ⟨z51_0, z51_1, z51_2, f51_0, f51_1, f51_2⟩ := bq3 BK127))
          go_roundg k3
          case measure => have := HK1.o; have := HJ11.o; have := HK3.o; omega
          case rel => exact ⟨(wrap64 (x7_3 + 1)), (t150), (t151), (y154), (.slice Ao50 y154.length co50), zF, H', ⟨by have := HK1.o; have := HJ11.o; have := HK3.o; omega⟩, ⟨rM (rB HO_128001 BK127) (fun _ hk => trivial)⟩, ⟨rM (rB HO156 BK127) (fun _ hk => trivial)⟩, ⟨kF BK123⟩, ⟨by (with_reducible repeat (first | apply bN | apply bD | apply bA)); refine bP (cs := #[.int .i64 (wrap64 (1 + t124)), .slice Ao44 x128001_1.length co44, .slice Ao45 x128002_3.length co45]) ?_ 2 _ rfl; (with_reducible repeat (first | apply bN | apply bD | apply bA)); exact BK127.o⟩, ⟨spec_l13Draw.zI69 HI0⟩, ⟨zH HK⟩, ⟨zB HB⟩⟩
         ·rw [if_neg c25] at H
          have c25b0 : decide (t153 < 0) = false := decide_eq_false c25
          clear c25
          have H' := aM H
          clear H
          try go_wp2
          replace HO_128001 := aM (rD HO_128001.o)
          replace HO_128002 := aM (rD HO_128002.o)
          replace BK123 := aM (bD BK123.o)
          replace BK127 := aM (bD BK127.o)
          replace HI0 := aM (IsS69.drew HI0.o)
          replace HK := aM (keep_drew HK.o)
          replace HB := aM (below_drew1 HB.o)
          refine start_ (n := 11) (S := fun w' => w'.cell? ⟨gb127, 0, none⟩ = some (.int .i64 (wrap64 (1 + t124))) ∧ w'.cell? ⟨gb127, 1, none⟩ = some (u128001) ∧ w'.cell? ⟨gb127, 2, none⟩ = some (u128002)) (ds := []) (bm 11 0) (by kernel_rfl) rfl (bm0 _) ⟨bc0 BK127, bc1 BK127, bc2 BK127⟩ (fun hK4 => ?_); refine with_tabW spec_l13Draw.tab12 spec_l13Draw.bits12 (fun HT_ HW_ => ?_)
          generalize wr.drew = w52 at HO_128001 HO_128002 BK123 BK127 HI0 HK HB hK4 ⊢
          refine pW 0 33 11 1 HT_ rfl rfl ?_
          refine pW 1 34 11 3 HT_ rfl rfl ?_
          refine pW 2 35 11 7 HT_ rfl rfl ?_
          refine pW 4 37 11 23 HT_ rfl rfl ?_
          refine pW 5 38 11 55 HT_ rfl rfl ?_
          refine tW 6 39 11 119 HT_ HW_ rfl rfl hK4 ?_
          refine join_ (σ := Nat) 1 (bm 11 1023) (fun s_ => [(36, .int .i64 t146), (40, .int .i64 t149), (8, .pointer (some ⟨s_, 0, none⟩)), (41, .agg #[.int .i64 x4_1, .bool t128, .int .i64 t146, .int .i64 t149])]) (fun s_ w' => (w'.cell? ⟨gb127, 0, none⟩ = some (.int .i64 (wrap64 (1 + t124))) ∧ w'.cell? ⟨gb127, 1, none⟩ = some (u128001) ∧ w'.cell? ⟨gb127, 2, none⟩ = some (u128002)) ∧ (Kd.R Kd.bool 4 w' w.heap.size (fun _ => True) u128001 x128001_1) ∧ (Kd.R k46 46 w' w.heap.size (fun k_ => k_ ≠ s_) u128002 x128002_3) ∧ (w'.heap[gb123]? = some (.cells #[.int .i64 0, .slice none 0 0, .slice none 0 0] 27 (0, 0))) ∧ (w'.heap[gb127]? = some (.cells #[.int .i64 (wrap64 (1 + t124)), u128001, u128002] 27 (0, 0))) ∧ (w'.heap[s_]? = some (.cells #[.int .i64 0, .bool false, .int .i64 0, .int .i64 0] 46 (0, 0))) ∧ (w.heap.size ≤ s_) ∧ (w0.heap.size ≤ s_) ∧ (g ≠ s_) ∧ (s_ ≠ g) ∧ (gb123 ≠ s_) ∧ (s_ ≠ gb123) ∧ (gb127 ≠ s_) ∧ (s_ ≠ gb127) ∧ (IsS69 w0 w' g s0_0 t150 t151) ∧ (KeepBut w w' g none) ∧ (Below w0.heap.size w0 w')) ?_ ?_
          rotate_left
          ·intro hCont
           refine two_ (i := 3) (j := 9) (Ni := some 36) (Nj := some 8) (bm 11 127) (bm 11 631) rfl rfl rfl rfl (two_of HT_.o (by kernel_rfl)) (by decide) (by decide) (fun K hK => ?_) (fun K hK => ?_)
           ·skip
            refine goes_ Try.func33 (by kernel_rfl) rfl #[.pointer (some ⟨g, 0, none⟩), .int .i64 3] (by rfl) rfl rfl zG ?_
            with_reducible refine (spec_l1Below.calls g s0_0 x1001_3 x1002_3 3 t146 t147 t148 w0 _ ?s1 ?s2 A22.o).mono ?_
            (case s1 => exact spec_l13Draw.zI69 HI0)
            (case s2 => exact zB HB)
            rintro e w53 ⟨rfl, hi, hb, hk⟩
            refine ⟨_, rfl, ?_⟩
            replace HO_128001 := IsS69.kR HI0 HO_128001 hk
            replace HO_128002 := IsS69.kR HI0 HO_128002 hk
            replace BK123 := kbT hk BK123 NB123_0
            replace BK127 := kbT hk BK127 NB127_0
            replace HK := hkT HK hk
            replace HB := aM (hb)
            replace HI0 := aM (hi)
            (try clear hb); (try clear hb2); (try clear hk); (try clear hi)
            refine hK.out _ _ ⟨bc0 BK127, bc1 BK127, bc2 BK127⟩ (fun hK4 => ?_)
            clear hK K
            refine nU 36 ?_
            refine two_ (i := 7) (j := 9) (Ni := some 40) (Nj := some 8) (bm 11 255) (bm 11 639) rfl rfl rfl rfl (two_of HT_.o (by kernel_rfl)) (by decide) (by decide) (fun K hK => ?_) (fun K hK => ?_)
            ·skip
             refine goes_ Try.func33 (by kernel_rfl) rfl #[.pointer (some ⟨g, 0, none⟩), .int .i64 (wrap64 (1 + t124))] (by rfl) rfl rfl zG ?_
             with_reducible refine (spec_l1Below.calls g s0_0 t147 t148 (wrap64 (1 + t124)) t149 t150 t151 w0 _ ?s1 ?s2 A23.o).mono ?_
             (case s1 => exact spec_l13Draw.zI69 HI0)
             (case s2 => exact zB HB)
             rintro e w54 ⟨rfl, hi, hb, hk⟩
             refine ⟨_, rfl, ?_⟩
             replace HO_128001 := IsS69.kR HI0 HO_128001 hk
             replace HO_128002 := IsS69.kR HI0 HO_128002 hk
             replace BK123 := kbT hk BK123 NB123_0
             replace BK127 := kbT hk BK127 NB127_0
             replace HK := hkT HK hk
             replace HB := aM (hb)
             replace HI0 := aM (hi)
             (try clear hb); (try clear hb2); (try clear hk); (try clear hi)
             refine hK.out _ _ ⟨bc0 BK127, bc1 BK127, bc2 BK127⟩ (fun hK4 => ?_)
             clear hK K
             refine nU 40 ?_
             refine pW 8 41 11 511 HT_ rfl rfl ?_
             refine one_ (i := 9) (N := some 8) (bm 11 1023) rfl rfl (one_of HT_.o (by kernel_rfl)) (by decide) (fun K hK => ?_)
             refine box_step ?hg (N := 8) ?hd (cs := #[.int .i64 0, .bool false, .int .i64 0, .int .i64 0]) (t := 46) ?hr ?_; (case hd => rfl); (case hg => rfl); (case hr => first | (go_simp; done) | (go_simp; rfl))
             intro gb152 hg w55 hbox hb
             replace HO_128001 := aM (rW (zR HO_128001) hb)
             replace HO_128002 := aM (rW (Kd.R_elderB (zR HO_128002) gb152 (Nat.le_of_eq hg.symm)) hb)
             replace HB := bS HB hb
             have BK152 := aM (hbox)
             have GW152 := gK HK hg
             have GE152 := gL HW0 GW152
             replace HK := hkB HK hb
             have NB123_152 := nL BK123 hg
             have NB152_123 := nR BK123 hg
             replace BK123 := kB BK123 hb
             have NB127_152 := nL BK127 hg
             have NB152_127 := nR BK127 hg
             replace BK127 := kB BK127 hb
             have NB0_152 := IsS69.nL HI0 hg
             have NB152_0 := IsS69.nR HI0 hg
             replace HI0 := aM (IsS69.below (spec_l13Draw.zI69 HI0) hb)
             clear hb hbox hg
             refine hK.out _ _ ⟨bc0 BK127, bc1 BK127, bc2 BK127⟩ (fun hK4 => ?_)
             clear hK K
             refine nU 8 ?_
             exact norm_ (by simp only [putAll, Act.put, lA, lB, lC]) (hCont (gb152) _ ⟨hK4, (zR HO_128001), (by (with_reducible repeat (first | apply rA | apply rN | apply rD)); exact rM HO_128002.o (fun _ hk => hk.2)), (zK BK123), (zK BK127), (zK BK152), GW152.o, GE152.o, NB0_152.o, NB152_0.o, NB123_152.o, NB152_123.o, NB127_152.o, NB152_127.o, (spec_l13Draw.zI69 HI0), (zH HK), (zB HB)⟩)
            ·skip
             refine box_step ?hg (N := 8) ?hd (cs := #[.int .i64 0, .bool false, .int .i64 0, .int .i64 0]) (t := 46) ?hr ?_; (case hd => rfl); (case hg => rfl); (case hr => first | (go_simp; done) | (go_simp; rfl))
             intro gb152 hg w54 hbox hb
             replace HO_128001 := aM (rW (zR HO_128001) hb)
             replace HO_128002 := aM (rW (Kd.R_elderB (zR HO_128002) gb152 (Nat.le_of_eq hg.symm)) hb)
             replace HB := bS HB hb
             have BK152 := aM (hbox)
             have GW152 := gK HK hg
             have GE152 := gL HW0 GW152
             replace HK := hkB HK hb
             have NB123_152 := nL BK123 hg
             have NB152_123 := nR BK123 hg
             replace BK123 := kB BK123 hb
             have NB127_152 := nL BK127 hg
             have NB152_127 := nR BK127 hg
             replace BK127 := kB BK127 hb
             have NB0_152 := IsS69.nL HI0 hg
             have NB152_0 := IsS69.nR HI0 hg
             replace HI0 := aM (IsS69.below (spec_l13Draw.zI69 HI0) hb)
             clear hb hbox hg
             refine hK.out _ _ ⟨bc0 BK127, bc1 BK127, bc2 BK127⟩ (fun hK4 => ?_)
             clear hK K
             refine nU 8 ?_
             refine one_ (i := 7) (N := some 40) (bm 11 767) rfl rfl (one_of HT_.o (by kernel_rfl)) (by decide) (fun K hK => ?_)
             refine goes_ Try.func33 (by kernel_rfl) rfl #[.pointer (some ⟨g, 0, none⟩), .int .i64 (wrap64 (1 + t124))] (by rfl) rfl rfl zG ?_
             with_reducible refine (spec_l1Below.calls g s0_0 t147 t148 (wrap64 (1 + t124)) t149 t150 t151 w0 _ ?s1 ?s2 A23.o).mono ?_
             (case s1 => exact spec_l13Draw.zI69 HI0)
             (case s2 => exact zB HB)
             rintro e w55 ⟨rfl, hi, hb, hk⟩
             refine ⟨_, rfl, ?_⟩
             replace HO_128001 := IsS69.kR HI0 HO_128001 hk
             replace HO_128002 := IsS69.kR HI0 HO_128002 hk
             replace BK123 := kbT hk BK123 NB123_0
             replace BK127 := kbT hk BK127 NB127_0
             replace BK152 := kbT hk BK152 NB152_0
             replace HK := hkT HK hk
             replace HB := aM (hb)
             replace HI0 := aM (hi)
             (try clear hb); (try clear hb2); (try clear hk); (try clear hi)
             refine hK.out _ _ ⟨bc0 BK127, bc1 BK127, bc2 BK127⟩ (fun hK4 => ?_)
             clear hK K
             refine nU 40 ?_
             refine pW 8 41 11 1023 HT_ rfl rfl ?_
             exact norm_ (by simp only [putAll, Act.put, lA, lB, lC]) (hCont (gb152) _ ⟨hK4, (zR HO_128001), (by (with_reducible repeat (first | apply rA | apply rN | apply rD)); exact rM HO_128002.o (fun _ hk => hk.2)), (zK BK123), (zK BK127), (zK BK152), GW152.o, GE152.o, NB0_152.o, NB152_0.o, NB123_152.o, NB152_123.o, NB127_152.o, NB152_127.o, (spec_l13Draw.zI69 HI0), (zH HK), (zB HB)⟩)
           ·skip
            refine box_step ?hg (N := 8) ?hd (cs := #[.int .i64 0, .bool false, .int .i64 0, .int .i64 0]) (t := 46) ?hr ?_; (case hd => rfl); (case hg => rfl); (case hr => first | (go_simp; done) | (go_simp; rfl))
            intro gb152 hg w53 hbox hb
            replace HO_128001 := aM (rW (zR HO_128001) hb)
            replace HO_128002 := aM (rW (Kd.R_elderB (zR HO_128002) gb152 (Nat.le_of_eq hg.symm)) hb)
            replace HB := bS HB hb
            have BK152 := aM (hbox)
            have GW152 := gK HK hg
            have GE152 := gL HW0 GW152
            replace HK := hkB HK hb
            have NB123_152 := nL BK123 hg
            have NB152_123 := nR BK123 hg
            replace BK123 := kB BK123 hb
            have NB127_152 := nL BK127 hg
            have NB152_127 := nR BK127 hg
            replace BK127 := kB BK127 hb
            have NB0_152 := IsS69.nL HI0 hg
            have NB152_0 := IsS69.nR HI0 hg
            replace HI0 := aM (IsS69.below (spec_l13Draw.zI69 HI0) hb)
            clear hb hbox hg
            refine hK.out _ _ ⟨bc0 BK127, bc1 BK127, bc2 BK127⟩ (fun hK4 => ?_)
            clear hK K
            refine nU 8 ?_
            refine one_ (i := 3) (N := some 36) (bm 11 639) rfl rfl (one_of HT_.o (by kernel_rfl)) (by decide) (fun K hK => ?_)
            refine goes_ Try.func33 (by kernel_rfl) rfl #[.pointer (some ⟨g, 0, none⟩), .int .i64 3] (by rfl) rfl rfl zG ?_
            with_reducible refine (spec_l1Below.calls g s0_0 x1001_3 x1002_3 3 t146 t147 t148 w0 _ ?s1 ?s2 A22.o).mono ?_
            (case s1 => exact spec_l13Draw.zI69 HI0)
            (case s2 => exact zB HB)
            rintro e w54 ⟨rfl, hi, hb, hk⟩
            refine ⟨_, rfl, ?_⟩
            replace HO_128001 := IsS69.kR HI0 HO_128001 hk
            replace HO_128002 := IsS69.kR HI0 HO_128002 hk
            replace BK123 := kbT hk BK123 NB123_0
            replace BK127 := kbT hk BK127 NB127_0
            replace BK152 := kbT hk BK152 NB152_0
            replace HK := hkT HK hk
            replace HB := aM (hb)
            replace HI0 := aM (hi)
            (try clear hb); (try clear hb2); (try clear hk); (try clear hi)
            refine hK.out _ _ ⟨bc0 BK127, bc1 BK127, bc2 BK127⟩ (fun hK4 => ?_)
            clear hK K
            refine nU 36 ?_
            refine one_ (i := 7) (N := some 40) (bm 11 767) rfl rfl (one_of HT_.o (by kernel_rfl)) (by decide) (fun K hK => ?_)
            refine goes_ Try.func33 (by kernel_rfl) rfl #[.pointer (some ⟨g, 0, none⟩), .int .i64 (wrap64 (1 + t124))] (by rfl) rfl rfl zG ?_
            with_reducible refine (spec_l1Below.calls g s0_0 t147 t148 (wrap64 (1 + t124)) t149 t150 t151 w0 _ ?s1 ?s2 A23.o).mono ?_
            (case s1 => exact spec_l13Draw.zI69 HI0)
            (case s2 => exact zB HB)
            rintro e w55 ⟨rfl, hi, hb, hk⟩
            refine ⟨_, rfl, ?_⟩
            replace HO_128001 := IsS69.kR HI0 HO_128001 hk
            replace HO_128002 := IsS69.kR HI0 HO_128002 hk
            replace BK123 := kbT hk BK123 NB123_0
            replace BK127 := kbT hk BK127 NB127_0
            replace BK152 := kbT hk BK152 NB152_0
            replace HK := hkT HK hk
            replace HB := aM (hb)
            replace HI0 := aM (hi)
            (try clear hb); (try clear hb2); (try clear hk); (try clear hi)
            refine hK.out _ _ ⟨bc0 BK127, bc1 BK127, bc2 BK127⟩ (fun hK4 => ?_)
            clear hK K
            refine nU 40 ?_
            refine pW 8 41 11 1023 HT_ rfl rfl ?_
            exact norm_ (by simp only [putAll, Act.put, lA, lB, lC]) (hCont (gb152) _ ⟨hK4, (zR HO_128001), (by (with_reducible repeat (first | apply rA | apply rN | apply rD)); exact rM HO_128002.o (fun _ hk => hk.2)), (zK BK123), (zK BK127), (zK BK152), GW152.o, GE152.o, NB0_152.o, NB152_0.o, NB123_152.o, NB152_123.o, NB127_152.o, NB152_127.o, (spec_l13Draw.zI69 HI0), (zH HK), (zB HB)⟩)
          rintro gb152 w56 ⟨hS_, h0_, h1_, h2_, h3_, h4_, h5_, h6_, h7_, h8_, h9_, h10_, h11_, h12_, h13_, h14_, h15_⟩
          replace HO_128001 : Aside0 (Kd.R Kd.bool 4 w56 w.heap.size (fun _ => True) u128001 x128001_1) := ⟨h0_⟩
          replace HO_128002 : Aside0 (Kd.R k46 46 w56 w.heap.size (fun k_ => k_ ≠ gb152) u128002 x128002_3) := ⟨h1_⟩
          replace BK123 : Aside0 (w56.heap[gb123]? = some (.cells #[.int .i64 0, .slice none 0 0, .slice none 0 0] 27 (0, 0))) := ⟨h2_⟩
          replace BK127 : Aside0 (w56.heap[gb127]? = some (.cells #[.int .i64 (wrap64 (1 + t124)), u128001, u128002] 27 (0, 0))) := ⟨h3_⟩
          have BK152 : Aside0 (w56.heap[gb152]? = some (.cells #[.int .i64 0, .bool false, .int .i64 0, .int .i64 0] 46 (0, 0))) := ⟨h4_⟩
          have GW152 : Aside0 (w.heap.size ≤ gb152) := ⟨h5_⟩
          have GE152 : Aside0 (w0.heap.size ≤ gb152) := ⟨h6_⟩
          have NB0_152 : Aside0 (g ≠ gb152) := ⟨h7_⟩
          have NB152_0 : Aside0 (gb152 ≠ g) := ⟨h8_⟩
          have NB123_152 : Aside0 (gb123 ≠ gb152) := ⟨h9_⟩
          have NB152_123 : Aside0 (gb152 ≠ gb123) := ⟨h10_⟩
          have NB127_152 : Aside0 (gb127 ≠ gb152) := ⟨h11_⟩
          have NB152_127 : Aside0 (gb152 ≠ gb127) := ⟨h12_⟩
          replace HI0 : Aside0 (IsS69 w0 w56 g s0_0 t150 t151) := ⟨h13_⟩
          replace HK : Aside0 (KeepBut w w56 g none) := ⟨h14_⟩
          replace HB : Aside0 (Below w0.heap.size w0 w56) := ⟨h15_⟩
          clear h0_ h1_ h2_ h3_ h4_ h5_ h6_ h7_ h8_ h9_ h10_ h11_ h12_ h13_ h14_ h15_
          have hK4 : w56.cell? ⟨gb127, 0, none⟩ = some (.int .i64 (wrap64 (1 + t124))) ∧ w56.cell? ⟨gb127, 1, none⟩ = some (u128001) ∧ w56.cell? ⟨gb127, 2, none⟩ = some (u128002) := hS_
          refine norm_ (a' := ?_) ?_ ?_
          rotate_left
          ·simp only [putAll, Act.put, lA, lB, lC]
           rfl
          refine one_ (i := 10) (N := none) (bm 11 2047) rfl rfl (one_of HT_.o (by kernel_rfl)) (by decide) (fun K hK => ?_)
          have hs57 : w56.cell? ⟨gb152, 0, none⟩ = some (.int .i64 0) := bc0 BK152
          have hfs57 := bf BK152 0
          have hns57_0 := NB123_152.o
          have hns57_1 := NB127_152.o
          have hms57_0 := NB152_123.o
          have hms57_1 := NB152_127.o
          have hs58 : w56.cell? ⟨gb152, 1, none⟩ = some (.bool false) := bc1 BK152
          have hfs58 := bf BK152 1
          have hns58_0 := NB123_152.o
          have hns58_1 := NB127_152.o
          have hms58_0 := NB152_123.o
          have hms58_1 := NB152_127.o
          have hs59 : w56.cell? ⟨gb152, 2, none⟩ = some (.int .i64 0) := bc2 BK152
          have hfs59 := bf BK152 2
          have hns59_0 := NB123_152.o
          have hns59_1 := NB127_152.o
          have hms59_0 := NB152_123.o
          have hms59_1 := NB152_127.o
          have hs60 : w56.cell? ⟨gb152, 3, none⟩ = some (.int .i64 0) := bc3 BK152
          have hfs60 := bf BK152 3
          have hns60_0 := NB123_152.o
          have hns60_1 := NB127_152.o
          have hms60_0 := NB152_123.o
          have hms60_1 := NB152_127.o
          refine skip_ (w1 := ?_) (by rfl) rfl ?_ ?_
          rotate_left
          ·go_simp
           rfl
          refine hK.out _ _ ⟨((cF (p := ⟨gb152, _, none⟩) NB127_152.o _).trans (((cF (p := ⟨gb152, _, none⟩) NB127_152.o _).trans (((cF (p := ⟨gb152, _, none⟩) NB127_152.o _).trans (((cF (p := ⟨gb152, _, none⟩) NB127_152.o _).trans (hK4.1)))))))), ((cF (p := ⟨gb152, _, none⟩) NB127_152.o _).trans (((cF (p := ⟨gb152, _, none⟩) NB127_152.o _).trans (((cF (p := ⟨gb152, _, none⟩) NB127_152.o _).trans (((cF (p := ⟨gb152, _, none⟩) NB127_152.o _).trans (hK4.2.1)))))))), ((cF (p := ⟨gb152, _, none⟩) NB127_152.o _).trans (((cF (p := ⟨gb152, _, none⟩) NB127_152.o _).trans (((cF (p := ⟨gb152, _, none⟩) NB127_152.o _).trans (((cF (p := ⟨gb152, _, none⟩) NB127_152.o _).trans (hK4.2.2))))))))⟩ (fun hK4 => ?_)
          clear hK K
          refine done_ (done_of HT_.o (by kernel_rfl)) ?_
          try clear hK4
          have n0_ : Aside0 (Kd.R Kd.bool 4 ((((w56.setCell ⟨gb152, 0, none⟩ (.int .i64 x4_1)).setCell ⟨gb152, 1, none⟩ (.bool t128)).setCell ⟨gb152, 2, none⟩ (.int .i64 t146)).setCell ⟨gb152, 3, none⟩ (.int .i64 t149)) w.heap.size (fun _ => True) u128001 x128001_1) := ⟨rM (rB HO_128001 BK152) (fun _ hk => trivial)⟩
          have n1_ : Aside0 (Kd.R k46 46 ((((w56.setCell ⟨gb152, 0, none⟩ (.int .i64 x4_1)).setCell ⟨gb152, 1, none⟩ (.bool t128)).setCell ⟨gb152, 2, none⟩ (.int .i64 t146)).setCell ⟨gb152, 3, none⟩ (.int .i64 t149)) w.heap.size (fun k_ => k_ ≠ gb152) u128002 x128002_3) := ⟨by (with_reducible repeat (first | apply rA | apply rN | apply rD)); exact rM (Kd.R_far (p := ⟨gb152, 3, none⟩) (Kd.R_far (p := ⟨gb152, 2, none⟩) (Kd.R_far (p := ⟨gb152, 1, none⟩) (Kd.R_far (p := ⟨gb152, 0, none⟩) (rM HO_128002.o (fun k_ hk => (⟨hk, hk⟩ : _ ∧ k_ ≠ gb152))) (fun _ hk => hk.2) (.int .i64 x4_1)) (fun _ hk => hk.2) (.bool t128)) (fun _ hk => hk.2) (.int .i64 t146)) (fun _ hk => hk.2) (.int .i64 t149)) (fun _ hk => hk.1)⟩
          have n2_ : Aside0 (((((w56.setCell ⟨gb152, 0, none⟩ (.int .i64 x4_1)).setCell ⟨gb152, 1, none⟩ (.bool t128)).setCell ⟨gb152, 2, none⟩ (.int .i64 t146)).setCell ⟨gb152, 3, none⟩ (.int .i64 t149)).heap[gb123]? = some (.cells #[.int .i64 0, .slice none 0 0, .slice none 0 0] 27 (0, 0))) := ⟨kF BK123⟩
          have n3_ : Aside0 (((((w56.setCell ⟨gb152, 0, none⟩ (.int .i64 x4_1)).setCell ⟨gb152, 1, none⟩ (.bool t128)).setCell ⟨gb152, 2, none⟩ (.int .i64 t146)).setCell ⟨gb152, 3, none⟩ (.int .i64 t149)).heap[gb127]? = some (.cells #[.int .i64 (wrap64 (1 + t124)), u128001, u128002] 27 (0, 0))) := ⟨kF BK127⟩
          have n4_ : Aside0 (((((w56.setCell ⟨gb152, 0, none⟩ (.int .i64 x4_1)).setCell ⟨gb152, 1, none⟩ (.bool t128)).setCell ⟨gb152, 2, none⟩ (.int .i64 t146)).setCell ⟨gb152, 3, none⟩ (.int .i64 t149)).heap[gb152]? = some (.cells #[.int .i64 x4_1, .bool t128, .int .i64 t146, .int .i64 t149] 46 (0, 0))) := ⟨by (with_reducible repeat (first | apply bN | apply bD | apply bA)); refine bP (cs := #[.int .i64 x4_1, .bool t128, .int .i64 t146, .int .i64 0]) ?_ 3 _ rfl; (with_reducible repeat (first | apply bN | apply bD | apply bA)); refine bP (cs := #[.int .i64 x4_1, .bool t128, .int .i64 0, .int .i64 0]) ?_ 2 _ rfl; (with_reducible repeat (first | apply bN | apply bD | apply bA)); refine bP (cs := #[.int .i64 x4_1, .bool false, .int .i64 0, .int .i64 0]) ?_ 1 _ rfl; (with_reducible repeat (first | apply bN | apply bD | apply bA)); refine bP (cs := #[.int .i64 0, .bool false, .int .i64 0, .int .i64 0]) ?_ 0 _ rfl; (with_reducible repeat (first | apply bN | apply bD | apply bA)); exact BK152.o⟩
          have n5_ : Aside0 (IsS69 w0 ((((w56.setCell ⟨gb152, 0, none⟩ (.int .i64 x4_1)).setCell ⟨gb152, 1, none⟩ (.bool t128)).setCell ⟨gb152, 2, none⟩ (.int .i64 t146)).setCell ⟨gb152, 3, none⟩ (.int .i64 t149)) g s0_0 t150 t151) := ⟨spec_l13Draw.zI69 HI0⟩
          have n6_ : Aside0 (KeepBut w ((((w56.setCell ⟨gb152, 0, none⟩ (.int .i64 x4_1)).setCell ⟨gb152, 1, none⟩ (.bool t128)).setCell ⟨gb152, 2, none⟩ (.int .i64 t146)).setCell ⟨gb152, 3, none⟩ (.int .i64 t149)) g none) := ⟨zH HK⟩
          have n7_ : Aside0 (Below w0.heap.size w0 ((((w56.setCell ⟨gb152, 0, none⟩ (.int .i64 x4_1)).setCell ⟨gb152, 1, none⟩ (.bool t128)).setCell ⟨gb152, 2, none⟩ (.int .i64 t146)).setCell ⟨gb152, 3, none⟩ (.int .i64 t149))) := ⟨zB HB⟩
          (try clear HO_128001); (try clear HO_128002); (try clear BK123); (try clear BK127); (try clear BK152); (try clear HI0); (try clear HK); (try clear HB)
          generalize ((((w56.setCell ⟨gb152, 0, none⟩ (.int .i64 x4_1)).setCell ⟨gb152, 1, none⟩ (.bool t128)).setCell ⟨gb152, 2, none⟩ (.int .i64 t146)).setCell ⟨gb152, 3, none⟩ (.int .i64 t149)) = w61 at n0_ n1_ n2_ n3_ n4_ n5_ n6_ n7_ ⊢
          have HO_128001 := n0_
          have HO_128002 := n1_
          have BK123 := n2_
          have BK127 := n3_
          have BK152 := n4_
          have HI0 := n5_
          have HK := n6_
          have HB := n7_
          clear n0_ n1_ n2_ n3_ n4_ n5_ n6_ n7_
          have hnb62 := NB127_123.o
          have hnc62 := NB123_127.o
          have hnb63 := NB127_152.o
          have hnc63 := NB152_127.o
          have hnb64 := NB127_0.o
          have hnc64 := NB0_127.o
          obtain ⟨z65_0, z65_1, z65_2, f65_0, f65_1, f65_2⟩ := bq3 BK127
          have hnb66 := NB152_123.o
          have hnc66 := NB123_152.o
          have hnb67 := NB152_0.o
          have hnc67 := NB0_152.o
          obtain ⟨z68_0, z68_1, z68_2, z68_3, f68_0, f68_1, f68_2, f68_3⟩ := bq4 BK152
          obtain ⟨Ao69, co69, eo69⟩ := rL HO_128001.o
          subst eo69
          obtain ⟨Ao70, co70, eo70⟩ := rL HO_128002.o
          subst eo70
          try go_wp2_with (first | ((with_reducible refine gC (f := 24) rfl ?_); refine goesL_ (some 47) rfl rfl Try.func24 (by kernel_rfl) rfl #[.agg #[.int .i64 (wrap64 (1 + t124)), .slice Ao69 x128001_1.length co69, .slice Ao70 x128002_3.length co70], .int .i64 x4_1, .bool t128, .int .i64 t146] rfl zG ?_; (with_reducible refine (spec_MoveOf.calls k3 (wrap64 (1 + t124)) _ _ x128001_1 _ _ x128002_3 x4_1 t128 t146 t153 _ ?s1 ?s2 ?s3 ?s4 A24.o).mono ?_); (case s1 => exact cU (rQ HO_128001.o).2.2); (case s2 => exact (rQ HO_128001.o).2.1); (case s3 => exact cU (rQ HO_128002.o).2.2); (case s4 => exact (rQ HO_128002.o).2.1); rintro e w71 ⟨rfl, hb⟩; refine ⟨_, rfl, ?_⟩; replace HO_128001 := aM (rW (zR HO_128001) hb); replace HO_128002 := aM (rW (zR HO_128002) hb); replace BK123 := kB BK123 hb; replace BK127 := kB BK127 hb; replace BK152 := kB BK152 hb; replace HK := hkB HK hb; replace HB := bS HB hb; replace HI0 := aM (IsS69.below (spec_l13Draw.zI69 HI0) hb); (try clear hb)))
          go_roundg k3
          case measure => have := HK1.o; have := HJ11.o; have := HK3.o; omega
          case rel => exact ⟨(wrap64 (x7_3 + 1)), (t150), (t151), (x128002_3), (.slice Ao70 x128002_3.length co70), zF, H', ⟨by have := HK1.o; have := HJ11.o; have := HK3.o; omega⟩, ⟨zR HO_128001⟩, ⟨by (with_reducible repeat (first | apply rA | apply rN | apply rD)); exact rM HO_128002.o (fun _ hk => trivial)⟩, ⟨zK BK123⟩, ⟨zK BK127⟩, ⟨spec_l13Draw.zI69 HI0⟩, ⟨zH HK⟩, ⟨zB HB⟩⟩
        ·rw [if_neg c21] at H
         have c21b0 : decide (x7_3 < x6_11) = false := decide_eq_false c21
         clear c21
         by_cases c72 : x6_11 = 0
         ·rw [if_pos c72] at H
          have c72b0 : (x6_11 == 0) = true := beq_iff_eq.mpr c72
          have c72b1 : (x6_11 != 0) = false := bne_eq_false_iff_eq.mpr c72
          clear c72
          obtain ⟨c73, H⟩ := ifS H
          have LMc73 := aM c73
          clear c73
          obtain ⟨y137, hy137⟩ : ∃ y_ : List Bool, y_ = (x128001_1 ++ [true]) := ⟨_, rfl⟩
          replace H : (spec_l13Draw.l0 k3 (wrap64 (x4_1 + 1)) s0_0 x1001_3 x1002_3 (wrap64 (1 + t124)) y137 x128002_3) = some (r1, r2, r3, r4, r5) := by first | (rw [hy137]; with_reducible exact H) | (rw [hy137]; exact H) | exact H
          have Ny137 := aM hy137
          clear hy137
          have H' := aM H
          clear H
          try go_wp2
          replace HO_128001 := aM (rD HO_128001.o)
          replace HO_128002 := aM (rD HO_128002.o)
          replace BK123 := aM (bD BK123.o)
          replace BK127 := aM (bD BK127.o)
          replace HI0 := aM (IsS69.drew HI0.o)
          replace HK := aM (keep_drew HK.o)
          replace HB := aM (below_drew1 HB.o)
          refine start_ (n := 12) (S := fun w' => w'.cell? ⟨gb127, 0, none⟩ = some (.int .i64 (wrap64 (1 + t124))) ∧ w'.cell? ⟨gb127, 1, none⟩ = some (u128001) ∧ w'.cell? ⟨gb127, 2, none⟩ = some (u128002)) (ds := [11]) (bm 12 0) (by kernel_rfl) rfl (bm0 _) ⟨bc0 BK127, bc1 BK127, bc2 BK127⟩ (fun hK4 => ?_); refine with_tabW spec_l13Draw.tab15 spec_l13Draw.bits15 (fun HT_ HW_ => ?_)
          generalize wr.drew = w74 at HO_128001 HO_128002 BK123 BK127 HI0 HK HB hK4 ⊢
          refine pW 0 55 12 1 HT_ rfl rfl ?_
          refine pW 2 57 12 5 HT_ rfl rfl ?_
          refine pW 3 58 12 13 HT_ rfl rfl ?_
          refine pW 4 59 12 29 HT_ rfl rfl ?_
          refine pV 5 (some 60) (bm 12 61) HT_ rfl rfl ?_
          refine pV 6 (some 61) (bm 12 125) HT_ rfl rfl ?_
          refine pW 7 62 12 253 HT_ rfl rfl ?_
          refine tW 1 56 12 255 HT_ HW_ rfl rfl hK4 ?_
          refine one_ (i := 8) (N := some 63) (bm 12 511) rfl rfl (one_of HT_.o (by kernel_rfl)) (by decide) (fun K hK => ?_)
          refine value_ (w1 := ?_) (v := ?_) (by rfl) rfl ?_ ?_
          rotate_left 2
          ·go_simp
           constructor
           ·rfl
           ·rfl
          refine hK.out _ _ ⟨(blk_cell (bA BK127.o _) 0).trans rfl, (blk_cell (bA BK127.o _) 1).trans rfl, (blk_cell (bA BK127.o _) 2).trans rfl⟩ (fun hK4 => ?_)
          clear hK K
          refine nU 63 ?_
          refine one_ (i := 9) (N := some 64) (bm 12 1023) rfl rfl (one_of HT_.o (by kernel_rfl)) (by decide) (fun K hK => ?_)
          refine Kd.R_append_step Kd.bool w.heap.size (by rfl) (.tmp 56) (.tmp 63) 24 4 (.bool false) 1 rfl Try.underlying24 info4 rfl (by decide) (by omega) u128001 x128001_1 true [.bool true] (fun _ => True) (fun _ => False) rfl rfl ?aP (fun _ hk => hk.elim) ?aF ?aO (Below.refl _ _) ?aS ?aL ?_
          (case aP => exact rfl)
          (case aF => exact (fun _ _ => trivial))
          (case aO => exact (zR HO_128001))
          (case aS => exact (keep_size (w := w) (g := g) (row := none) (zH HK)))
          (case aL => have := LMc73.o; omega)
          intro v138 w75 ho hb hg hat
          rw [← Ny137.o] at ho
          replace HO_128002 := aM (Kd.R_over' (zR HO_128002) (Kd.R_typed (zR HO_128001)) (by decide) hg)
          replace BK123 := aM (blk_grown (g := gb123) (o := .cells #[.int .i64 0, .slice none 0 0, .slice none 0 0] 27 (0, 0)) (zK BK123) hg (Kd.R_ne HO_128001.o BK123.o (by decide)))
          replace BK127 := aM (blk_grown (g := gb127) (o := .cells #[.int .i64 (wrap64 (1 + t124)), u128001, u128002] 27 (0, 0)) (zK BK127) hg (Kd.R_ne HO_128001.o BK127.o (by decide)))
          replace HB := aM (below_weaken (zB HB) HL.o hb)
          replace HI0 := aM (IsS69.grown (spec_l13Draw.zI69 HI0) hg (IsS69.own_ne HI0.o HO_128001.o (by decide)))
          replace HK := aM (KeepBut.trans (zH HK) (KeepBut.of_grown hg g) (Kd.R_base2 HO_128001.o))
          have HO139 := aM (ho)
          clear HO_128001
          clear ho hb hg hat
          obtain ⟨Ao76, co76, eo76⟩ := rL HO139.o
          (first | subst eo76 | (obtain ⟨f4_, f5_⟩ := slI eo76; subst f4_; subst f5_))
          refine hK.out _ _ ⟨bc0 BK127, bc1 BK127, bc2 BK127⟩ (fun hK4 => ?_)
          clear hK K
          refine nU 64 ?_
          refine pW 10 65 12 2047 HT_ rfl rfl ?_
          refine last_ (i := 11) (N := none) (bm 12 4095) rfl rfl (one_of HT_.o (by kernel_rfl)) (by decide) (fun K hK => ?_)
          have hs77 : w75.cell? ⟨gb127, 1, none⟩ = some (u128001) := bc1 BK127
          have hfs77 := bf BK127 1
          have hns77_0 := NB123_127.o
          have hms77_0 := NB127_123.o
          refine skip_ (w1 := ?_) (by rfl) rfl ?_ ?_
          rotate_left
          ·go_simp
           rfl
          refine hK.out _ _ ?_
          clear hK K
          refine done_ (done_of HT_.o (by kernel_rfl)) ?_
          try clear hK4
          try go_wp2
          go_roundg k3
          case measure => have := HK1.o; have := HJ11.o; have := HK3.o; omega
          case rel => exact ⟨(wrap64 (x4_1 + 1)), (x1001_3), (x1002_3), (y137), (x128002_3), (.slice Ao76 y137.length co76), (u128002), zF, H', ⟨by have := HK1.o; have := HJ11.o; have := HK3.o; omega⟩, ⟨rM (rB HO139 BK127) (fun _ hk => trivial)⟩, ⟨rM (rB HO_128002 BK127) (fun _ hk => trivial)⟩, ⟨kF BK123⟩, ⟨by (with_reducible repeat (first | apply bN | apply bD | apply bA)); refine bP (cs := #[.int .i64 (wrap64 (1 + t124)), u128001, u128002]) ?_ 1 _ rfl; (with_reducible repeat (first | apply bN | apply bD | apply bA)); exact BK127.o⟩, ⟨spec_l13Draw.zI69 HI0⟩, ⟨zH HK⟩, ⟨zB HB⟩⟩
         ·rw [if_neg c72] at H
          have c72b0 : (x6_11 == 0) = false := beq_eq_false_iff_ne.mpr c72
          have c72b1 : (x6_11 != 0) = true := bne_iff_ne.mpr c72
          replace H := oB.mp H
          obtain ⟨⟨t140, t141, t142⟩, A780, H⟩ := H
          dsimp only at H
          have A78 := aM A780
          clear A780
          obtain ⟨c79, H⟩ := ifS H
          have LMc79 := aM c79
          clear c79
          obtain ⟨y143, hy143⟩ : ∃ y_ : List Bool, y_ = (x128001_1 ++ [t140]) := ⟨_, rfl⟩
          replace H : (spec_l13Draw.l0 k3 (wrap64 (x4_1 + 1)) s0_0 t141 t142 (wrap64 (1 + t124)) y143 x128002_3) = some (r1, r2, r3, r4, r5) := by first | (rw [hy143]; with_reducible exact H) | (rw [hy143]; exact H) | exact H
          have Ny143 := aM hy143
          clear hy143
          have H' := aM H
          clear H
          try go_wp2
          replace HO_128001 := aM (rD HO_128001.o)
          replace HO_128002 := aM (rD HO_128002.o)
          replace BK123 := aM (bD BK123.o)
          replace BK127 := aM (bD BK127.o)
          replace HI0 := aM (IsS69.drew HI0.o)
          replace HK := aM (keep_drew HK.o)
          replace HB := aM (below_drew1 HB.o)
          refine start_ (n := 12) (S := fun w' => w'.cell? ⟨gb127, 0, none⟩ = some (.int .i64 (wrap64 (1 + t124))) ∧ w'.cell? ⟨gb127, 1, none⟩ = some (u128001) ∧ w'.cell? ⟨gb127, 2, none⟩ = some (u128002)) (ds := [11]) (bm 12 0) (by kernel_rfl) rfl (bm0 _) ⟨bc0 BK127, bc1 BK127, bc2 BK127⟩ (fun hK4 => ?_); refine with_tabW spec_l13Draw.tab15 spec_l13Draw.bits15 (fun HT_ HW_ => ?_)
          generalize wr.drew = w80 at HO_128001 HO_128002 BK123 BK127 HI0 HK HB hK4 ⊢
          refine pW 0 55 12 1 HT_ rfl rfl ?_
          refine pW 2 57 12 5 HT_ rfl rfl ?_
          refine pW 3 58 12 13 HT_ rfl rfl ?_
          refine pW 4 59 12 29 HT_ rfl rfl ?_
          refine pW 5 60 12 61 HT_ rfl rfl ?_
          refine tW 1 56 12 63 HT_ HW_ rfl rfl hK4 ?_
          refine one_ (i := 6) (N := some 61) (bm 12 127) rfl rfl (one_of HT_.o (by kernel_rfl)) (by decide) (fun K hK => ?_)
          refine goes_ Try.func31 (by kernel_rfl) rfl #[.pointer (some ⟨g, 0, none⟩), .int .i64 4] (by rfl) rfl rfl zG ?_
          with_reducible refine (spec_l1Once.calls g s0_0 x1001_3 x1002_3 4 t140 t141 t142 w0 _ ?s1 ?s2 A78.o).mono ?_
          (case s1 => exact spec_l13Draw.zI69 HI0)
          (case s2 => exact zB HB)
          rintro e w81 ⟨rfl, hi, hb, hk⟩
          refine ⟨_, rfl, ?_⟩
          replace HO_128001 := IsS69.kR HI0 HO_128001 hk
          replace HO_128002 := IsS69.kR HI0 HO_128002 hk
          replace BK123 := kbT hk BK123 NB123_0
          replace BK127 := kbT hk BK127 NB127_0
          replace HK := hkT HK hk
          replace HB := aM (hb)
          replace HI0 := aM (hi)
          (try clear hb); (try clear hb2); (try clear hk); (try clear hi)
          refine hK.out _ _ ⟨bc0 BK127, bc1 BK127, bc2 BK127⟩ (fun hK4 => ?_)
          clear hK K
          refine nU 61 ?_
          refine pW 7 62 12 255 HT_ rfl rfl ?_
          refine one_ (i := 8) (N := some 63) (bm 12 511) rfl rfl (one_of HT_.o (by kernel_rfl)) (by decide) (fun K hK => ?_)
          refine value_ (w1 := ?_) (v := ?_) (by rfl) rfl ?_ ?_
          rotate_left 2
          ·go_simp
           constructor
           ·rfl
           ·rfl
          refine hK.out _ _ ⟨(blk_cell (bA BK127.o _) 0).trans rfl, (blk_cell (bA BK127.o _) 1).trans rfl, (blk_cell (bA BK127.o _) 2).trans rfl⟩ (fun hK4 => ?_)
          clear hK K
          refine nU 63 ?_
          refine one_ (i := 9) (N := some 64) (bm 12 1023) rfl rfl (one_of HT_.o (by kernel_rfl)) (by decide) (fun K hK => ?_)
          refine Kd.R_append_step Kd.bool w.heap.size (by rfl) (.tmp 56) (.tmp 63) 24 4 (.bool false) 1 rfl Try.underlying24 info4 rfl (by decide) (by omega) u128001 x128001_1 t140 [.bool t140] (fun _ => True) (fun _ => False) rfl rfl ?aP (fun _ hk => hk.elim) ?aF ?aO (Below.refl _ _) ?aS ?aL ?_
          (case aP => exact rfl)
          (case aF => exact (fun _ _ => trivial))
          (case aO => exact (zR HO_128001))
          (case aS => exact (keep_size (w := w) (g := g) (row := none) (zH HK)))
          (case aL => have := LMc79.o; omega)
          intro v144 w82 ho hb hg hat
          rw [← Ny143.o] at ho
          replace HO_128002 := aM (Kd.R_over' (zR HO_128002) (Kd.R_typed (zR HO_128001)) (by decide) hg)
          replace BK123 := aM (blk_grown (g := gb123) (o := .cells #[.int .i64 0, .slice none 0 0, .slice none 0 0] 27 (0, 0)) (zK BK123) hg (Kd.R_ne HO_128001.o BK123.o (by decide)))
          replace BK127 := aM (blk_grown (g := gb127) (o := .cells #[.int .i64 (wrap64 (1 + t124)), u128001, u128002] 27 (0, 0)) (zK BK127) hg (Kd.R_ne HO_128001.o BK127.o (by decide)))
          replace HB := aM (below_weaken (zB HB) HL.o hb)
          replace HI0 := aM (IsS69.grown (spec_l13Draw.zI69 HI0) hg (IsS69.own_ne HI0.o HO_128001.o (by decide)))
          replace HK := aM (KeepBut.trans (zH HK) (KeepBut.of_grown hg g) (Kd.R_base2 HO_128001.o))
          have HO145 := aM (ho)
          clear HO_128001
          clear ho hb hg hat
          obtain ⟨Ao83, co83, eo83⟩ := rL HO145.o
          (first | subst eo83 | (obtain ⟨f4_, f5_⟩ := slI eo83; subst f4_; subst f5_))
          refine hK.out _ _ ⟨bc0 BK127, bc1 BK127, bc2 BK127⟩ (fun hK4 => ?_)
          clear hK K
          refine nU 64 ?_
          refine pW 10 65 12 2047 HT_ rfl rfl ?_
          refine last_ (i := 11) (N := none) (bm 12 4095) rfl rfl (one_of HT_.o (by kernel_rfl)) (by decide) (fun K hK => ?_)
          have hs84 : w82.cell? ⟨gb127, 1, none⟩ = some (u128001) := bc1 BK127
          have hfs84 := bf BK127 1
          have hns84_0 := NB123_127.o
          have hms84_0 := NB127_123.o
          refine skip_ (w1 := ?_) (by rfl) rfl ?_ ?_
          rotate_left
          ·go_simp
           rfl
          refine hK.out _ _ ?_
          clear hK K
          refine done_ (done_of HT_.o (by kernel_rfl)) ?_
          try clear hK4
          try go_wp2
          go_roundg k3
          case measure => have := HK1.o; have := HJ11.o; have := HK3.o; omega
          case rel => exact ⟨(wrap64 (x4_1 + 1)), (t141), (t142), (y143), (x128002_3), (.slice Ao83 y143.length co83), (u128002), zF, H', ⟨by have := HK1.o; have := HJ11.o; have := HK3.o; omega⟩, ⟨rM (rB HO145 BK127) (fun _ hk => trivial)⟩, ⟨rM (rB HO_128002 BK127) (fun _ hk => trivial)⟩, ⟨kF BK123⟩, ⟨by (with_reducible repeat (first | apply bN | apply bD | apply bA)); refine bP (cs := #[.int .i64 (wrap64 (1 + t124)), u128001, u128002]) ?_ 1 _ rfl; (with_reducible repeat (first | apply bN | apply bD | apply bA)); exact BK127.o⟩, ⟨spec_l13Draw.zI69 HI0⟩, ⟨zH HK⟩, ⟨zB HB⟩⟩
   ·rw [if_neg c9] at H
    have c9b0 : decide (x4_1 < (wrap64 (1 + t124))) = false := decide_eq_false c9
    clear c9
    simp only [Option.some.injEq, Prod.mk.injEq] at H
    obtain ⟨rfl, rfl, rfl, rfl, rfl⟩ := H
    have hnb85 := NB127_123.o
    have hnc85 := NB123_127.o
    have hnb86 := NB127_0.o
    have hnc86 := NB0_127.o
    obtain ⟨z87_0, z87_1, z87_2, f87_0, f87_1, f87_2⟩ := bq3 BK127
    have hnb88 := NB123_0.o
    have hnc88 := NB0_123.o
    obtain ⟨z89_0, z89_1, z89_2, f89_0, f89_1, f89_2⟩ := bq3 BK123
    obtain ⟨Ao90, co90, eo90⟩ := rL HO_128001.o
    subst eo90
    obtain ⟨Ao91, co91, eo91⟩ := rL HO_128002.o
    subst eo91
    go_wp2
    refine bodyPost_ret (results_cell_row rfl _ _ gb123 27 #[.int .i64 (wrap64 (1 + t124)), .slice Ao90 x128001_1.length co90, .slice Ao91 x128002_1.length co91] (0, 0) _ rfl (by (with_reducible repeat (first | apply bN | apply bD | apply bA)); refine bP (cs := #[.int .i64 (wrap64 (1 + t124)), .slice Ao90 x128001_1.length co90, .slice none 0 0]) ?_ 2 _ rfl; (with_reducible repeat (first | apply bN | apply bD | apply bA)); refine bP (cs := #[.int .i64 (wrap64 (1 + t124)), .slice none 0 0, .slice none 0 0]) ?_ 1 _ rfl; (with_reducible repeat (first | apply bN | apply bD | apply bA)); refine bP (cs := #[.int .i64 0, .slice none 0 0, .slice none 0 0]) ?_ 0 _ rfl; (with_reducible repeat (first | apply bN | apply bD | apply bA)); exact BK123.o) Try.underlying27 rfl (by kernel_rfl)) rfl ?_
    exact ⟨_, _, zE, rM (rB HO_128001 BK123) (fun _ hk => trivial), rM (rB HO_128002 BK123) (fun _ hk => trivial), spec_l13Draw.zI69 HI0, zB HB, zH HK⟩

end Go.Proofs.Ytfibjclnaeocbaa.PFnPairs
