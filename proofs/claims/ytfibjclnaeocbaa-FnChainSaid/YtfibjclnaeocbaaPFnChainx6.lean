-- WRITTEN by pp.py, this session's own wrapper around the print; not trusted: Lean checks it
import Derived.Test.YtfibjclnaeocbaaPFnChainx0
import Derived.Test.YtfibjclnaeocbaaPFnChainx2
import Derived.Test.YtfibjclnaeocbaaPFnChainx4
import Derived.Test.YtfibjclnaeocbaaPFnChainx5
namespace Go.Proofs.Ytfibjclnaeocbaa.PFnChain
open Go.RowKit Go.Proofs.Ytfibjclnaeocbaa.Hw Go.Proofs.YtfibjclnaeocbaaW.PrintWords Go.Proofs.YtfibjclnaeocbaaW.PrintLast Go.Proofs.YtfibjclnaeocbaaW.PrintMore
attribute [local go_sem] max2_int min2_int max_two min_two max_three min_three max_four min_four   -- for this text's walks alone
set_option linter.unusedVariables false
set_option linter.unusedSimpArgs false
set_option linter.unusedSectionVars false

/-! ### spec_l15Next: function 34 -/
mutual
def spec_l15Next.l0 : Nat → Int → List Int → Int → Int → Int → List Bool → List (S46) → Option (Int × List Bool × (List (S46)) × Int × Int)
 | 0, _, _, _, _, _, _, _ => none
 | k + 1, x6, x1000, x1001, x1002, x253000, x253001, x253002 => if x6 > 0 then (spec_l15Next.j1 k x6 (decide ((x253002.length : Int) > 0)) x1000 x1001 x1002 x253000 x253001 x253002) else (spec_l15Next.j1 k x6 false x1000 x1001 x1002 x253000 x253001 x253002)
def spec_l15Next.j1 : Nat → Int → Bool → List Int → Int → Int → Int → List Bool → List (S46) → Option (Int × List Bool × (List (S46)) × Int × Int)
 | 0, _, _, _, _, _, _, _, _ => none
 | k + 1, x6, x21, x1000, x1001, x1002, x253000, x253001, x253002 => if x21 = true then ((spec_l1Below.f x1000 x1001 x1002 (x253002.length : Int)).bind fun bt262 => (if 0 ≤ bt262.1 then (if bt262.1 < (x253002.length : Int) then (if (rd_T46 x253002 bt262.1).f1 = true then ((spec_MovesFrom.f k x253000 x253001 x253002 ((rd_T46 x253002 bt262.1).f0) true).bind fun t267 => (spec_l15Next.j2 k x6 bt262.1 (decide ((t267.length : Int) > 1)) x1000 bt262.2.1 bt262.2.2 x253000 x253001 x253002 ((rd_T46 x253002 bt262.1).f0) ((rd_T46 x253002 bt262.1).f1) ((rd_T46 x253002 bt262.1).f2) ((rd_T46 x253002 bt262.1).f3))) else (spec_l15Next.j2 k x6 bt262.1 false x1000 bt262.2.1 bt262.2.2 x253000 x253001 x253002 ((rd_T46 x253002 bt262.1).f0) ((rd_T46 x253002 bt262.1).f1) ((rd_T46 x253002 bt262.1).f2) ((rd_T46 x253002 bt262.1).f3))) else (none)) else (none))) else ((spec_l1Once.f x1000 x1001 x1002 6).bind fun bt256 => (if bt256.1 = true then (if 0 ≤ (wrap64 ((x253002.length : Int) / 2)) then (if (wrap64 ((x253002.length : Int) / 2)) ≤ (x253002.length : Int) then (some (x253000, x253001, (x253002.take ((wrap64 ((x253002.length : Int) / 2)) : Int).toNat), bt256.2.1, bt256.2.2)) else (none)) else (none)) else (some (x253000, x253001, x253002, bt256.2.1, bt256.2.2))))
def spec_l15Next.j2 : Nat → Int → Int → Bool → List Int → Int → Int → Int → List Bool → List (S46) → Int → Bool → Int → Int → Option (Int × List Bool × (List (S46)) × Int × Int)
 | 0, _, _, _, _, _, _, _, _, _, _, _, _, _ => none
 | k + 1, x6, x7, x43, x1000, x1001, x1002, x253000, x253001, x253002, x267000, x267001, x267002, x267003 => if x43 = true then ((some (([] : List (S46)) : List (S46))).bind fun y270 => (if 0 ≤ x7 then (if x7 ≤ (x253002.length : Int) then ((some (x253002.take (x7 : Int).toNat : List (S46))).bind fun y273 => (if y270.length + y273.length < 4398046511104 then ((some (y270 ++ y273 : List (S46))).bind fun y277 => (if 0 ≤ (wrap64 (x7 + 1)) then (if (wrap64 (x7 + 1)) ≤ (x253002.length : Int) then ((some (x253002.drop ((wrap64 (x7 + 1)) : Int).toNat : List (S46))).bind fun y280 => (if y277.length + y280.length < 4398046511104 then (spec_l15Next.l0 k (wrap64 (x6 - 1)) x1000 x1001 x1002 x253000 x253001 (y277 ++ y280)) else (none))) else (none)) else (none))) else (none))) else (none)) else (none))) else (if x267001 = true then (spec_l15Next.l0 k (wrap64 (x6 - 1)) x1000 x1001 x1002 x253000 x253001 x253002) else ((spec_l1Below.f x1000 x1001 x1002 5).bind fun bt287 => ((spec_l1Below.f x1000 bt287.2.1 bt287.2.2 x253000).bind fun bt290 => ((spec_MoveOf.f k x253000 x253001 x253002 x267000 false bt287.1).bind fun t293 => (if t293 < 0 then (if (x253002.length : Int) < 12 then (if x253002.length < 4398046511104 then (spec_l15Next.l0 k (wrap64 (x6 - 1)) x1000 bt290.2.1 bt290.2.2 x253000 x253001 (x253002 ++ [(⟨x267000, x267001, bt287.1, bt290.1⟩ : S46)])) else (none)) else (spec_l15Next.l0 k (wrap64 (x6 - 1)) x1000 bt290.2.1 bt290.2.2 x253000 x253001 x253002)) else (spec_l15Next.l0 k (wrap64 (x6 - 1)) x1000 bt290.2.1 bt290.2.2 x253000 x253001 x253002))))))
end
def spec_l15Next.f (k : Nat) (s0_0 : List Int) (s0_1 : Int) (s0_2 : Int) (a1_0 : Int) (l1_1 : List Bool) (l1_2 : List (S46)) : Option (Int × List Bool × (List (S46)) × Int × Int) := (spec_DualOf.f k a1_0 l1_1 l1_2).bind fun bt238 => ((spec_DualOf.f k bt238.1 bt238.2.1 bt238.2.2).bind fun bt245 => ((spec_l1Below.f s0_0 s0_1 s0_2 3).bind fun bt253 => (spec_l15Next.l0 k bt253.1 s0_0 bt253.2.1 bt253.2.2 bt245.1 bt245.2.1 bt245.2.2)))
theorem spec_l15Next.mono_l : ∀ k, (∀ y0 y1 y2 y3 y4 y5 y6, LeO (spec_l15Next.l0 k y0 y1 y2 y3 y4 y5 y6) (spec_l15Next.l0 (k + 1) y0 y1 y2 y3 y4 y5 y6)) ∧ (∀ y0 y1 y2 y3 y4 y5 y6 y7, LeO (spec_l15Next.j1 k y0 y1 y2 y3 y4 y5 y6 y7) (spec_l15Next.j1 (k + 1) y0 y1 y2 y3 y4 y5 y6 y7)) ∧ (∀ y0 y1 y2 y3 y4 y5 y6 y7 y8 y9 y10 y11 y12, LeO (spec_l15Next.j2 k y0 y1 y2 y3 y4 y5 y6 y7 y8 y9 y10 y11 y12) (spec_l15Next.j2 (k + 1) y0 y1 y2 y3 y4 y5 y6 y7 y8 y9 y10 y11 y12))
 | 0 => ⟨fun _ _ _ _ _ _ _ r h => by simp [spec_l15Next.l0] at h, fun _ _ _ _ _ _ _ _ r h => by simp [spec_l15Next.j1] at h, fun _ _ _ _ _ _ _ _ _ _ _ _ _ r h => by simp [spec_l15Next.j2] at h⟩
 | k + 1 => by
  obtain ⟨ih0, ih1, ih2⟩ := spec_l15Next.mono_l k
  refine ⟨?a0, ?a1, ?a2⟩
  case' a0 => intros; unfold spec_l15Next.l0
  case' a1 => intros; unfold spec_l15Next.j1
  case' a2 => intros; unfold spec_l15Next.j2
  all_goals repeat' first
  | (with_reducible exact ih0 _ _ _ _ _ _ _)
  | (with_reducible exact ih1 _ _ _ _ _ _ _ _)
  | (with_reducible exact ih2 _ _ _ _ _ _ _ _ _ _ _ _ _)
  | (with_reducible exact spec_DualOf.mono _ _ _ _)
  | (with_reducible exact spec_MoveOf.mono _ _ _ _ _ _ _)
  | (with_reducible exact spec_MovesFrom.mono _ _ _ _ _ _)
  | (with_reducible exact LeO.refl _)
  | (with_reducible exact LeO.none _)
  | (with_reducible refine LeO.ite ?_ ?_)
  | (with_reducible refine LeO.bind ?_ (fun _ => ?_))
  | exact ih0 _ _ _ _ _ _ _
  | exact ih1 _ _ _ _ _ _ _ _
  | exact ih2 _ _ _ _ _ _ _ _ _ _ _ _ _
  | exact spec_DualOf.mono _ _ _ _
  | exact spec_MoveOf.mono _ _ _ _ _ _ _
  | exact spec_MovesFrom.mono _ _ _ _ _ _
  | exact LeO.none _
  | refine LeO.ite ?_ ?_
  | refine LeO.bind ?_ (fun _ => ?_)
theorem spec_l15Next.mono : ∀ a0 a1 a2 a3 a4 a5 k, LeO (spec_l15Next.f k a0 a1 a2 a3 a4 a5) (spec_l15Next.f (k + 1) a0 a1 a2 a3 a4 a5) := by
 intro a0 a1 a2 a3 a4 a5 k
 obtain ⟨ih0, ih1, ih2⟩ := spec_l15Next.mono_l k
 unfold spec_l15Next.f
 repeat' first
   | (with_reducible exact ih0 _ _ _ _ _ _ _)
   | (with_reducible exact ih1 _ _ _ _ _ _ _ _)
   | (with_reducible exact ih2 _ _ _ _ _ _ _ _ _ _ _ _ _)
   | (with_reducible exact spec_DualOf.mono _ _ _ _)
   | (with_reducible exact spec_MoveOf.mono _ _ _ _ _ _ _)
   | (with_reducible exact spec_MovesFrom.mono _ _ _ _ _ _)
   | (with_reducible exact LeO.refl _)
   | (with_reducible exact LeO.none _)
   | (with_reducible refine LeO.ite ?_ ?_)
   | (with_reducible refine LeO.bind ?_ (fun _ => ?_))
   | exact ih0 _ _ _ _ _ _ _
   | exact ih1 _ _ _ _ _ _ _ _
   | exact ih2 _ _ _ _ _ _ _ _ _ _ _ _ _
   | exact spec_DualOf.mono _ _ _ _
   | exact spec_MoveOf.mono _ _ _ _ _ _ _
   | exact spec_MovesFrom.mono _ _ _ _ _ _
   | exact LeO.none _
   | refine LeO.ite ?_ ?_
   | refine LeO.bind ?_ (fun _ => ?_)
def spec_l15Next.T8 : Bool × List (List Nat × List Nat) := (true, [([], []), ([], []), ([1], [1]), ([], []), ([2, 3], [2, 3]), ([0, 4], [0, 4]), ([], []), ([6], [6]), ([], []), ([8], [8]), ([7, 9], [7, 9]), ([5, 10, 5], [5, 10]), ([0, 1, 2, 3, 4, 5, 6, 7, 8, 9, 10, 11], []), ([12, 11, 11, 0, 1, 2, 3, 4, 5, 6, 7, 8, 9, 10, 11], [11, 12])])
def spec_l15Next.B8 : List Nat := [0, 0, 2, 0, 14, 31, 0, 64, 0, 256, 960, 2047, 4095, 8191]
theorem spec_l15Next.tab8 : rtab .any (opsOf Try.f34 8) = spec_l15Next.T8 := by kernel_rfl
theorem spec_l15Next.bits8 : waitsOk spec_l15Next.T8.2 spec_l15Next.B8 = true := by kernel_rfl
theorem spec_l15Next.zI69 {P Q : Prop} (h : Aside0 P) (hw : P → Q := by intro h_; repeat (first | (with_reducible first | exact h_ | apply IsS69.alloc | apply IsS69.drew | apply IsS69.drewN | apply IsS69.set_1 | apply IsS69.set_2 | refine IsS69.far ?_ (Aside0.out (by assumption)) _) | exact h_)) : Q := hw h.out
set_option maxHeartbeats 8000000 in
set_option maxRecDepth 100000 in
theorem spec_l15Next.calls (k : Nat) (g : Nat) (s0_0 : List Int) (s0_1 : Int) (s0_2 : Int) (a1_0 : Int) (A1_1 : Option Addr) (c1_1 : Nat) (l1_1 : List Bool) (A1_2 : Option Addr) (c1_2 : Nat) (l1_2 : List (S46)) (r1 : Int) (r2 : List Bool) (r3 : List (S46)) (r4 : Int) (r5 : Int) (w0 w : World) (hI : IsS69 w0 w g s0_0 s0_1 s0_2) (hB : Below w0.heap.size w0 w) (hr1_1 : Kd.C Kd.bool w A1_1 l1_1.length l1_1) (hc1_1 : l1_1.length ≤ c1_1) (hf1_1 : ∀ ad, A1_1 = some ad → 0 < l1_1.length → ad.block ≠ g) (hr1_2 : ∀ W_, KeepBut w W_ g none → Kd.C k46 W_ A1_2 l1_2.length l1_2) (hc1_2 : l1_2.length ≤ c1_2) (h : spec_l15Next.f k s0_0 s0_1 s0_2 a1_0 l1_1 l1_2 = some (r1, r2, r3, r4, r5)) :
  Calls Try.prog 34 #[.pointer (some ⟨g, 0, none⟩), .agg #[.int .i64 a1_0, .slice A1_1 l1_1.length c1_1, .slice A1_2 l1_2.length c1_2]] w fun e w' => ∃ v1_ v2_ : Value, e = .returned (.agg #[.int .i64 r1, v1_, v2_]) ∧ Kd.R Kd.bool 4 w' w.heap.size (fun _ => True) v1_ r2 ∧ Kd.R k46 46 w' w.heap.size (fun _ => True) v2_ r3 ∧ IsS69 w0 w' g s0_0 r4 r5 ∧ Below w0.heap.size w0 w' ∧ KeepBut w w' g none := by
 have hu27 := Try.underlying27
 have hu46 := Try.underlying46
 have HR1_1 := Aside0.mk hr1_1
 have HC1_1 := Aside0.mk hc1_1
 clear hr1_1 hc1_1
 have HR1_2 := Aside0.mk hr1_2
 have HC1_2 := Aside0.mk hc1_2
 clear hr1_2 hc1_2
 have HI0 := Aside0.mk hI
 have GI0 := Aside0.mk (IsS69.ge hI)
 have HK := Aside0.mk (KeepBut.refl w g none)
 have HL := Aside0.mk hB.size
 clear hI
 have HW0 := Aside0.mk hB.size
 have HB := Aside0.mk hB
 clear hB
 have H : ((spec_DualOf.f k a1_0 l1_1 l1_2).bind fun bt238 => ((spec_DualOf.f k bt238.1 bt238.2.1 bt238.2.2).bind fun bt245 => ((spec_l1Below.f s0_0 s0_1 s0_2 3).bind fun bt253 => (spec_l15Next.l0 k bt253.1 s0_0 bt253.2.1 bt253.2.2 bt245.1 bt245.2.1 bt245.2.2)))) = some (r1, r2, r3, r4, r5) := h
 clear h
 replace H := Option.bind_eq_some_iff.mp H
 obtain ⟨⟨t238, t239, t242⟩, A30, H⟩ := H
 dsimp only at H
 have A3 := Aside0.mk A30
 clear A30
 replace H := Option.bind_eq_some_iff.mp H
 obtain ⟨⟨t245, t246, t249⟩, A40, H⟩ := H
 dsimp only at H
 have A4 := Aside0.mk A40
 clear A40
 replace H := Option.bind_eq_some_iff.mp H
 obtain ⟨⟨t253, t254, t255⟩, A50, H⟩ := H
 dsimp only at H
 have A5 := Aside0.mk A50
 clear A50
 have H' := Aside0.mk H
 clear H
 go_enter Try.func34, Try.ntmps34
 go_wp2_with (first | ((with_reducible refine gate_dst (N := 3) rfl ?_); (try (refine gate_guard (by rfl) ?_; dsimp only)); refine box_event ?hg (N := 3) ?hd (cs := #[.int .i64 a1_0, .slice A1_1 l1_1.length c1_1, .slice A1_2 l1_2.length c1_2]) (t := 27) ?hr ?_; (case hd => rfl); (case hg => rfl); (case hr => first | (go_simp; done) | (go_simp; rfl)); intro gb236 hg w6 hbox hb; replace HB := bS HB hb; have BK236 := Aside0.mk (hbox); have GW236 := gK HK hg; have GE236 := gL HW0 GW236; replace HK := hkB HK hb; have NB0_236 := IsS69.nL HI0 hg; have NB236_0 := IsS69.nR HI0 hg; replace HI0 := Aside0.mk (IsS69.below (spec_l15Next.zI69 HI0) hb); clear hb hbox hg) | ((with_reducible refine gate_dst (N := 4) rfl ?_); (try (refine gate_guard (by rfl) ?_; dsimp only)); refine box_event ?hg (N := 4) ?hd (cs := #[.int .i64 0, .slice none 0 0, .slice none 0 0]) (t := 27) ?hr ?_; (case hd => rfl); (case hg => rfl); (case hr => first | (go_simp; done) | (go_simp; rfl)); intro gb237 hg w7 hbox hb; replace HB := bS HB hb; have BK237 := Aside0.mk (hbox); have GW237 := gK HK hg; have GE237 := gL HW0 GW237; replace HK := hkB HK hb; have NB236_237 := nL BK236 hg; have NB237_236 := nR BK236 hg; replace BK236 := kB BK236 hb; have NB0_237 := IsS69.nL HI0 hg; have NB237_0 := IsS69.nR HI0 hg; replace HI0 := Aside0.mk (IsS69.below (spec_l15Next.zI69 HI0) hb); clear hb hbox hg; have hnb8 := NB236_237.out; have hnc8 := NB237_236.out; have hnb9 := NB236_0.out; have hnc9 := NB0_236.out; obtain ⟨hcz10_0, hcz10_1, hcz10_2, hfz10_0, hfz10_1, hfz10_2⟩ := bq3 BK236) | ((with_reducible refine gate_callee (f := 49) rfl ?_); refine goesL_ (some 10) rfl rfl Try.func49 (by kernel_rfl) rfl #[.agg #[.int .i64 a1_0, .slice A1_1 l1_1.length c1_1, .slice A1_2 l1_2.length c1_2]] rfl zG ?_; (with_reducible refine (spec_DualOf.calls k a1_0 _ _ l1_1 _ _ l1_2 t238 t239 t242 _ ?side1 ?side2 ?side3 ?side4 A3.out).mono ?_); (case side1 => exact Kd.C_keep false HR1_1.out (zH HK) hf1_1); (case side2 => exact HC1_1.out); (case side3 => exact Kd.C_foot_now HR1_2.out (zH HK)); (case side4 => exact HC1_2.out); rintro e w11 ⟨v240, v243, rfl, ho0, ho1, hb⟩; refine ⟨_, rfl, ?_⟩; have HO241 := Aside0.mk (Kd.R_lower ho0 (keep_size (w := w) (g := g) (row := none) (zH HK))); have HO244 := Aside0.mk (Kd.R_lower ho1 (keep_size (w := w) (g := g) (row := none) (zH HK))); replace BK236 := kB BK236 hb; replace BK237 := kB BK237 hb; replace HK := hkB HK hb; replace HB := bS HB hb; replace HI0 := Aside0.mk (IsS69.below (spec_l15Next.zI69 HI0) hb); (try clear hb); (try clear ho0); (try clear ho1); obtain ⟨Ao12, co12, eo12⟩ := Kd.R_slice HO241.out; subst eo12; obtain ⟨Ao13, co13, eo13⟩ := Kd.R_slice HO244.out; subst eo13) | ((with_reducible refine gate_callee (f := 49) rfl ?_); refine goesL_ (some 11) rfl rfl Try.func49 (by kernel_rfl) rfl #[.agg #[.int .i64 t238, .slice Ao12 t239.length co12, .slice Ao13 t242.length co13]] rfl zG ?_; (with_reducible refine (spec_DualOf.calls k t238 _ _ t239 _ _ t242 t245 t246 t249 _ ?side1 ?side2 ?side3 ?side4 A4.out).mono ?_); (case side1 => exact cU (Kd.R_reads' HO241.out).2.2); (case side2 => exact (Kd.R_reads' HO241.out).2.1); (case side3 => exact cU (Kd.R_reads' HO244.out).2.2); (case side4 => exact (Kd.R_reads' HO244.out).2.1); rintro e w14 ⟨v247, v250, rfl, ho0, ho1, hb⟩; refine ⟨_, rfl, ?_⟩; have HO248 := Aside0.mk (Kd.R_lower (Kd.R_new' ho0 (Kd.R_lt (zR HO241))) (keep_size (w := w) (g := g) (row := none) (zH HK))); replace HO241 := Aside0.mk (Kd.R_elder' (zR HO241) (Kd.R_base ho0) hb); have HO251 := Aside0.mk (Kd.R_lower (Kd.R_new' ho1 (Kd.R_lt (zR HO244))) (keep_size (w := w) (g := g) (row := none) (zH HK))); replace HO244 := Aside0.mk (Kd.R_elder' (zR HO244) (Kd.R_base ho1) hb); replace BK236 := kB BK236 hb; replace BK237 := kB BK237 hb; replace HK := hkB HK hb; replace HB := bS HB hb; replace HI0 := Aside0.mk (IsS69.below (spec_l15Next.zI69 HI0) hb); (try clear hb); (try clear ho0); (try clear ho1)) | ((with_reducible refine gate_dst (N := 5) rfl ?_); (try (refine gate_guard (by rfl) ?_; dsimp only)); refine box_event ?hg (N := 5) ?hd (cs := #[.int .i64 0, .slice none 0 0, .slice none 0 0]) (t := 27) ?hr ?_; (case hd => rfl); (case hg => rfl); (case hr => first | (go_simp; done) | (go_simp; rfl)); intro gb252 hg w15 hbox hb; replace HO241 := Aside0.mk (Kd.R_below (zR HO241) hb); replace HO244 := Aside0.mk (Kd.R_below (zR HO244) hb); replace HO248 := Aside0.mk (Kd.R_below (zR HO248) hb); replace HO251 := Aside0.mk (Kd.R_below (zR HO251) hb); replace HB := bS HB hb; have BK252 := Aside0.mk (hbox); have GW252 := gK HK hg; have GE252 := gL HW0 GW252; replace HK := hkB HK hb; have NB236_252 := nL BK236 hg; have NB252_236 := nR BK236 hg; replace BK236 := kB BK236 hb; have NB237_252 := nL BK237 hg; have NB252_237 := nR BK237 hg; replace BK237 := kB BK237 hb; have NB0_252 := IsS69.nL HI0 hg; have NB252_0 := IsS69.nR HI0 hg; replace HI0 := Aside0.mk (IsS69.below (spec_l15Next.zI69 HI0) hb); clear hb hbox hg; have hnb16 := NB252_236.out; have hnc16 := NB236_252.out; have hnb17 := NB252_237.out; have hnc17 := NB237_252.out; have hnb18 := NB252_0.out; have hnc18 := NB0_252.out; obtain ⟨hcz19_0, hcz19_1, hcz19_2, hfz19_0, hfz19_1, hfz19_2⟩ := bq3 BK252; obtain ⟨Ao20, co20, eo20⟩ := Kd.R_slice HO248.out; subst eo20; obtain ⟨Ao21, co21, eo21⟩ := Kd.R_slice HO251.out; subst eo21) | ((with_reducible refine gate_callee (f := 33) rfl ?_); refine goesL_ (some 13) rfl rfl Try.func33 (by kernel_rfl) rfl #[.pointer (some ⟨g, 0, none⟩), .int .i64 3] rfl zG ?_; (with_reducible refine (spec_l1Below.calls g s0_0 s0_1 s0_2 3 t253 t254 t255 w0 _ ?side1 ?side2 A5.out).mono ?_); (case side1 => exact spec_l15Next.zI69 HI0); (case side2 => exact zB HB); rintro e w22 ⟨rfl, hi, hb, hk⟩; refine ⟨_, rfl, ?_⟩; replace BK236 := kbT hk BK236 NB236_0; replace BK237 := kbT hk BK237 NB237_0; replace HO241 := Aside0.mk (Kd.R_mono (Kd.R_keep (IsS69.apart (show IsS69 w0 _ g s0_0 s0_1 s0_2 from spec_l15Next.zI69 HI0) ((Kd.R_mono (rB HO241 BK252) (fun _ h_ => h_.1))) (by decide)) hk (fun _ h => h.2)) (fun _ h => h.1)); replace HO244 := Aside0.mk (Kd.R_mono (Kd.R_keep (IsS69.apart (show IsS69 w0 _ g s0_0 s0_1 s0_2 from spec_l15Next.zI69 HI0) ((Kd.R_mono (rB HO244 BK252) (fun _ h_ => h_.1))) (by decide)) hk (fun _ h => h.2)) (fun _ h => h.1)); replace HO248 := Aside0.mk (Kd.R_mono (Kd.R_keep (IsS69.apart (show IsS69 w0 _ g s0_0 s0_1 s0_2 from spec_l15Next.zI69 HI0) ((Kd.R_mono (rB HO248 BK252) (fun _ h_ => h_.1))) (by decide)) hk (fun _ h => h.2)) (fun _ h => h.1)); replace HO251 := Aside0.mk (Kd.R_mono (Kd.R_keep (IsS69.apart (show IsS69 w0 _ g s0_0 s0_1 s0_2 from spec_l15Next.zI69 HI0) ((Kd.R_mono (rB HO251 BK252) (fun _ h_ => h_.1))) (by decide)) hk (fun _ h => h.2)) (fun _ h => h.1)); replace BK252 := Aside0.mk (KeepBut.blk hk (g' := gb252) (o := .cells #[.int .i64 t245, .slice Ao20 t246.length co20, .slice Ao21 t249.length co21] 27 (0, 0)) (by (with_reducible repeat (first | refine blk_drewN ?_ _ | refine blk_drew ?_ | refine blk_alloc ?_ _)); refine blk_put (cs := #[.int .i64 t245, .slice Ao20 t246.length co20, .slice none 0 0]) ?_ 2 _ rfl; (with_reducible repeat (first | refine blk_drewN ?_ _ | refine blk_drew ?_ | refine blk_alloc ?_ _)); refine blk_put (cs := #[.int .i64 t245, .slice none 0 0, .slice none 0 0]) ?_ 1 _ rfl; (with_reducible repeat (first | refine blk_drewN ?_ _ | refine blk_drew ?_ | refine blk_alloc ?_ _)); refine blk_put (cs := #[.int .i64 0, .slice none 0 0, .slice none 0 0]) ?_ 0 _ rfl; (with_reducible repeat (first | refine blk_drewN ?_ _ | refine blk_drew ?_ | refine blk_alloc ?_ _)); exact BK252.out) NB252_0.out (by simp)); replace HK := hkT HK hk; replace HB := Aside0.mk (hb); replace HI0 := Aside0.mk (hi); (try clear hb)))
 go_loopg [6] k (fun kq v6 w' => ∃ (x6_1 : Int) (x1001_1 : Int) (x1002_1 : Int) (x253002_1 : List (S46)) (u253002 : Value), v6 = .int .i64 x6_1 ∧ Aside0 (spec_l15Next.l0 kq x6_1 s0_0 x1001_1 x1002_1 t245 t246 x253002_1 = some (r1, r2, r3, r4, r5)) ∧ Aside0 (kq ≤ k) ∧ Aside0 (Kd.R Kd.bool 4 w' w.heap.size (fun _ => True) (.slice Ao20 t246.length co20) t246) ∧ Aside0 (Kd.R k46 46 w' w.heap.size (fun _ => True) u253002 x253002_1) ∧ Aside0 (w'.heap[gb236]? = some (.cells #[.int .i64 a1_0, (.slice A1_1 l1_1.length c1_1), (.slice A1_2 l1_2.length c1_2)] 27 (0, 0))) ∧ Aside0 (w'.heap[gb237]? = some (.cells #[.int .i64 0, (.slice none 0 0), (.slice none 0 0)] 27 (0, 0))) ∧ Aside0 (w'.heap[gb252]? = some (.cells #[.int .i64 t245, (.slice Ao20 t246.length co20), u253002] 27 (0, 0))) ∧ Aside0 (IsS69 w0 w' g s0_0 x1001_1 x1002_1) ∧ Aside0 (KeepBut w w' g none) ∧ Aside0 (Below w0.heap.size w0 w'))
 case atStart => exact ⟨(t253), (t254), (t255), (t249), (.slice Ao21 t249.length co21), zF, H', ⟨Nat.le_refl _⟩, ⟨by (with_reducible repeat (first | apply Kd.R_alloc | apply Kd.R_drewN | apply Kd.R_drew)); exact Kd.R_mono HO248.out (fun _ hk => trivial)⟩, ⟨by (with_reducible repeat (first | apply Kd.R_alloc | apply Kd.R_drewN | apply Kd.R_drew)); exact Kd.R_mono HO251.out (fun _ hk => trivial)⟩, ⟨zK BK236⟩, ⟨zK BK237⟩, ⟨zK BK252⟩, ⟨spec_l15Next.zI69 HI0⟩, ⟨zH HK⟩, ⟨zB HB⟩⟩
 case round =>
  clear H'
  try clear c1
  try clear p2
  try clear c3
  try clear c4
  try clear c8
  try clear c9
  try clear c16
  try clear c17
  try clear c18
  try clear hcz10_0
  try clear hcz10_1
  try clear hcz10_2
  try clear hcz19_0
  try clear hcz19_1
  try clear hcz19_2
  try clear hfz10_0
  try clear hfz10_1
  try clear hfz10_2
  try clear hfz19_0
  try clear hfz19_1
  try clear hfz19_2
  obtain ⟨x6_1, x1001_1, x1002_1, x253002_1, u253002, rfl, HA, HK1, HO_253001, HO_253002, BK236, BK237, BK252, HI0, HK, HB⟩ := hrel
  cases gk with
  | zero => exact absurd HA.out (by simp [spec_l15Next.l0])
  | succ k1 =>
   have H := HA.out
   clear HA
   simp only [spec_l15Next.l0] at H
   have HC23 := Aside0.mk H
   clear H
   go_upto_region 3 with (fail)
   go_cut [21] (fun v21 wc => ∃ (kq : Nat) (x21_22 : Bool), v21 = .bool x21_22 ∧ Aside0 (spec_l15Next.j1 kq x6_1 x21_22 s0_0 x1001_1 x1002_1 t245 t246 x253002_1 = some (r1, r2, r3, r4, r5)) ∧ Aside0 (kq ≤ k1) ∧ Aside0 (Kd.R Kd.bool 4 wc w.heap.size (fun _ => True) (.slice Ao20 t246.length co20) t246) ∧ Aside0 (Kd.R k46 46 wc w.heap.size (fun _ => True) u253002 x253002_1) ∧ Aside0 (wc.heap[gb236]? = some (.cells #[.int .i64 a1_0, (.slice A1_1 l1_1.length c1_1), (.slice A1_2 l1_2.length c1_2)] 27 (0, 0))) ∧ Aside0 (wc.heap[gb237]? = some (.cells #[.int .i64 0, (.slice none 0 0), (.slice none 0 0)] 27 (0, 0))) ∧ Aside0 (wc.heap[gb252]? = some (.cells #[.int .i64 t245, (.slice Ao20 t246.length co20), u253002] 27 (0, 0))) ∧ Aside0 (IsS69 w0 wc g s0_0 x1001_1 x1002_1) ∧ Aside0 (KeepBut w wc g none) ∧ Aside0 (Below w0.heap.size w0 wc))
   case first =>
    have H := HC23.out
    clear HC23
    by_cases c24 : x6_1 > 0
    ·rw [if_pos c24] at H
     have c24b0 : decide (0 < x6_1) = true := decide_eq_true c24
     clear c24
     (first | rw [c24b0] | (simp only [i64_w, i32_w]; rw [c24b0]) | skip)
     have H' := Aside0.mk H
     clear H
     have hnb25 := NB252_236.out
     have hnc25 := NB236_252.out
     have hnb26 := NB252_237.out
     have hnc26 := NB237_252.out
     have hnb27 := NB252_0.out
     have hnc27 := NB0_252.out
     obtain ⟨hcz28_0, hcz28_1, hcz28_2, hfz28_0, hfz28_1, hfz28_2⟩ := bq3 BK252
     obtain ⟨Ao29, co29, eo29⟩ := Kd.R_slice HO_253002.out
     subst eo29
     go_wp2
     go_meet
     case rel => exact ⟨_, (decide ((x253002_1.length : Int) > 0)), zF, H', ⟨by have := HK1.out; first | omega | exact Nat.le_refl _⟩, ⟨zR HO_253001⟩, ⟨zR HO_253002⟩, ⟨zK BK236⟩, ⟨zK BK237⟩, ⟨zK BK252⟩, ⟨spec_l15Next.zI69 HI0⟩, ⟨zH HK⟩, ⟨zB HB⟩⟩
    ·rw [if_neg c24] at H
     have c24b0 : decide (0 < x6_1) = false := decide_eq_false c24
     clear c24
     (first | rw [c24b0] | (simp only [i64_w, i32_w]; rw [c24b0]) | skip)
     have H' := Aside0.mk H
     clear H
     go_wp2
     go_meet
     case rel => exact ⟨_, (false), zF, H', ⟨by have := HK1.out; first | omega | exact Nat.le_refl _⟩, ⟨zR HO_253001⟩, ⟨zR HO_253002⟩, ⟨zK BK236⟩, ⟨zK BK237⟩, ⟨zK BK252⟩, ⟨spec_l15Next.zI69 HI0⟩, ⟨zH HK⟩, ⟨zB HB⟩⟩
   case rest =>
    clear HC23
    try clear c1
    try clear c2
    try clear p2
    try clear c3
    try clear c4
    try clear c8
    try clear c9
    try clear c16
    try clear c17
    try clear c18
    try clear c24
    try clear c24b0
    try clear c25
    try clear c26
    try clear c27
    try clear hcz10_0
    try clear hcz10_1
    try clear hcz10_2
    try clear hcz19_0
    try clear hcz19_1
    try clear hcz19_2
    try clear hcz28_0
    try clear hcz28_1
    try clear hcz28_2
    try clear hfz10_0
    try clear hfz10_1
    try clear hfz10_2
    try clear hfz19_0
    try clear hfz19_1
    try clear hfz19_2
    try clear hfz28_0
    try clear hfz28_1
    try clear hfz28_2
    try clear p2
    obtain ⟨kq, x21_22, rfl, HA, HJ22, HO_253001, HO_253002, BK236, BK237, BK252, HI0, HK, HB⟩ := hcut
    cases kq with
    | zero => exact absurd HA.out (by simp [spec_l15Next.j1])
    | succ kj22 =>
     have H := HA.out
     clear HA
     simp only [spec_l15Next.j1] at H
     by_cases c30 : x21_22 = true
     ·subst c30
      have H1 : ((spec_l1Below.f s0_0 x1001_1 x1002_1 (x253002_1.length : Int)).bind fun bt262 => (if 0 ≤ bt262.1 then (if bt262.1 < (x253002_1.length : Int) then (if (rd_T46 x253002_1 bt262.1).f1 = true then ((spec_MovesFrom.f kj22 t245 t246 x253002_1 ((rd_T46 x253002_1 bt262.1).f0) true).bind fun t267 => (spec_l15Next.j2 kj22 x6_1 bt262.1 (decide ((t267.length : Int) > 1)) s0_0 bt262.2.1 bt262.2.2 t245 t246 x253002_1 ((rd_T46 x253002_1 bt262.1).f0) ((rd_T46 x253002_1 bt262.1).f1) ((rd_T46 x253002_1 bt262.1).f2) ((rd_T46 x253002_1 bt262.1).f3))) else (spec_l15Next.j2 kj22 x6_1 bt262.1 false s0_0 bt262.2.1 bt262.2.2 t245 t246 x253002_1 ((rd_T46 x253002_1 bt262.1).f0) ((rd_T46 x253002_1 bt262.1).f1) ((rd_T46 x253002_1 bt262.1).f2) ((rd_T46 x253002_1 bt262.1).f3))) else (none)) else (none))) = some (r1, r2, r3, r4, r5) := by rw [if_pos rfl] at H; exact H
      clear H
      have H := H1
      clear H1
      replace H := Option.bind_eq_some_iff.mp H
      obtain ⟨⟨t262, t263, t264⟩, A310, H⟩ := H
      dsimp only at H
      have A31 := Aside0.mk A310
      clear A310
      obtain ⟨c32, H⟩ := ifS H
      have c32b0 : decide (0 ≤ t262) = true := decide_eq_true c32
      clear c32
      obtain ⟨c33, H⟩ := ifS H
      have c33b0 : decide (t262 < (x253002_1.length : Int)) = true := decide_eq_true c33
      clear c33
      have HC34 := Aside0.mk H
      clear H
      have hnb35 := NB252_236.out
      have hnc35 := NB236_252.out
      have hnb36 := NB252_237.out
      have hnc36 := NB237_252.out
      have hnb37 := NB252_0.out
      have hnc37 := NB0_252.out
      obtain ⟨hcz38_0, hcz38_1, hcz38_2, hfz38_0, hfz38_1, hfz38_2⟩ := bq3 BK252
      obtain ⟨Ao39, co39, eo39⟩ := Kd.R_slice HO_253002.out
      subst eo39
      go_upto_region 7 with (first | ((with_reducible refine gate_callee (f := 33) rfl ?_); refine goesL_ (some 28) rfl rfl Try.func33 (by kernel_rfl) rfl #[.pointer (some ⟨g, 0, none⟩), .int .i64 (x253002_1.length : Int)] rfl zG ?_; (with_reducible refine (spec_l1Below.calls g s0_0 x1001_1 x1002_1 (x253002_1.length : Int) t262 t263 t264 w0 _ ?side1 ?side2 A31.out).mono ?_); (case side1 => exact spec_l15Next.zI69 HI0); (case side2 => exact zB HB); rintro e w40 ⟨rfl, hi, hb, hk⟩; refine ⟨_, rfl, ?_⟩; replace HO_253001 := IsS69.kR HI0 HO_253001 hk; replace HO_253002 := IsS69.kR HI0 HO_253002 hk; replace BK236 := kbT hk BK236 NB236_0; replace BK237 := kbT hk BK237 NB237_0; replace BK252 := kbT hk BK252 NB252_0; replace HK := hkT HK hk; replace HB := Aside0.mk (hb); replace HI0 := Aside0.mk (hi); (try clear hb); obtain ⟨hcz41_0, hcz41_1, hcz41_2, hfz41_0, hfz41_1, hfz41_2⟩ := bq3 BK252; have p265 : 0 ≤ (t262 : Int) := zD; have q265 : t262 < (x253002_1.length : Int) := zD; obtain ⟨ad265, e265, hx265_0, hx265_1, hx265_2, hx265_3⟩ := at_T46 (Kd.R_reads' HO_253002.out).2.2 t262 p265 q265; cases e265; replace p265 := eq_true p265; replace q265 := eq_true q265) | ((with_reducible refine gate_dst (N := 8) rfl ?_); (try (refine gate_guard (by rfl) ?_; dsimp only)); refine box_event ?hg (N := 8) ?hd (cs := #[.int .i64 0, .bool false, .int .i64 0, .int .i64 0]) (t := 46) ?hr ?_; (case hd => rfl); (case hg => rfl); (case hr => first | (go_simp; done) | (go_simp; rfl)); intro gb266 hg w42 hbox hb; replace HO_253001 := Aside0.mk (Kd.R_below (zR HO_253001) hb); replace HO_253002 := Aside0.mk (Kd.R_below (Kd.R_elderB (zR HO_253002) gb266 (Nat.le_of_eq hg.symm)) hb); replace HB := bS HB hb; have BK266 := Aside0.mk (hbox); have GW266 := gK HK hg; have GE266 := gL HW0 GW266; replace HK := hkB HK hb; have NB236_266 := nL BK236 hg; have NB266_236 := nR BK236 hg; replace BK236 := kB BK236 hb; have NB237_266 := nL BK237 hg; have NB266_237 := nR BK237 hg; replace BK237 := kB BK237 hb; have NB252_266 := nL BK252 hg; have NB266_252 := nR BK252 hg; replace BK252 := kB BK252 hb; have NB0_266 := IsS69.nL HI0 hg; have NB266_0 := IsS69.nR HI0 hg; replace HI0 := Aside0.mk (IsS69.below (spec_l15Next.zI69 HI0) hb); clear hb hbox hg; have hnb43 := NB266_236.out; have hnc43 := NB236_266.out; have hnb44 := NB266_237.out; have hnc44 := NB237_266.out; have hnb45 := NB266_252.out; have hnc45 := NB252_266.out; have hnb46 := NB266_0.out; have hnc46 := NB0_266.out; obtain ⟨hcz47_0, hcz47_1, hcz47_2, hcz47_3, hfz47_0, hfz47_1, hfz47_2, hfz47_3⟩ := bq4 BK266))
      (try simp only [Act.put, List.setIfInBounds_toArray, List.set_cons_zero, List.set_cons_succ])
      obtain ⟨bq48, hbq48⟩ : ∃ b_ : Bool, b_ = ((rd_T46 x253002_1 t262).f1) := ⟨_, rfl⟩
      (try rw [← hbq48])
      have Nbq48 := Aside0.mk hbq48
      clear hbq48
      go_cut [43] (fun v43 wc => ∃ (kq : Nat) (x43_33 : Bool), v43 = .bool x43_33 ∧ Aside0 (spec_l15Next.j2 kq x6_1 t262 x43_33 s0_0 t263 t264 t245 t246 x253002_1 ((rd_T46 x253002_1 t262).f0) bq48 ((rd_T46 x253002_1 t262).f2) ((rd_T46 x253002_1 t262).f3) = some (r1, r2, r3, r4, r5)) ∧ Aside0 (kq ≤ kj22) ∧ Aside0 (Kd.R Kd.bool 4 wc w.heap.size (fun _ => True) (.slice Ao20 t246.length co20) t246) ∧ Aside0 (Kd.R k46 46 wc w.heap.size (fun k_ => k_ ≠ gb266) (.slice (some ad265) x253002_1.length co39) x253002_1) ∧ Aside0 (wc.heap[gb236]? = some (.cells #[.int .i64 a1_0, (.slice A1_1 l1_1.length c1_1), (.slice A1_2 l1_2.length c1_2)] 27 (0, 0))) ∧ Aside0 (wc.heap[gb237]? = some (.cells #[.int .i64 0, (.slice none 0 0), (.slice none 0 0)] 27 (0, 0))) ∧ Aside0 (wc.heap[gb252]? = some (.cells #[.int .i64 t245, (.slice Ao20 t246.length co20), (.slice (some ad265) x253002_1.length co39)] 27 (0, 0))) ∧ Aside0 (wc.heap[gb266]? = some (.cells #[.int .i64 ((rd_T46 x253002_1 t262).f0), .bool bq48, .int .i64 ((rd_T46 x253002_1 t262).f2), .int .i64 ((rd_T46 x253002_1 t262).f3)] 46 (0, 0))) ∧ Aside0 (IsS69 w0 wc g s0_0 t263 t264) ∧ Aside0 (KeepBut w wc g none) ∧ Aside0 (Below w0.heap.size w0 wc))
      case first =>
       have H := HC34.out
       clear HC34
       replace H : (if bq48 = true then ((spec_MovesFrom.f kj22 t245 t246 x253002_1 ((rd_T46 x253002_1 t262).f0) true).bind fun t267 => (spec_l15Next.j2 kj22 x6_1 t262 (decide ((t267.length : Int) > 1)) s0_0 t263 t264 t245 t246 x253002_1 ((rd_T46 x253002_1 t262).f0) bq48 ((rd_T46 x253002_1 t262).f2) ((rd_T46 x253002_1 t262).f3))) else (spec_l15Next.j2 kj22 x6_1 t262 false s0_0 t263 t264 t245 t246 x253002_1 ((rd_T46 x253002_1 t262).f0) bq48 ((rd_T46 x253002_1 t262).f2) ((rd_T46 x253002_1 t262).f3))) = some (r1, r2, r3, r4, r5) := by rw [← Nbq48.out] at H; exact H
       by_cases c49 : bq48 = true
       ·subst c49
        rename_i hm1_ hm2_
        have hm3_ := hm1_
        clear hm1_
        have H1 : ((spec_MovesFrom.f kj22 t245 t246 x253002_1 ((rd_T46 x253002_1 t262).f0) true).bind fun t267 => (spec_l15Next.j2 kj22 x6_1 t262 (decide ((t267.length : Int) > 1)) s0_0 t263 t264 t245 t246 x253002_1 ((rd_T46 x253002_1 t262).f0) true ((rd_T46 x253002_1 t262).f2) ((rd_T46 x253002_1 t262).f3))) = some (r1, r2, r3, r4, r5) := by rw [if_pos rfl] at H; exact H
        clear H
        have H := H1
        clear H1
        obtain ⟨t267, A50, H⟩ := bindS H
        have H' := Aside0.mk H
        clear H
        have hnb51 := NB266_236.out
        have hnc51 := NB236_266.out
        have hnb52 := NB266_237.out
        have hnc52 := NB237_266.out
        have hnb53 := NB266_252.out
        have hnc53 := NB252_266.out
        have hnb54 := NB266_0.out
        have hnc54 := NB0_266.out
        obtain ⟨hcz55_0, hcz55_1, hcz55_2, hcz55_3, hfz55_0, hfz55_1, hfz55_2, hfz55_3⟩ := bq4 BK266
        have hnb56 := NB252_236.out
        have hnc56 := NB236_252.out
        have hnb57 := NB252_237.out
        have hnc57 := NB237_252.out
        have hnb58 := NB252_0.out
        have hnc58 := NB0_252.out
        obtain ⟨hcz59_0, hcz59_1, hcz59_2, hfz59_0, hfz59_1, hfz59_2⟩ := bq3 BK252
        go_wp2_with (first | (go_at_call 25; (with_reducible refine (spec_MovesFrom.calls kj22 t245 _ _ t246 _ _ x253002_1 ((rd_T46 x253002_1 t262).f0) true t267 _ ?side1 ?side2 ?side3 ?side4 A50.out).mono ?_); (case side1 => refine (Kd.R_reads' (e := 4) (base := w.heap.size) (ok := fun k_ => True) (n := t246.length) (c := co20) ?_).2.2; exact ((Kd.R_mono (rB HO_253001 BK266) (fun _ h_ => h_.1)))); (case side2 => exact (Kd.R_reads' HO_253001.out).2.1); (case side3 => refine (Kd.R_reads' (e := 46) (base := w.heap.size) (ok := fun k_ => (True ∧ k_ ≠ gb266)) (n := x253002_1.length) (c := co39) ?_).2.2; exact (by (with_reducible repeat (first | apply Kd.R_alloc | apply Kd.R_drewN | apply Kd.R_drew)); exact (Kd.R_mono (Kd.R_far (p := ⟨gb266, 3, none⟩) (Kd.R_far (p := ⟨gb266, 2, none⟩) (Kd.R_far (p := ⟨gb266, 1, none⟩) (Kd.R_far (p := ⟨gb266, 0, none⟩) (Kd.R_mono HO_253002.out (fun k_ hk => (⟨hk, hk.2⟩ : _ ∧ k_ ≠ gb266))) (fun _ hk => hk.2) (.int .i64 ((rd_T46 x253002_1 t262).f0))) (fun _ hk => hk.2) (.bool (true))) (fun _ hk => hk.2) (.int .i64 ((rd_T46 x253002_1 t262).f2))) (fun _ hk => hk.2) (.int .i64 ((rd_T46 x253002_1 t262).f3))) (fun _ h_ => h_.1)))); (case side4 => exact (Kd.R_reads' HO_253002.out).2.1); rintro e w60 ⟨v268, rfl, ho0, hb⟩; replace HO_253001 := Aside0.mk (Kd.R_below ((Kd.R_mono (rB HO_253001 BK266) (fun _ h_ => h_.1))) hb); replace HO_253002 := Aside0.mk (Kd.R_below (by (with_reducible repeat (first | apply Kd.R_alloc | apply Kd.R_drewN | apply Kd.R_drew)); exact (Kd.R_mono (Kd.R_far (p := ⟨gb266, 3, none⟩) (Kd.R_far (p := ⟨gb266, 2, none⟩) (Kd.R_far (p := ⟨gb266, 1, none⟩) (Kd.R_far (p := ⟨gb266, 0, none⟩) (Kd.R_mono HO_253002.out (fun k_ hk => (⟨hk, hk.2⟩ : _ ∧ k_ ≠ gb266))) (fun _ hk => hk.2) (.int .i64 ((rd_T46 x253002_1 t262).f0))) (fun _ hk => hk.2) (.bool (true))) (fun _ hk => hk.2) (.int .i64 ((rd_T46 x253002_1 t262).f2))) (fun _ hk => hk.2) (.int .i64 ((rd_T46 x253002_1 t262).f3))) (fun _ h_ => h_.1))) hb); have HO269 := Aside0.mk (Kd.R_lower ho0 (keep_size (w := w) (g := g) (row := none) (zH HK))); replace BK236 := Aside0.mk (blk_below (kF BK236) hb); replace BK237 := Aside0.mk (blk_below (kF BK237) hb); replace BK252 := Aside0.mk (blk_below (kF BK252) hb); replace BK266 := Aside0.mk (blk_below (g := gb266) (o := .cells #[.int .i64 ((rd_T46 x253002_1 t262).f0), .bool true, .int .i64 ((rd_T46 x253002_1 t262).f2), .int .i64 ((rd_T46 x253002_1 t262).f3)] 46 (0, 0)) (by (with_reducible repeat (first | refine blk_drewN ?_ _ | refine blk_drew ?_ | refine blk_alloc ?_ _)); refine blk_put (cs := #[.int .i64 ((rd_T46 x253002_1 t262).f0), .bool (true), .int .i64 ((rd_T46 x253002_1 t262).f2), .int .i64 0]) ?_ 3 _ rfl; (with_reducible repeat (first | refine blk_drewN ?_ _ | refine blk_drew ?_ | refine blk_alloc ?_ _)); refine blk_put (cs := #[.int .i64 ((rd_T46 x253002_1 t262).f0), .bool (true), .int .i64 0, .int .i64 0]) ?_ 2 _ rfl; (with_reducible repeat (first | refine blk_drewN ?_ _ | refine blk_drew ?_ | refine blk_alloc ?_ _)); refine blk_put (cs := #[.int .i64 ((rd_T46 x253002_1 t262).f0), .bool false, .int .i64 0, .int .i64 0]) ?_ 1 _ rfl; (with_reducible repeat (first | refine blk_drewN ?_ _ | refine blk_drew ?_ | refine blk_alloc ?_ _)); refine blk_put (cs := #[.int .i64 0, .bool false, .int .i64 0, .int .i64 0]) ?_ 0 _ rfl; (with_reducible repeat (first | refine blk_drewN ?_ _ | refine blk_drew ?_ | refine blk_alloc ?_ _)); exact BK266.out) hb); replace HK := hkB HK hb; replace HB := bS HB hb; replace HI0 := Aside0.mk (IsS69.below (show IsS69 w0 ((((w42.setCell ⟨gb266, 0, none⟩ (.int .i64 ((rd_T46 x253002_1 t262).f0))).setCell ⟨gb266, 1, none⟩ (.bool (true))).setCell ⟨gb266, 2, none⟩ (.int .i64 ((rd_T46 x253002_1 t262).f2))).setCell ⟨gb266, 3, none⟩ (.int .i64 ((rd_T46 x253002_1 t262).f3))) g s0_0 t263 t264 from spec_l15Next.zI69 HI0) hb); (try clear hb); (try clear ho0); obtain ⟨Ao61, co61, eo61⟩ := Kd.R_slice HO269.out; subst eo61))
        go_meet
        case rel => exact ⟨_, (decide ((t267.length : Int) > 1)), zF, H', ⟨by have := HK1.out; have := HJ22.out; first | omega | exact Nat.le_refl _⟩, ⟨zR HO_253001⟩, ⟨by (with_reducible repeat (first | apply Kd.R_alloc | apply Kd.R_drewN | apply Kd.R_drew)); exact Kd.R_mono HO_253002.out (fun _ hk => hk.2)⟩, ⟨zK BK236⟩, ⟨zK BK237⟩, ⟨zK BK252⟩, ⟨zK BK266⟩, ⟨spec_l15Next.zI69 HI0⟩, ⟨zH HK⟩, ⟨zB HB⟩⟩
       ·replace c49 := Bool.eq_false_iff.mpr c49
        subst c49
        rename_i hm1_ hm2_
        have hm3_ := hm1_
        clear hm1_
        have H1 : (spec_l15Next.j2 kj22 x6_1 t262 false s0_0 t263 t264 t245 t246 x253002_1 ((rd_T46 x253002_1 t262).f0) false ((rd_T46 x253002_1 t262).f2) ((rd_T46 x253002_1 t262).f3)) = some (r1, r2, r3, r4, r5) := by rw [if_neg (show ¬ (false = true) by decide)] at H; exact H
        clear H
        have H := H1
        clear H1
        have H' := Aside0.mk H
        clear H
        have hnb62 := NB266_236.out
        have hnc62 := NB236_266.out
        have hnb63 := NB266_237.out
        have hnc63 := NB237_266.out
        have hnb64 := NB266_252.out
        have hnc64 := NB252_266.out
        have hnb65 := NB266_0.out
        have hnc65 := NB0_266.out
        obtain ⟨hcz66_0, hcz66_1, hcz66_2, hcz66_3, hfz66_0, hfz66_1, hfz66_2, hfz66_3⟩ := bq4 BK266
        go_wp2
        go_meet
        case rel => exact ⟨_, (false), zF, H', ⟨by have := HK1.out; have := HJ22.out; first | omega | exact Nat.le_refl _⟩, ⟨Kd.R_mono (rB HO_253001 BK266) (fun _ hk => trivial)⟩, ⟨by (with_reducible repeat (first | apply Kd.R_alloc | apply Kd.R_drewN | apply Kd.R_drew)); exact Kd.R_mono (Kd.R_far (p := ⟨gb266, 3, none⟩) (Kd.R_far (p := ⟨gb266, 2, none⟩) (Kd.R_far (p := ⟨gb266, 1, none⟩) (Kd.R_far (p := ⟨gb266, 0, none⟩) (Kd.R_mono HO_253002.out (fun k_ hk => (⟨hk, hk.2⟩ : _ ∧ k_ ≠ gb266))) (fun _ hk => hk.2) (.int .i64 ((rd_T46 x253002_1 t262).f0))) (fun _ hk => hk.2) (.bool (false))) (fun _ hk => hk.2) (.int .i64 ((rd_T46 x253002_1 t262).f2))) (fun _ hk => hk.2) (.int .i64 ((rd_T46 x253002_1 t262).f3))) (fun _ hk => hk.1.2)⟩, ⟨kF BK236⟩, ⟨kF BK237⟩, ⟨kF BK252⟩, ⟨by (with_reducible repeat (first | refine blk_drewN ?_ _ | refine blk_drew ?_ | refine blk_alloc ?_ _)); refine blk_put (cs := #[.int .i64 ((rd_T46 x253002_1 t262).f0), .bool (false), .int .i64 ((rd_T46 x253002_1 t262).f2), .int .i64 0]) ?_ 3 _ rfl; (with_reducible repeat (first | refine blk_drewN ?_ _ | refine blk_drew ?_ | refine blk_alloc ?_ _)); refine blk_put (cs := #[.int .i64 ((rd_T46 x253002_1 t262).f0), .bool (false), .int .i64 0, .int .i64 0]) ?_ 2 _ rfl; (with_reducible repeat (first | refine blk_drewN ?_ _ | refine blk_drew ?_ | refine blk_alloc ?_ _)); refine blk_put (cs := #[.int .i64 ((rd_T46 x253002_1 t262).f0), .bool false, .int .i64 0, .int .i64 0]) ?_ 1 _ rfl; (with_reducible repeat (first | refine blk_drewN ?_ _ | refine blk_drew ?_ | refine blk_alloc ?_ _)); refine blk_put (cs := #[.int .i64 0, .bool false, .int .i64 0, .int .i64 0]) ?_ 0 _ rfl; (with_reducible repeat (first | refine blk_drewN ?_ _ | refine blk_drew ?_ | refine blk_alloc ?_ _)); exact BK266.out⟩, ⟨spec_l15Next.zI69 HI0⟩, ⟨zH HK⟩, ⟨zB HB⟩⟩
      case rest =>
       have Nbq48_ := Nbq48.out
       clear Nbq48
       subst Nbq48_
       clear HC34
       try clear c1
       try clear c2
       try clear p2
       try clear q2
       try clear hx2
       try clear c3
       try clear c4
       try clear q4
       try clear c5
       try clear c6
       try clear c8
       try clear c9
       try clear c16
       try clear c17
       try clear c18
       try clear c24
       try clear c24b0
       try clear c25
       try clear c26
       try clear p26
       try clear q26
       try clear hx26
       try clear c27
       try clear c30
       try clear c32
       try clear c32b0
       try clear c33
       try clear c33b0
       try clear c34
       try clear c35
       try clear c36
       try clear c37
       try clear c43
       try clear c44
       try clear c45
       try clear c46
       try clear q48
       try clear c49
       try clear c51
       try clear c52
       try clear c53
       try clear c54
       try clear c56
       try clear c57
       try clear c58
       try clear c62
       try clear c63
       try clear c64
       try clear c65
       try clear hcz10_0
       try clear hcz10_1
       try clear hcz10_2
       try clear hcz19_0
       try clear hcz19_1
       try clear hcz19_2
       try clear hcz28_0
       try clear hcz28_1
       try clear hcz28_2
       try clear hcz38_0
       try clear hcz38_1
       try clear hcz38_2
       try clear hcz41_0
       try clear hcz41_1
       try clear hcz41_2
       try clear hcz47_0
       try clear hcz47_1
       try clear hcz47_2
       try clear hcz47_3
       try clear hcz55_0
       try clear hcz55_1
       try clear hcz55_2
       try clear hcz55_3
       try clear hcz59_0
       try clear hcz59_1
       try clear hcz59_2
       try clear hcz66_0
       try clear hcz66_1
       try clear hcz66_2
       try clear hcz66_3
       try clear hfz10_0
       try clear hfz10_1
       try clear hfz10_2
       try clear hfz19_0
       try clear hfz19_1
       try clear hfz19_2
       try clear hfz28_0
       try clear hfz28_1
       try clear hfz28_2
       try clear hfz38_0
       try clear hfz38_1
       try clear hfz38_2
       try clear hfz41_0
       try clear hfz41_1
       try clear hfz41_2
       try clear hfz47_0
       try clear hfz47_1
       try clear hfz47_2
       try clear hfz47_3
       try clear hfz55_0
       try clear hfz55_1
       try clear hfz55_2
       try clear hfz55_3
       try clear hfz59_0
       try clear hfz59_1
       try clear hfz59_2
       try clear hfz66_0
       try clear hfz66_1
       try clear hfz66_2
       try clear hfz66_3
       try clear hx265_0
       try clear hx265_1
       try clear hx265_2
       try clear hx265_3
       try clear p2
       try clear p265
       try clear q265
       obtain ⟨kq, x43_33, rfl, HA, HJ33, HO_253001, HO_253002, BK236, BK237, BK252, BK266, HI0, HK, HB⟩ := hcut
       cases kq with
       | zero => exact absurd HA.out (by simp [spec_l15Next.j2])
       | succ kj33 =>
        have H := HA.out
        clear HA
        simp only [spec_l15Next.j2] at H
        by_cases c67 : x43_33 = true
        ·subst c67
         have H1 : ((some (([] : List (S46)) : List (S46))).bind fun y270 => (if 0 ≤ t262 then (if t262 ≤ (x253002_1.length : Int) then ((some (x253002_1.take (t262 : Int).toNat : List (S46))).bind fun y273 => (if y270.length + y273.length < 4398046511104 then ((some (y270 ++ y273 : List (S46))).bind fun y277 => (if 0 ≤ (wrap64 (t262 + 1)) then (if (wrap64 (t262 + 1)) ≤ (x253002_1.length : Int) then ((some (x253002_1.drop ((wrap64 (t262 + 1)) : Int).toNat : List (S46))).bind fun y280 => (if y277.length + y280.length < 4398046511104 then (spec_l15Next.l0 kj33 (wrap64 (x6_1 - 1)) s0_0 t263 t264 t245 t246 (y277 ++ y280)) else (none))) else (none)) else (none))) else (none))) else (none)) else (none))) = some (r1, r2, r3, r4, r5) := by rw [if_pos rfl] at H; exact H
         clear H
         have H := H1
         clear H1
         obtain ⟨y270, hy270⟩ : ∃ y_ : List (S46), y_ = (([] : List (S46))) := ⟨_, rfl⟩
         replace H : (if 0 ≤ t262 then (if t262 ≤ (x253002_1.length : Int) then ((some (x253002_1.take (t262 : Int).toNat : List (S46))).bind fun y273 => (if y270.length + y273.length < 4398046511104 then ((some (y270 ++ y273 : List (S46))).bind fun y277 => (if 0 ≤ (wrap64 (t262 + 1)) then (if (wrap64 (t262 + 1)) ≤ (x253002_1.length : Int) then ((some (x253002_1.drop ((wrap64 (t262 + 1)) : Int).toNat : List (S46))).bind fun y280 => (if y277.length + y280.length < 4398046511104 then (spec_l15Next.l0 kj33 (wrap64 (x6_1 - 1)) s0_0 t263 t264 t245 t246 (y277 ++ y280)) else (none))) else (none)) else (none))) else (none))) else (none)) else (none)) = some (r1, r2, r3, r4, r5) := by first | (rw [hy270]; with_reducible exact H) | (rw [hy270]; exact H) | exact H
         have Ny270 := Aside0.mk hy270
         clear hy270
         obtain ⟨c68, H⟩ := ifS H
         have c68b0 := eq_true c68
         have c68b1 : decide (0 ≤ t262) = true := decide_eq_true c68
         clear c68
         obtain ⟨c69, H⟩ := ifS H
         have c69b0 := eq_true c69
         have c69b1 : decide (t262 ≤ (x253002_1.length : Int)) = true := decide_eq_true c69
         clear c69
         obtain ⟨y273, hy273⟩ : ∃ y_ : List (S46), y_ = (x253002_1.take (t262 : Int).toNat) := ⟨_, rfl⟩
         replace H : (if y270.length + y273.length < 4398046511104 then ((some (y270 ++ y273 : List (S46))).bind fun y277 => (if 0 ≤ (wrap64 (t262 + 1)) then (if (wrap64 (t262 + 1)) ≤ (x253002_1.length : Int) then ((some (x253002_1.drop ((wrap64 (t262 + 1)) : Int).toNat : List (S46))).bind fun y280 => (if y277.length + y280.length < 4398046511104 then (spec_l15Next.l0 kj33 (wrap64 (x6_1 - 1)) s0_0 t263 t264 t245 t246 (y277 ++ y280)) else (none))) else (none)) else (none))) else (none)) = some (r1, r2, r3, r4, r5) := by first | (rw [hy273]; with_reducible exact H) | (rw [hy273]; exact H) | exact H
         have Ny273 := Aside0.mk hy273
         clear hy273
         obtain ⟨c70, H⟩ := ifS H
         have LMc70 := Aside0.mk c70
         clear c70
         obtain ⟨y277, hy277⟩ : ∃ y_ : List (S46), y_ = (y270 ++ y273) := ⟨_, rfl⟩
         replace H : (if 0 ≤ (wrap64 (t262 + 1)) then (if (wrap64 (t262 + 1)) ≤ (x253002_1.length : Int) then ((some (x253002_1.drop ((wrap64 (t262 + 1)) : Int).toNat : List (S46))).bind fun y280 => (if y277.length + y280.length < 4398046511104 then (spec_l15Next.l0 kj33 (wrap64 (x6_1 - 1)) s0_0 t263 t264 t245 t246 (y277 ++ y280)) else (none))) else (none)) else (none)) = some (r1, r2, r3, r4, r5) := by first | (rw [hy277]; with_reducible exact H) | (rw [hy277]; exact H) | exact H
         have Ny277 := Aside0.mk hy277
         clear hy277
         obtain ⟨ji71, hji71⟩ : ∃ j_ : Int, (wrap64 (t262 + 1)) = j_ := ⟨_, rfl⟩
         replace H : (if 0 ≤ (ji71) then (if (ji71) ≤ (x253002_1.length : Int) then ((some (x253002_1.drop ((ji71) : Int).toNat : List (S46))).bind fun y280 => (if y277.length + y280.length < 4398046511104 then (spec_l15Next.l0 kj33 (wrap64 (x6_1 - 1)) s0_0 t263 t264 t245 t246 (y277 ++ y280)) else (none))) else (none)) else (none)) = some (r1, r2, r3, r4, r5) := by first | (rw [hji71] at H; exact H) | (simp only [hji71] at H ⊢; exact H)
         have hji71w : (IntKind.i64.wrap (t262 + 1)) = ji71 := (i64_w _).trans hji71
         obtain ⟨c72, H⟩ := ifS H
         have c72b0 := eq_true c72
         have c72b1 : decide (0 ≤ (ji71)) = true := decide_eq_true c72
         clear c72
         obtain ⟨c73, H⟩ := ifS H
         have c73b0 := eq_true c73
         have c73b1 : decide ((ji71) ≤ (x253002_1.length : Int)) = true := decide_eq_true c73
         clear c73
         obtain ⟨y280, hy280⟩ : ∃ y_ : List (S46), y_ = (x253002_1.drop ((ji71) : Int).toNat) := ⟨_, rfl⟩
         replace H : (if y277.length + y280.length < 4398046511104 then (spec_l15Next.l0 kj33 (wrap64 (x6_1 - 1)) s0_0 t263 t264 t245 t246 (y277 ++ y280)) else (none)) = some (r1, r2, r3, r4, r5) := by first | (rw [hy280]; with_reducible exact H) | (rw [hy280]; exact H) | exact H
         have Ny280 := Aside0.mk hy280
         clear hy280
         obtain ⟨c74, H⟩ := ifS H
         have LMc74 := Aside0.mk c74
         clear c74
         obtain ⟨y284, hy284⟩ : ∃ y_ : List (S46), y_ = (y277 ++ y280) := ⟨_, rfl⟩
         replace H : (spec_l15Next.l0 kj33 (wrap64 (x6_1 - 1)) s0_0 t263 t264 t245 t246 y284) = some (r1, r2, r3, r4, r5) := by first | (rw [hy284]; with_reducible exact H) | (rw [hy284]; exact H) | exact H
         have Ny284 := Aside0.mk hy284
         clear hy284
         have H' := Aside0.mk H
         clear H
         try go_wp2
         replace HO_253001 := Aside0.mk (Kd.R_drew HO_253001.out)
         replace HO_253002 := Aside0.mk (Kd.R_drew HO_253002.out)
         replace BK236 := Aside0.mk (blk_drew BK236.out)
         replace BK237 := Aside0.mk (blk_drew BK237.out)
         replace BK252 := Aside0.mk (blk_drew BK252.out)
         replace BK266 := Aside0.mk (blk_drew BK266.out)
         replace HI0 := Aside0.mk (IsS69.drew HI0.out)
         replace HK := Aside0.mk (keep_drew HK.out)
         replace HB := Aside0.mk (below_drew1 HB.out)
         have q76 : (t262 : Int) ≤ ((x253002_1.length : Int) : Int) := zD
         obtain ⟨i076, hi076, _, hsz76, _⟩ := info_parts info46
         have hroom76 : x253002_1.length ≤ co39 := (Kd.R_reads' HO_253002.out).2.1
         have hC76 : Kd.C k46 _ (some ad265) x253002_1.length x253002_1 := (Kd.R_reads' HO_253002.out).2.2
         have hcut76 := cut_to (P := Try.prog) 25 46 .i64 Try.underlying25 hi076 (some ad265) x253002_1.length co39 t262 (zD) q76 hroom76
         have hr76 := Kd.C_take (m := (t262 : Int).toNat) hC76 (by omega)
         have hy76 : y273.length = (t262 : Int).toNat := (by rw [Ny273.out, List.length_take]; omega)
         rw [← Ny273.out] at hr76
         rw [← hy76] at hcut76
         have HR276 := Aside0.mk hr76
         have HC276 := Aside0.mk (show y273.length ≤ co39 from by omega)
         clear hr76 hC76 hroom76 hi076 hsz76
         have KY76 := Aside0.mk hy76
         clear hy76
         have KL76 := Aside0.mk (show (t262 : Int).toNat ≤ x253002_1.length from by omega)
         replace q76 := eq_true q76
         have q77 : ((ji71) : Int) ≤ ((x253002_1.length : Int) : Int) := zD
         obtain ⟨i077, hi077, _, hsz77, _⟩ := info_parts info46
         have hroom77 : x253002_1.length ≤ co39 := (Kd.R_reads' HO_253002.out).2.1
         have hC77 : Kd.C k46 _ (some ad265) x253002_1.length x253002_1 := (Kd.R_reads' HO_253002.out).2.2
         have q077 : (0 : Int) ≤ ((ji71) : Int) := zD
         have hcut77 := cut_from (P := Try.prog) 25 46 .i64 Try.underlying25 hi077 4 hsz77 (some ad265) x253002_1.length co39 (ji71) q077 q77
         have hr77 := Kd.C_drop (m := ((ji71) : Int).toNat) (c := co39) hC77 (by omega) hroom77
         obtain ⟨A77, hA77⟩ : ∃ A1, A1 = (if co39 = ((ji71) : Int).toNat then (some ad265) else ((some ad265) : Option Addr).map (·.add (((ji71) : Int).toNat * 4))) := ⟨_, rfl⟩
         obtain ⟨c77, hc77⟩ : ∃ c1, c1 = co39 - ((ji71) : Int).toNat := ⟨_, rfl⟩
         have hy77 : y280.length = x253002_1.length - ((ji71) : Int).toNat := (by rw [Ny280.out, List.length_drop] <;> omega)
         rw [show (x253002_1).drop ((ji71) : Int).toNat = y280 from Ny280.out.symm] at hr77
         replace hr77 : Kd.C k46 _ A77 y280.length y280 := (by rw [hA77]; exact hr77)
         rw [← hy77, ← hA77, ← hc77] at hcut77
         have HR283 := Aside0.mk hr77
         have HC283 := Aside0.mk (show y280.length ≤ c77 from by rw [hy77, hc77]; exact Nat.sub_le_sub_right hroom77 _)
         clear hr77 hC77 hroom77 hi077 hsz77 hc77
         have KY77 := Aside0.mk hy77
         have KA77 := Aside0.mk hA77
         clear hy77 hA77
         have KL77 := Aside0.mk (show ((ji71) : Int).toNat ≤ x253002_1.length from by omega)
         replace q77 := eq_true q77
         refine start_ (n := 14) (S := fun w' => w'.cell? ⟨gb252, 0, none⟩ = some (.int .i64 t245) ∧ w'.cell? ⟨gb252, 1, none⟩ = some (.slice Ao20 t246.length co20) ∧ w'.cell? ⟨gb252, 2, none⟩ = some (.slice (some ad265) x253002_1.length co39)) (ds := [13]) (bm 14 0) (by kernel_rfl) rfl (bm0 _) ⟨bc0 BK252, bc1 BK252, bc2 BK252⟩ (fun hHeld => ?_); refine with_tabW spec_l15Next.tab8 spec_l15Next.bits8 (fun HT_ HW_ => ?_)
         generalize wc.drew = w75 at HO_253001 HO_253002 BK236 BK237 BK252 BK266 HI0 HK HB HR276 HR283 hHeld ⊢
         refine pU 1 (some 45) (bm 14 2) HT_ rfl rfl ?_
         refine pU 3 (some 47) (bm 14 10) HT_ rfl rfl ?_
         refine pU 6 (some 50) (bm 14 74) HT_ rfl rfl ?_
         refine pU 8 (some 52) (bm 14 330) HT_ rfl rfl ?_
         refine pU 9 (some 53) (bm 14 842) HT_ rfl rfl ?_
         refine tU 2 (some 46) (bm 14 846) HT_ HW_ rfl rfl hHeld ?_
         refine pU 4 (some 48) (bm 14 862) HT_ rfl rfl ?_
         refine tU 7 (some 51) (bm 14 990) HT_ HW_ rfl rfl hHeld ?_
         refine pU 10 (some 54) (bm 14 2014) HT_ rfl rfl ?_
         refine one_ (i := 0) (N := some 44) (bm 14 2015) rfl rfl (one_of HT_.out (by kernel_rfl)) (by decide) (fun K hK => ?_)
         refine Kd.R_lit_step k46 _ 46 ?hg (N := 44) ?hd (xs := ([] : List (S46))) (inner := []) (ok := fun _ => True) (okp := fun _ => True) ?hr ?hp (fun _ hk => hk) trivial (Below.refl _ _) (Nat.le_refl _) (by simp) ?_; (case hd => rfl); (case hg => rfl); (case hr => first | (go_simp; done) | (go_simp; rfl)); (case hp => exact (Reps.none _ _))
         intro v271 w78 ho79 hb hg_ hnew_
         clear hg_ hnew_
         (first | rw [← Ny270.out] at ho79 | (simp only [Int.reduceToNat] at ho79; rw [← Ny270.out] at ho79))
         replace HO_253001 := Aside0.mk (Kd.R_below (zR HO_253001) hb)
         have HO272 := Aside0.mk (Kd.R_lower (Kd.R_newB (Kd.R_new' ho79 (Kd.R_lt (zR HO_253002))) (g := gb266) (o := .cells #[.int .i64 ((rd_T46 x253002_1 t262).f0), .bool ((rd_T46 x253002_1 t262).f1), .int .i64 ((rd_T46 x253002_1 t262).f2), .int .i64 ((rd_T46 x253002_1 t262).f3)] 46 (0, 0)) (zK BK266)) (keep_size (w := w) (g := g) (row := none) (zH HK)))
         replace HO_253002 := Aside0.mk (Kd.R_elder' (zR HO_253002) (Kd.R_base ho79) hb)
         replace BK236 := kB BK236 hb
         replace BK237 := kB BK237 hb
         replace BK252 := kB BK252 hb
         replace BK266 := kB BK266 hb
         replace HR276 := Aside0.mk (Kd.C_below (by repeat (first | (with_reducible exact HR276.out) | (with_reducible refine Kd.C_alloc ?_ _) | (with_reducible refine Kd.C_drewN ?_ _) | (with_reducible refine Kd.C_drew ?_) | exact HR276.out)) hb)
         replace HR283 := Aside0.mk (Kd.C_below (by repeat (first | (with_reducible exact HR283.out) | (with_reducible refine Kd.C_alloc ?_ _) | (with_reducible refine Kd.C_drewN ?_ _) | (with_reducible refine Kd.C_drew ?_) | exact HR283.out)) hb)
         replace HK := hkB HK hb
         replace HB := bS HB hb
         replace HI0 := Aside0.mk (IsS69.below (spec_l15Next.zI69 HI0) hb)
         clear hb ho79
         refine hK.out _ _ ⟨bc0 BK252, bc1 BK252, bc2 BK252⟩ (fun hHeld => ?_)
         clear hK K
         refine nU 44 ?_
         refine one_ (i := 5) (N := some 49) (bm 14 2047) rfl rfl (one_of HT_.out (by kernel_rfl)) (by decide) (fun K hK => ?_)
         refine Kd.R_append_rows_step k46 w.heap.size (by rfl) (.tmp 44) (.tmp 48) 25 46 (.agg #[(.int .i64 0), (.bool false), (.int .i64 0), (.int .i64 0)]) 32 rfl Try.underlying25 info46 rfl (by decide) (by omega) v271 y270 y273 _ _ _ (fun k_ => some k_ ≠ (.slice (some ad265) x253002_1.length co39 : Value).ownBlock ∧ k_ ≠ gb266) (fun _ => False) rfl rfl ?aO ?aR (fun _ _ h => h) (fun _ h => h.elim) ?aF (Below.refl _ _) ?aS ?aL ?_
         (case aR => repeat (first | exact (by repeat (first | (with_reducible exact HR276.out) | (with_reducible refine Kd.C_alloc ?_ _) | (with_reducible refine Kd.C_drewN ?_ _) | (with_reducible refine Kd.C_drew ?_) | exact HR276.out)) | (with_reducible refine Kd.C_alloc ?_ _) | (with_reducible refine Kd.C_drewN ?_ _) | (with_reducible refine Kd.C_drew ?_)))
         (case aF => exact (fun k_ hk => ⟨Kd.fresh' (Kd.R_lt (zR HO_253002)) k_ hk, Kd.freshB (g := gb266) (o := .cells #[.int .i64 ((rd_T46 x253002_1 t262).f0), .bool ((rd_T46 x253002_1 t262).f1), .int .i64 ((rd_T46 x253002_1 t262).f2), .int .i64 ((rd_T46 x253002_1 t262).f3)] 46 (0, 0)) (zK BK266) k_ hk⟩))
         (case aO => exact (by (with_reducible repeat (first | apply Kd.R_alloc | apply Kd.R_drewN | apply Kd.R_drew)); exact Kd.R_mono HO272.out (fun _ hk => ⟨hk.1.2, hk.2⟩)))
         (case aS => exact (keep_size (w := w) (g := g) (row := none) (zH HK)))
         (case aL => have := LMc70.out; omega)
         intro v278 w80 ho hb hg hat
         rw [← Ny277.out] at ho
         replace HO_253001 := Aside0.mk (Kd.R_over' (zR HO_253001) (Kd.R_typed (zR HO272)) (by decide) hg)
         replace BK236 := Aside0.mk (blk_grown (g := gb236) (o := .cells #[.int .i64 a1_0, .slice A1_1 l1_1.length c1_1, .slice A1_2 l1_2.length c1_2] 27 (0, 0)) (zK BK236) hg (Kd.R_ne HO272.out BK236.out (by decide)))
         replace BK237 := Aside0.mk (blk_grown (g := gb237) (o := .cells #[.int .i64 0, .slice none 0 0, .slice none 0 0] 27 (0, 0)) (zK BK237) hg (Kd.R_ne HO272.out BK237.out (by decide)))
         replace BK252 := Aside0.mk (blk_grown (g := gb252) (o := .cells #[.int .i64 t245, .slice Ao20 t246.length co20, .slice (some ad265) x253002_1.length co39] 27 (0, 0)) (zK BK252) hg (Kd.R_ne HO272.out BK252.out (by decide)))
         replace BK266 := Aside0.mk (blk_grown (g := gb266) (o := .cells #[.int .i64 ((rd_T46 x253002_1 t262).f0), .bool ((rd_T46 x253002_1 t262).f1), .int .i64 ((rd_T46 x253002_1 t262).f2), .int .i64 ((rd_T46 x253002_1 t262).f3)] 46 (0, 0)) (zK BK266) hg (Kd.R_away HO272.out (fun _ hk => hk.2)))
         replace HB := Aside0.mk (below_weaken (zB HB) HL.out hb)
         replace HI0 := Aside0.mk (IsS69.grown (by first | exact HI0.out | exact IsS69.far (p := ⟨gb236, _, none⟩) HI0.out NB0_236.out _ | exact IsS69.far (p := ⟨gb236, _, none⟩) (IsS69.far (p := ⟨gb236, _, none⟩) HI0.out NB0_236.out _) NB0_236.out _) hg (IsS69.own_ne HI0.out HO272.out (by decide)))
         replace HK := Aside0.mk (KeepBut.trans (zH HK) (KeepBut.of_grown hg g) (Kd.R_base2 HO272.out))
         replace HR276 := Aside0.mk ((show Kd.C k46 w80 (some ad265) y273.length y273 from by rw [Ny273.out]; exact Kd.C_take (m := (t262 : Int).toNat) ((Kd.R_reads' (Kd.R_after (ok := (fun k_ => k_ ≠ gb266)) (zR HO_253002) hg hat)).2.2) KL76.out))
         replace HR283 := Aside0.mk ((show Kd.C k46 w80 A77 y280.length y280 from by rw [Ny280.out, KA77.out]; exact Kd.C_drop (m := ((ji71) : Int).toNat) (c := co39) ((Kd.R_reads' (Kd.R_after (ok := (fun k_ => k_ ≠ gb266)) (zR HO_253002) hg hat)).2.2) KL77.out ((Kd.R_reads' (Kd.R_after (ok := (fun k_ => k_ ≠ gb266)) (zR HO_253002) hg hat)).2.1)))
         replace HO_253002 := Aside0.mk (Kd.R_after (ok := (fun k_ => k_ ≠ gb266)) (zR HO_253002) hg hat)
         have HO279 := Aside0.mk (ho)
         clear HO272
         clear ho hb hg hat
         refine hK.out _ _ ⟨bc0 BK252, bc1 BK252, bc2 BK252⟩ (fun hHeld => ?_)
         clear hK K
         refine nU 49 ?_
         refine one_ (i := 11) (N := some 55) (bm 14 4095) rfl rfl (one_of HT_.out (by kernel_rfl)) (by decide) (fun K hK => ?_)
         refine Kd.R_append_rows_step k46 w.heap.size (by rfl) (.tmp 49) (.tmp 54) 25 46 (.agg #[(.int .i64 0), (.bool false), (.int .i64 0), (.int .i64 0)]) 32 rfl Try.underlying25 info46 rfl (by decide) (by omega) v278 y277 y280 _ _ _ (fun k_ => some k_ ≠ (.slice (some ad265) x253002_1.length co39 : Value).ownBlock ∧ k_ ≠ gb266) (fun _ => False) rfl rfl ?aO ?aR (fun _ _ h => h) (fun _ h => h.elim) ?aF (Below.refl _ _) ?aS ?aL ?_
         (case aR => repeat (first | exact (by repeat (first | (with_reducible exact HR283.out) | (with_reducible refine Kd.C_alloc ?_ _) | (with_reducible refine Kd.C_drewN ?_ _) | (with_reducible refine Kd.C_drew ?_) | exact HR283.out)) | (with_reducible refine Kd.C_alloc ?_ _) | (with_reducible refine Kd.C_drewN ?_ _) | (with_reducible refine Kd.C_drew ?_)))
         (case aF => exact (fun k_ hk => ⟨Kd.fresh' (Kd.R_lt (zR HO_253002)) k_ hk, Kd.freshB (g := gb266) (o := .cells #[.int .i64 ((rd_T46 x253002_1 t262).f0), .bool ((rd_T46 x253002_1 t262).f1), .int .i64 ((rd_T46 x253002_1 t262).f2), .int .i64 ((rd_T46 x253002_1 t262).f3)] 46 (0, 0)) (zK BK266) k_ hk⟩))
         (case aO => exact (zR HO279))
         (case aS => exact (keep_size (w := w) (g := g) (row := none) (zH HK)))
         (case aL => have := LMc74.out; omega)
         intro v285 w81 ho hb hg hat
         rw [← Ny284.out] at ho
         replace HO_253001 := Aside0.mk (Kd.R_over' (zR HO_253001) (Kd.R_typed (zR HO279)) (by decide) hg)
         replace BK236 := Aside0.mk (blk_grown (g := gb236) (o := .cells #[.int .i64 a1_0, .slice A1_1 l1_1.length c1_1, .slice A1_2 l1_2.length c1_2] 27 (0, 0)) (zK BK236) hg (Kd.R_ne HO279.out BK236.out (by decide)))
         replace BK237 := Aside0.mk (blk_grown (g := gb237) (o := .cells #[.int .i64 0, .slice none 0 0, .slice none 0 0] 27 (0, 0)) (zK BK237) hg (Kd.R_ne HO279.out BK237.out (by decide)))
         replace BK252 := Aside0.mk (blk_grown (g := gb252) (o := .cells #[.int .i64 t245, .slice Ao20 t246.length co20, .slice (some ad265) x253002_1.length co39] 27 (0, 0)) (zK BK252) hg (Kd.R_ne HO279.out BK252.out (by decide)))
         replace BK266 := Aside0.mk (blk_grown (g := gb266) (o := .cells #[.int .i64 ((rd_T46 x253002_1 t262).f0), .bool ((rd_T46 x253002_1 t262).f1), .int .i64 ((rd_T46 x253002_1 t262).f2), .int .i64 ((rd_T46 x253002_1 t262).f3)] 46 (0, 0)) (zK BK266) hg (Kd.R_away HO279.out (fun _ hk => hk.2)))
         replace HB := Aside0.mk (below_weaken (zB HB) HL.out hb)
         replace HI0 := Aside0.mk (IsS69.grown (by first | exact HI0.out | exact IsS69.far (p := ⟨gb236, _, none⟩) HI0.out NB0_236.out _ | exact IsS69.far (p := ⟨gb236, _, none⟩) (IsS69.far (p := ⟨gb236, _, none⟩) HI0.out NB0_236.out _) NB0_236.out _) hg (IsS69.own_ne HI0.out HO279.out (by decide)))
         replace HK := Aside0.mk (KeepBut.trans (zH HK) (KeepBut.of_grown hg g) (Kd.R_base2 HO279.out))
         replace HR276 := Aside0.mk ((show Kd.C k46 w81 (some ad265) y273.length y273 from by rw [Ny273.out]; exact Kd.C_take (m := (t262 : Int).toNat) ((Kd.R_reads' (Kd.R_after (ok := (fun k_ => k_ ≠ gb266)) (zR HO_253002) hg hat)).2.2) KL76.out))
         replace HR283 := Aside0.mk ((show Kd.C k46 w81 A77 y280.length y280 from by rw [Ny280.out, KA77.out]; exact Kd.C_drop (m := ((ji71) : Int).toNat) (c := co39) ((Kd.R_reads' (Kd.R_after (ok := (fun k_ => k_ ≠ gb266)) (zR HO_253002) hg hat)).2.2) KL77.out ((Kd.R_reads' (Kd.R_after (ok := (fun k_ => k_ ≠ gb266)) (zR HO_253002) hg hat)).2.1)))
         replace HO_253002 := Aside0.mk (Kd.R_after (ok := (fun k_ => k_ ≠ gb266)) (zR HO_253002) hg hat)
         have HO286 := Aside0.mk (ho)
         clear HO279
         clear ho hb hg hat
         obtain ⟨Ao82, co82, eo82⟩ := Kd.R_slice HO286.out
         (first | subst eo82 | (obtain ⟨f4_, f5_⟩ := slI eo82; subst f4_; subst f5_))
         refine hK.out _ _ ⟨bc0 BK252, bc1 BK252, bc2 BK252⟩ (fun hHeld => ?_)
         clear hK K
         refine nU 55 ?_
         refine pU 12 (some 56) (bm 14 8191) HT_ rfl rfl ?_
         refine last_ (i := 13) (N := none) (bm 14 16383) rfl rfl (one_of HT_.out (by kernel_rfl)) (by decide) (fun K hK => ?_)
         have hs83 : w81.cell? ⟨gb252, 2, none⟩ = some (.slice (some ad265) x253002_1.length co39) := bc2 BK252
         have hfs83 := bf BK252 2
         have hns83_0 := NB236_252.out
         have hns83_1 := NB237_252.out
         have hns83_3 := NB266_252.out
         have hms83_0 := NB252_236.out
         have hms83_1 := NB252_237.out
         have hms83_3 := NB252_266.out
         refine skip_ (w1 := ?_) (by rfl) rfl ?_ ?_
         rotate_left
         ·go_simp
          rfl
         refine hK.out _ _ ?_
         clear hK K
         refine done_ (done_of HT_.out (by kernel_rfl)) ?_
         try clear hHeld
         try go_wp2
         go_roundg kj33
         case measure => have := HK1.out; have := HJ22.out; have := HJ33.out; omega
         case rel => exact ⟨(wrap64 (x6_1 - 1)), (t263), (t264), (y284), (.slice Ao82 y284.length co82), zF, H', ⟨by have := HK1.out; have := HJ22.out; have := HJ33.out; omega⟩, ⟨Kd.R_mono (rB HO_253001 BK252) (fun _ hk => trivial)⟩, ⟨Kd.R_mono (rB HO286 BK252) (fun _ hk => trivial)⟩, ⟨kF BK236⟩, ⟨kF BK237⟩, ⟨by (with_reducible repeat (first | refine blk_drewN ?_ _ | refine blk_drew ?_ | refine blk_alloc ?_ _)); refine blk_put (cs := #[.int .i64 t245, .slice Ao20 t246.length co20, .slice (some ad265) x253002_1.length co39]) ?_ 2 _ rfl; (with_reducible repeat (first | refine blk_drewN ?_ _ | refine blk_drew ?_ | refine blk_alloc ?_ _)); exact BK252.out⟩, ⟨spec_l15Next.zI69 HI0⟩, ⟨zH HK⟩, ⟨zB HB⟩⟩
        ·replace c67 := Bool.eq_false_iff.mpr c67
         subst c67
         have H1 : (if ((rd_T46 x253002_1 t262).f1) = true then (spec_l15Next.l0 kj33 (wrap64 (x6_1 - 1)) s0_0 t263 t264 t245 t246 x253002_1) else ((spec_l1Below.f s0_0 t263 t264 5).bind fun bt287 => ((spec_l1Below.f s0_0 bt287.2.1 bt287.2.2 t245).bind fun bt290 => ((spec_MoveOf.f kj33 t245 t246 x253002_1 ((rd_T46 x253002_1 t262).f0) false bt287.1).bind fun t293 => (if t293 < 0 then (if (x253002_1.length : Int) < 12 then (if x253002_1.length < 4398046511104 then (spec_l15Next.l0 kj33 (wrap64 (x6_1 - 1)) s0_0 bt290.2.1 bt290.2.2 t245 t246 (x253002_1 ++ [(⟨((rd_T46 x253002_1 t262).f0), ((rd_T46 x253002_1 t262).f1), bt287.1, bt290.1⟩ : S46)])) else (none)) else (spec_l15Next.l0 kj33 (wrap64 (x6_1 - 1)) s0_0 bt290.2.1 bt290.2.2 t245 t246 x253002_1)) else (spec_l15Next.l0 kj33 (wrap64 (x6_1 - 1)) s0_0 bt290.2.1 bt290.2.2 t245 t246 x253002_1)))))) = some (r1, r2, r3, r4, r5) := by rw [if_neg (show ¬ (false = true) by decide)] at H; exact H
         clear H
         have H := H1
         clear H1
         by_cases c84 : ((rd_T46 x253002_1 t262).f1) = true
         ·rw [if_pos c84] at H
          have c84b0 : ((rd_T46 x253002_1 t262).f1) = true := c84
          clear c84
          have H' := Aside0.mk H
          clear H
          have hnb85 := NB266_236.out
          have hnc85 := NB236_266.out
          have hnb86 := NB266_237.out
          have hnc86 := NB237_266.out
          have hnb87 := NB266_252.out
          have hnc87 := NB252_266.out
          have hnb88 := NB266_0.out
          have hnc88 := NB0_266.out
          obtain ⟨hcz89_0, hcz89_1, hcz89_2, hcz89_3, hfz89_0, hfz89_1, hfz89_2, hfz89_3⟩ := bq4 BK266
          go_wp2
          go_roundg kj33
          case measure => have := HK1.out; have := HJ22.out; have := HJ33.out; omega
          case rel => exact ⟨(wrap64 (x6_1 - 1)), (t263), (t264), (x253002_1), (.slice (some ad265) x253002_1.length co39), zF, H', ⟨by have := HK1.out; have := HJ22.out; have := HJ33.out; omega⟩, ⟨zR HO_253001⟩, ⟨by (with_reducible repeat (first | apply Kd.R_alloc | apply Kd.R_drewN | apply Kd.R_drew)); exact Kd.R_mono HO_253002.out (fun _ hk => trivial)⟩, ⟨zK BK236⟩, ⟨zK BK237⟩, ⟨zK BK252⟩, ⟨spec_l15Next.zI69 HI0⟩, ⟨zH HK⟩, ⟨zB HB⟩⟩
         ·rw [if_neg c84] at H
          have c84b0 : ((rd_T46 x253002_1 t262).f1) = false := by simpa using c84
          clear c84
          replace H := Option.bind_eq_some_iff.mp H
          obtain ⟨⟨t287, t288, t289⟩, A900, H⟩ := H
          dsimp only at H
          have A90 := Aside0.mk A900
          clear A900
          replace H := Option.bind_eq_some_iff.mp H
          obtain ⟨⟨t290, t291, t292⟩, A910, H⟩ := H
          dsimp only at H
          have A91 := Aside0.mk A910
          clear A910
          obtain ⟨t293, A92, H⟩ := bindS H
          by_cases c93 : t293 < 0
          ·rw [if_pos c93] at H
           have c93b0 : decide (t293 < 0) = true := decide_eq_true c93
           clear c93
           by_cases c94 : (x253002_1.length : Int) < 12
           ·rw [if_pos c94] at H
            have c94b0 : decide ((x253002_1.length : Int) < 12) = true := decide_eq_true c94
            have c94b1 : decide (x253002_1.length < 12) = true := decide_eq_true (by omega)
            clear c94
            obtain ⟨c95, H⟩ := ifS H
            have LMc95 := Aside0.mk c95
            clear c95
            obtain ⟨y294, hy294⟩ : ∃ y_ : List (S46), y_ = (x253002_1 ++ [(⟨((rd_T46 x253002_1 t262).f0), ((rd_T46 x253002_1 t262).f1), t287, t290⟩ : S46)]) := ⟨_, rfl⟩
            replace H : (spec_l15Next.l0 kj33 (wrap64 (x6_1 - 1)) s0_0 t291 t292 t245 t246 y294) = some (r1, r2, r3, r4, r5) := by first | (rw [hy294]; with_reducible exact H) | (rw [hy294]; exact H) | exact H
            have Ny294 := Aside0.mk hy294
            clear hy294
            have H' := Aside0.mk H
            clear H
            have hnb96 := NB266_236.out
            have hnc96 := NB236_266.out
            have hnb97 := NB266_237.out
            have hnc97 := NB237_266.out
            have hnb98 := NB266_252.out
            have hnc98 := NB252_266.out
            have hnb99 := NB266_0.out
            have hnc99 := NB0_266.out
            obtain ⟨hcz100_0, hcz100_1, hcz100_2, hcz100_3, hfz100_0, hfz100_1, hfz100_2, hfz100_3⟩ := bq4 BK266
            go_wp2_with (first | ((with_reducible refine gate_callee (f := 33) rfl ?_); refine goesL_ (some 61) rfl rfl Try.func33 (by kernel_rfl) rfl #[.pointer (some ⟨g, 0, none⟩), .int .i64 5] rfl zG ?_; (with_reducible refine (spec_l1Below.calls g s0_0 t263 t264 5 t287 t288 t289 w0 _ ?side1 ?side2 A90.out).mono ?_); (case side1 => exact spec_l15Next.zI69 HI0); (case side2 => exact zB HB); rintro e w101 ⟨rfl, hi, hb, hk⟩; refine ⟨_, rfl, ?_⟩; replace HO_253001 := IsS69.kR HI0 HO_253001 hk; replace HO_253002 := IsS69.kR HI0 HO_253002 hk; replace BK236 := kbT hk BK236 NB236_0; replace BK237 := kbT hk BK237 NB237_0; replace BK252 := kbT hk BK252 NB252_0; replace BK266 := kbT hk BK266 NB266_0; replace HK := hkT HK hk; replace HB := Aside0.mk (hb); replace HI0 := Aside0.mk (hi); (try clear hb); obtain ⟨hcz102_0, hcz102_1, hcz102_2, hcz102_3, hfz102_0, hfz102_1, hfz102_2, hfz102_3⟩ := bq4 BK266; have hnb103 := NB252_236.out; have hnc103 := NB236_252.out; have hnb104 := NB252_237.out; have hnc104 := NB237_252.out; have hnb105 := NB252_0.out; have hnc105 := NB0_252.out; obtain ⟨hcz106_0, hcz106_1, hcz106_2, hfz106_0, hfz106_1, hfz106_2⟩ := bq3 BK252) | ((with_reducible refine gate_callee (f := 33) rfl ?_); refine goesL_ (some 66) rfl rfl Try.func33 (by kernel_rfl) rfl #[.pointer (some ⟨g, 0, none⟩), .int .i64 t245] rfl zG ?_; (with_reducible refine (spec_l1Below.calls g s0_0 t288 t289 t245 t290 t291 t292 w0 _ ?side1 ?side2 A91.out).mono ?_); (case side1 => exact spec_l15Next.zI69 HI0); (case side2 => exact zB HB); rintro e w107 ⟨rfl, hi, hb, hk⟩; refine ⟨_, rfl, ?_⟩; replace HO_253001 := Aside0.mk (Kd.R_mono (Kd.R_keep (IsS69.apart (show IsS69 w0 _ g s0_0 t288 t289 from spec_l15Next.zI69 HI0) ((Kd.R_mono (rB HO_253001 BK266) (fun _ h_ => h_.1))) (by decide)) hk (fun _ h => h.2)) (fun _ h => h.1)); replace HO_253002 := Aside0.mk (Kd.R_mono (Kd.R_keep (IsS69.apart (show IsS69 w0 _ g s0_0 t288 t289 from spec_l15Next.zI69 HI0) (by (with_reducible repeat (first | apply Kd.R_alloc | apply Kd.R_drewN | apply Kd.R_drew)); exact (Kd.R_mono (Kd.R_far (p := ⟨gb266, 2, none⟩) (Kd.R_mono HO_253002.out (fun k_ hk => (⟨hk, hk⟩ : _ ∧ k_ ≠ gb266))) (fun _ hk => hk.2) (.int .i64 t287)) (fun _ h_ => h_.1))) (by decide)) hk (fun _ h => h.2)) (fun _ h => h.1)); replace BK236 := kbT hk BK236 NB236_0; replace BK237 := kbT hk BK237 NB237_0; replace BK252 := kbT hk BK252 NB252_0; replace BK266 := Aside0.mk (KeepBut.blk hk (g' := gb266) (o := .cells #[.int .i64 ((rd_T46 x253002_1 t262).f0), .bool ((rd_T46 x253002_1 t262).f1), .int .i64 t287, .int .i64 ((rd_T46 x253002_1 t262).f3)] 46 (0, 0)) (by (with_reducible repeat (first | refine blk_drewN ?_ _ | refine blk_drew ?_ | refine blk_alloc ?_ _)); refine blk_put (cs := #[.int .i64 ((rd_T46 x253002_1 t262).f0), .bool ((rd_T46 x253002_1 t262).f1), .int .i64 ((rd_T46 x253002_1 t262).f2), .int .i64 ((rd_T46 x253002_1 t262).f3)]) ?_ 2 _ rfl; (with_reducible repeat (first | refine blk_drewN ?_ _ | refine blk_drew ?_ | refine blk_alloc ?_ _)); exact BK266.out) NB266_0.out (by simp)); replace HK := hkT HK hk; replace HB := Aside0.mk (hb); replace HI0 := Aside0.mk (hi); (try clear hb); obtain ⟨hcz108_0, hcz108_1, hcz108_2, hcz108_3, hfz108_0, hfz108_1, hfz108_2, hfz108_3⟩ := bq4 BK266; obtain ⟨hcz109_0, hcz109_1, hcz109_2, hfz109_0, hfz109_1, hfz109_2⟩ := bq3 BK252) | ((with_reducible refine gate_callee (f := 24) rfl ?_); refine goesL_ (some 73) rfl rfl Try.func24 (by kernel_rfl) rfl #[.agg #[.int .i64 t245, .slice Ao20 t246.length co20, .slice (some ad265) x253002_1.length co39], .int .i64 ((rd_T46 x253002_1 t262).f0), .bool false, .int .i64 t287] rfl zG ?_; (with_reducible refine (spec_MoveOf.calls kj33 t245 _ _ t246 _ _ x253002_1 ((rd_T46 x253002_1 t262).f0) false t287 t293 _ ?side1 ?side2 ?side3 ?side4 A92.out).mono ?_); (case side1 => refine (Kd.R_reads' (e := 4) (base := w.heap.size) (ok := fun k_ => True) (n := t246.length) (c := co20) ?_).2.2; exact ((Kd.R_mono (rB HO_253001 BK266) (fun _ h_ => h_.1)))); (case side2 => exact (Kd.R_reads' HO_253001.out).2.1); (case side3 => refine (Kd.R_reads' (e := 46) (base := w.heap.size) (ok := fun k_ => k_ ≠ gb266) (n := x253002_1.length) (c := co39) ?_).2.2; exact (by (with_reducible repeat (first | apply Kd.R_alloc | apply Kd.R_drewN | apply Kd.R_drew)); exact (Kd.R_mono (Kd.R_far (p := ⟨gb266, 3, none⟩) (Kd.R_mono HO_253002.out (fun k_ hk => (⟨hk, hk⟩ : _ ∧ k_ ≠ gb266))) (fun _ hk => hk.2) (.int .i64 t290)) (fun _ h_ => h_.1)))); (case side4 => exact (Kd.R_reads' HO_253002.out).2.1); rintro e w110 ⟨rfl, hb⟩; refine ⟨_, rfl, ?_⟩; replace HO_253001 := Aside0.mk (Kd.R_below ((Kd.R_mono (rB HO_253001 BK266) (fun _ h_ => h_.1))) hb); replace HO_253002 := Aside0.mk (Kd.R_below (by (with_reducible repeat (first | apply Kd.R_alloc | apply Kd.R_drewN | apply Kd.R_drew)); exact (Kd.R_mono (Kd.R_far (p := ⟨gb266, 3, none⟩) (Kd.R_mono HO_253002.out (fun k_ hk => (⟨hk, hk⟩ : _ ∧ k_ ≠ gb266))) (fun _ hk => hk.2) (.int .i64 t290)) (fun _ h_ => h_.1))) hb); replace BK236 := Aside0.mk (blk_below (kF BK236) hb); replace BK237 := Aside0.mk (blk_below (kF BK237) hb); replace BK252 := Aside0.mk (blk_below (kF BK252) hb); replace BK266 := Aside0.mk (blk_below (g := gb266) (o := .cells #[.int .i64 ((rd_T46 x253002_1 t262).f0), .bool ((rd_T46 x253002_1 t262).f1), .int .i64 t287, .int .i64 t290] 46 (0, 0)) (by (with_reducible repeat (first | refine blk_drewN ?_ _ | refine blk_drew ?_ | refine blk_alloc ?_ _)); refine blk_put (cs := #[.int .i64 ((rd_T46 x253002_1 t262).f0), .bool ((rd_T46 x253002_1 t262).f1), .int .i64 t287, .int .i64 ((rd_T46 x253002_1 t262).f3)]) ?_ 3 _ rfl; (with_reducible repeat (first | refine blk_drewN ?_ _ | refine blk_drew ?_ | refine blk_alloc ?_ _)); exact BK266.out) hb); replace HK := hkB HK hb; replace HB := bS HB hb; replace HI0 := Aside0.mk (IsS69.below (show IsS69 w0 (w107.setCell ⟨gb266, 3, none⟩ (.int .i64 t290)) g s0_0 t291 t292 from spec_l15Next.zI69 HI0) hb); (try clear hb); obtain ⟨hcz111_0, hcz111_1, hcz111_2, hfz111_0, hfz111_1, hfz111_2⟩ := bq3 BK252; obtain ⟨hcz112_0, hcz112_1, hcz112_2, hcz112_3, hfz112_0, hfz112_1, hfz112_2, hfz112_3⟩ := bq4 BK266) | ((with_reducible refine gate_builtin (b := .append) (xs := #[.tmp 82, .tmp 84]) rfl ?_); (try (refine gate_guard (by rfl) ?_; dsimp only)); at_builtin; (try rw [show Value.bool false = Value.bool ((rd_T46 x253002_1 t262).f1) from by rw [c84b0]]); refine Kd.R_append k46 w.heap.size rfl (.tmp 82) (.tmp 84) 25 46 (.agg #[(.int .i64 0), (.bool false), (.int .i64 0), (.int .i64 0)]) 32 rfl Try.underlying25 info46 rfl (by decide) (by omega) (.slice (some ad265) x253002_1.length co39) x253002_1 (⟨((rd_T46 x253002_1 t262).f0), ((rd_T46 x253002_1 t262).f1), t287, t290⟩ : S46) [.int .i64 ((rd_T46 x253002_1 t262).f0), .bool ((rd_T46 x253002_1 t262).f1), .int .i64 t287, .int .i64 t290] (fun k_ => k_ ≠ gb266) (fun _ => False) rfl rfl ?aP (fun _ hk => hk.elim) ?aF ?aO (Below.refl _ _) ?aS ?aL ?_; (case aP => exact k46_mkM _ _ _ (⟨((rd_T46 x253002_1 t262).f0), ((rd_T46 x253002_1 t262).f1), t287, t290⟩ : S46)); (case aF => exact (fun k_ hk => Kd.freshB (g := gb266) (o := .cells #[.int .i64 ((rd_T46 x253002_1 t262).f0), .bool ((rd_T46 x253002_1 t262).f1), .int .i64 t287, .int .i64 t290] 46 (0, 0)) (zK BK266) k_ hk)); (case aO => exact (zR HO_253002)); (case aS => exact (keep_size (w := w) (g := g) (row := none) (zH HK))); (case aL => have := LMc95.out; omega); intro v295 w113 ho hb hg hat; rw [← Ny294.out] at ho; replace HO_253001 := Aside0.mk (Kd.R_over' (zR HO_253001) (Kd.R_typed (zR HO_253002)) (by decide) hg); replace BK236 := Aside0.mk (blk_grown (g := gb236) (o := .cells #[.int .i64 a1_0, .slice A1_1 l1_1.length c1_1, .slice A1_2 l1_2.length c1_2] 27 (0, 0)) (zK BK236) hg (Kd.R_ne HO_253002.out BK236.out (by decide))); replace BK237 := Aside0.mk (blk_grown (g := gb237) (o := .cells #[.int .i64 0, .slice none 0 0, .slice none 0 0] 27 (0, 0)) (zK BK237) hg (Kd.R_ne HO_253002.out BK237.out (by decide))); replace BK252 := Aside0.mk (blk_grown (g := gb252) (o := .cells #[.int .i64 t245, .slice Ao20 t246.length co20, .slice (some ad265) x253002_1.length co39] 27 (0, 0)) (zK BK252) hg (Kd.R_ne HO_253002.out BK252.out (by decide))); replace BK266 := Aside0.mk (blk_grown (g := gb266) (o := .cells #[.int .i64 ((rd_T46 x253002_1 t262).f0), .bool ((rd_T46 x253002_1 t262).f1), .int .i64 t287, .int .i64 t290] 46 (0, 0)) (zK BK266) hg (Kd.R_away HO_253002.out (fun _ hk => hk))); replace HB := Aside0.mk (below_weaken (zB HB) HL.out hb); replace HI0 := Aside0.mk (IsS69.grown (by first | exact HI0.out | exact IsS69.far (p := ⟨gb236, _, none⟩) HI0.out NB0_236.out _ | exact IsS69.far (p := ⟨gb236, _, none⟩) (IsS69.far (p := ⟨gb236, _, none⟩) HI0.out NB0_236.out _) NB0_236.out _) hg (IsS69.own_ne HI0.out HO_253002.out (by decide))); replace HK := Aside0.mk (KeepBut.trans (zH HK) (KeepBut.of_grown hg g) (Kd.R_base2 HO_253002.out)); have HO296 := Aside0.mk (ho); clear HO_253002; clear ho hb hg hat; obtain ⟨Ao114, co114, eo114⟩ := Kd.R_slice HO296.out; subst eo114; obtain ⟨hcz115_0, hcz115_1, hcz115_2, hfz115_0, hfz115_1, hfz115_2⟩ := bq3 BK252))
            go_roundg kj33
            case measure => have := HK1.out; have := HJ22.out; have := HJ33.out; omega
            case rel => exact ⟨(wrap64 (x6_1 - 1)), (t291), (t292), (y294), (.slice Ao114 y294.length co114), zF, H', ⟨by have := HK1.out; have := HJ22.out; have := HJ33.out; omega⟩, ⟨Kd.R_mono (rB HO_253001 BK252) (fun _ hk => trivial)⟩, ⟨Kd.R_mono (rB HO296 BK252) (fun _ hk => trivial)⟩, ⟨kF BK236⟩, ⟨kF BK237⟩, ⟨by (with_reducible repeat (first | refine blk_drewN ?_ _ | refine blk_drew ?_ | refine blk_alloc ?_ _)); refine blk_put (cs := #[.int .i64 t245, .slice Ao20 t246.length co20, .slice (some ad265) x253002_1.length co39]) ?_ 2 _ rfl; (with_reducible repeat (first | refine blk_drewN ?_ _ | refine blk_drew ?_ | refine blk_alloc ?_ _)); exact BK252.out⟩, ⟨spec_l15Next.zI69 HI0⟩, ⟨zH HK⟩, ⟨zB HB⟩⟩
           ·rw [if_neg c94] at H
            have c94b0 : decide ((x253002_1.length : Int) < 12) = false := decide_eq_false c94
            have c94b1 : decide (x253002_1.length < 12) = false := decide_eq_false (by omega)
            clear c94
            have H' := Aside0.mk H
            clear H
            have hnb116 := NB266_236.out
            have hnc116 := NB236_266.out
            have hnb117 := NB266_237.out
            have hnc117 := NB237_266.out
            have hnb118 := NB266_252.out
            have hnc118 := NB252_266.out
            have hnb119 := NB266_0.out
            have hnc119 := NB0_266.out
            obtain ⟨hcz120_0, hcz120_1, hcz120_2, hcz120_3, hfz120_0, hfz120_1, hfz120_2, hfz120_3⟩ := bq4 BK266
            go_wp2_with (first | ((with_reducible refine gate_callee (f := 33) rfl ?_); refine goesL_ (some 61) rfl rfl Try.func33 (by kernel_rfl) rfl #[.pointer (some ⟨g, 0, none⟩), .int .i64 5] rfl zG ?_; (with_reducible refine (spec_l1Below.calls g s0_0 t263 t264 5 t287 t288 t289 w0 _ ?side1 ?side2 A90.out).mono ?_); (case side1 => exact spec_l15Next.zI69 HI0); (case side2 => exact zB HB); rintro e w121 ⟨rfl, hi, hb, hk⟩; refine ⟨_, rfl, ?_⟩; replace HO_253001 := IsS69.kR HI0 HO_253001 hk; replace HO_253002 := IsS69.kR HI0 HO_253002 hk; replace BK236 := kbT hk BK236 NB236_0; replace BK237 := kbT hk BK237 NB237_0; replace BK252 := kbT hk BK252 NB252_0; replace BK266 := kbT hk BK266 NB266_0; replace HK := hkT HK hk; replace HB := Aside0.mk (hb); replace HI0 := Aside0.mk (hi); (try clear hb); obtain ⟨hcz122_0, hcz122_1, hcz122_2, hcz122_3, hfz122_0, hfz122_1, hfz122_2, hfz122_3⟩ := bq4 BK266; have hnb123 := NB252_236.out; have hnc123 := NB236_252.out; have hnb124 := NB252_237.out; have hnc124 := NB237_252.out; have hnb125 := NB252_0.out; have hnc125 := NB0_252.out; obtain ⟨hcz126_0, hcz126_1, hcz126_2, hfz126_0, hfz126_1, hfz126_2⟩ := bq3 BK252) | ((with_reducible refine gate_callee (f := 33) rfl ?_); refine goesL_ (some 66) rfl rfl Try.func33 (by kernel_rfl) rfl #[.pointer (some ⟨g, 0, none⟩), .int .i64 t245] rfl zG ?_; (with_reducible refine (spec_l1Below.calls g s0_0 t288 t289 t245 t290 t291 t292 w0 _ ?side1 ?side2 A91.out).mono ?_); (case side1 => exact spec_l15Next.zI69 HI0); (case side2 => exact zB HB); rintro e w127 ⟨rfl, hi, hb, hk⟩; refine ⟨_, rfl, ?_⟩; replace HO_253001 := Aside0.mk (Kd.R_mono (Kd.R_keep (IsS69.apart (show IsS69 w0 _ g s0_0 t288 t289 from spec_l15Next.zI69 HI0) ((Kd.R_mono (rB HO_253001 BK266) (fun _ h_ => h_.1))) (by decide)) hk (fun _ h => h.2)) (fun _ h => h.1)); replace HO_253002 := Aside0.mk (Kd.R_mono (Kd.R_keep (IsS69.apart (show IsS69 w0 _ g s0_0 t288 t289 from spec_l15Next.zI69 HI0) (by (with_reducible repeat (first | apply Kd.R_alloc | apply Kd.R_drewN | apply Kd.R_drew)); exact (Kd.R_mono (Kd.R_far (p := ⟨gb266, 2, none⟩) (Kd.R_mono HO_253002.out (fun k_ hk => (⟨hk, hk⟩ : _ ∧ k_ ≠ gb266))) (fun _ hk => hk.2) (.int .i64 t287)) (fun _ h_ => h_.1))) (by decide)) hk (fun _ h => h.2)) (fun _ h => h.1)); replace BK236 := kbT hk BK236 NB236_0; replace BK237 := kbT hk BK237 NB237_0; replace BK252 := kbT hk BK252 NB252_0; replace BK266 := Aside0.mk (KeepBut.blk hk (g' := gb266) (o := .cells #[.int .i64 ((rd_T46 x253002_1 t262).f0), .bool ((rd_T46 x253002_1 t262).f1), .int .i64 t287, .int .i64 ((rd_T46 x253002_1 t262).f3)] 46 (0, 0)) (by (with_reducible repeat (first | refine blk_drewN ?_ _ | refine blk_drew ?_ | refine blk_alloc ?_ _)); refine blk_put (cs := #[.int .i64 ((rd_T46 x253002_1 t262).f0), .bool ((rd_T46 x253002_1 t262).f1), .int .i64 ((rd_T46 x253002_1 t262).f2), .int .i64 ((rd_T46 x253002_1 t262).f3)]) ?_ 2 _ rfl; (with_reducible repeat (first | refine blk_drewN ?_ _ | refine blk_drew ?_ | refine blk_alloc ?_ _)); exact BK266.out) NB266_0.out (by simp)); replace HK := hkT HK hk; replace HB := Aside0.mk (hb); replace HI0 := Aside0.mk (hi); (try clear hb); obtain ⟨hcz128_0, hcz128_1, hcz128_2, hcz128_3, hfz128_0, hfz128_1, hfz128_2, hfz128_3⟩ := bq4 BK266; obtain ⟨hcz129_0, hcz129_1, hcz129_2, hfz129_0, hfz129_1, hfz129_2⟩ := bq3 BK252) | ((with_reducible refine gate_callee (f := 24) rfl ?_); refine goesL_ (some 73) rfl rfl Try.func24 (by kernel_rfl) rfl #[.agg #[.int .i64 t245, .slice Ao20 t246.length co20, .slice (some ad265) x253002_1.length co39], .int .i64 ((rd_T46 x253002_1 t262).f0), .bool false, .int .i64 t287] rfl zG ?_; (with_reducible refine (spec_MoveOf.calls kj33 t245 _ _ t246 _ _ x253002_1 ((rd_T46 x253002_1 t262).f0) false t287 t293 _ ?side1 ?side2 ?side3 ?side4 A92.out).mono ?_); (case side1 => refine (Kd.R_reads' (e := 4) (base := w.heap.size) (ok := fun k_ => True) (n := t246.length) (c := co20) ?_).2.2; exact ((Kd.R_mono (rB HO_253001 BK266) (fun _ h_ => h_.1)))); (case side2 => exact (Kd.R_reads' HO_253001.out).2.1); (case side3 => refine (Kd.R_reads' (e := 46) (base := w.heap.size) (ok := fun k_ => k_ ≠ gb266) (n := x253002_1.length) (c := co39) ?_).2.2; exact (by (with_reducible repeat (first | apply Kd.R_alloc | apply Kd.R_drewN | apply Kd.R_drew)); exact (Kd.R_mono (Kd.R_far (p := ⟨gb266, 3, none⟩) (Kd.R_mono HO_253002.out (fun k_ hk => (⟨hk, hk⟩ : _ ∧ k_ ≠ gb266))) (fun _ hk => hk.2) (.int .i64 t290)) (fun _ h_ => h_.1)))); (case side4 => exact (Kd.R_reads' HO_253002.out).2.1); rintro e w130 ⟨rfl, hb⟩; refine ⟨_, rfl, ?_⟩; replace HO_253001 := Aside0.mk (Kd.R_below ((Kd.R_mono (rB HO_253001 BK266) (fun _ h_ => h_.1))) hb); replace HO_253002 := Aside0.mk (Kd.R_below (by (with_reducible repeat (first | apply Kd.R_alloc | apply Kd.R_drewN | apply Kd.R_drew)); exact (Kd.R_mono (Kd.R_far (p := ⟨gb266, 3, none⟩) (Kd.R_mono HO_253002.out (fun k_ hk => (⟨hk, hk⟩ : _ ∧ k_ ≠ gb266))) (fun _ hk => hk.2) (.int .i64 t290)) (fun _ h_ => h_.1))) hb); replace BK236 := Aside0.mk (blk_below (kF BK236) hb); replace BK237 := Aside0.mk (blk_below (kF BK237) hb); replace BK252 := Aside0.mk (blk_below (kF BK252) hb); replace BK266 := Aside0.mk (blk_below (g := gb266) (o := .cells #[.int .i64 ((rd_T46 x253002_1 t262).f0), .bool ((rd_T46 x253002_1 t262).f1), .int .i64 t287, .int .i64 t290] 46 (0, 0)) (by (with_reducible repeat (first | refine blk_drewN ?_ _ | refine blk_drew ?_ | refine blk_alloc ?_ _)); refine blk_put (cs := #[.int .i64 ((rd_T46 x253002_1 t262).f0), .bool ((rd_T46 x253002_1 t262).f1), .int .i64 t287, .int .i64 ((rd_T46 x253002_1 t262).f3)]) ?_ 3 _ rfl; (with_reducible repeat (first | refine blk_drewN ?_ _ | refine blk_drew ?_ | refine blk_alloc ?_ _)); exact BK266.out) hb); replace HK := hkB HK hb; replace HB := bS HB hb; replace HI0 := Aside0.mk (IsS69.below (show IsS69 w0 (w127.setCell ⟨gb266, 3, none⟩ (.int .i64 t290)) g s0_0 t291 t292 from spec_l15Next.zI69 HI0) hb); (try clear hb); obtain ⟨hcz131_0, hcz131_1, hcz131_2, hfz131_0, hfz131_1, hfz131_2⟩ := bq3 BK252))
            go_roundg kj33
            case measure => have := HK1.out; have := HJ22.out; have := HJ33.out; omega
            case rel => exact ⟨(wrap64 (x6_1 - 1)), (t291), (t292), (x253002_1), (.slice (some ad265) x253002_1.length co39), zF, H', ⟨by have := HK1.out; have := HJ22.out; have := HJ33.out; omega⟩, ⟨zR HO_253001⟩, ⟨by (with_reducible repeat (first | apply Kd.R_alloc | apply Kd.R_drewN | apply Kd.R_drew)); exact Kd.R_mono HO_253002.out (fun _ hk => trivial)⟩, ⟨zK BK236⟩, ⟨zK BK237⟩, ⟨zK BK252⟩, ⟨spec_l15Next.zI69 HI0⟩, ⟨zH HK⟩, ⟨zB HB⟩⟩
          ·rw [if_neg c93] at H
           have c93b0 : decide (t293 < 0) = false := decide_eq_false c93
           clear c93
           have H' := Aside0.mk H
           clear H
           have hnb132 := NB266_236.out
           have hnc132 := NB236_266.out
           have hnb133 := NB266_237.out
           have hnc133 := NB237_266.out
           have hnb134 := NB266_252.out
           have hnc134 := NB252_266.out
           have hnb135 := NB266_0.out
           have hnc135 := NB0_266.out
           obtain ⟨hcz136_0, hcz136_1, hcz136_2, hcz136_3, hfz136_0, hfz136_1, hfz136_2, hfz136_3⟩ := bq4 BK266
           go_wp2_with (first | ((with_reducible refine gate_callee (f := 33) rfl ?_); refine goesL_ (some 61) rfl rfl Try.func33 (by kernel_rfl) rfl #[.pointer (some ⟨g, 0, none⟩), .int .i64 5] rfl zG ?_; (with_reducible refine (spec_l1Below.calls g s0_0 t263 t264 5 t287 t288 t289 w0 _ ?side1 ?side2 A90.out).mono ?_); (case side1 => exact spec_l15Next.zI69 HI0); (case side2 => exact zB HB); rintro e w137 ⟨rfl, hi, hb, hk⟩; refine ⟨_, rfl, ?_⟩; replace HO_253001 := IsS69.kR HI0 HO_253001 hk; replace HO_253002 := IsS69.kR HI0 HO_253002 hk; replace BK236 := kbT hk BK236 NB236_0; replace BK237 := kbT hk BK237 NB237_0; replace BK252 := kbT hk BK252 NB252_0; replace BK266 := kbT hk BK266 NB266_0; replace HK := hkT HK hk; replace HB := Aside0.mk (hb); replace HI0 := Aside0.mk (hi); (try clear hb); obtain ⟨hcz138_0, hcz138_1, hcz138_2, hcz138_3, hfz138_0, hfz138_1, hfz138_2, hfz138_3⟩ := bq4 BK266; have hnb139 := NB252_236.out; have hnc139 := NB236_252.out; have hnb140 := NB252_237.out; have hnc140 := NB237_252.out; have hnb141 := NB252_0.out; have hnc141 := NB0_252.out; obtain ⟨hcz142_0, hcz142_1, hcz142_2, hfz142_0, hfz142_1, hfz142_2⟩ := bq3 BK252) | ((with_reducible refine gate_callee (f := 33) rfl ?_); refine goesL_ (some 66) rfl rfl Try.func33 (by kernel_rfl) rfl #[.pointer (some ⟨g, 0, none⟩), .int .i64 t245] rfl zG ?_; (with_reducible refine (spec_l1Below.calls g s0_0 t288 t289 t245 t290 t291 t292 w0 _ ?side1 ?side2 A91.out).mono ?_); (case side1 => exact spec_l15Next.zI69 HI0); (case side2 => exact zB HB); rintro e w143 ⟨rfl, hi, hb, hk⟩; refine ⟨_, rfl, ?_⟩; replace HO_253001 := Aside0.mk (Kd.R_mono (Kd.R_keep (IsS69.apart (show IsS69 w0 _ g s0_0 t288 t289 from spec_l15Next.zI69 HI0) ((Kd.R_mono (rB HO_253001 BK266) (fun _ h_ => h_.1))) (by decide)) hk (fun _ h => h.2)) (fun _ h => h.1)); replace HO_253002 := Aside0.mk (Kd.R_mono (Kd.R_keep (IsS69.apart (show IsS69 w0 _ g s0_0 t288 t289 from spec_l15Next.zI69 HI0) (by (with_reducible repeat (first | apply Kd.R_alloc | apply Kd.R_drewN | apply Kd.R_drew)); exact (Kd.R_mono (Kd.R_far (p := ⟨gb266, 2, none⟩) (Kd.R_mono HO_253002.out (fun k_ hk => (⟨hk, hk⟩ : _ ∧ k_ ≠ gb266))) (fun _ hk => hk.2) (.int .i64 t287)) (fun _ h_ => h_.1))) (by decide)) hk (fun _ h => h.2)) (fun _ h => h.1)); replace BK236 := kbT hk BK236 NB236_0; replace BK237 := kbT hk BK237 NB237_0; replace BK252 := kbT hk BK252 NB252_0; replace BK266 := Aside0.mk (KeepBut.blk hk (g' := gb266) (o := .cells #[.int .i64 ((rd_T46 x253002_1 t262).f0), .bool ((rd_T46 x253002_1 t262).f1), .int .i64 t287, .int .i64 ((rd_T46 x253002_1 t262).f3)] 46 (0, 0)) (by (with_reducible repeat (first | refine blk_drewN ?_ _ | refine blk_drew ?_ | refine blk_alloc ?_ _)); refine blk_put (cs := #[.int .i64 ((rd_T46 x253002_1 t262).f0), .bool ((rd_T46 x253002_1 t262).f1), .int .i64 ((rd_T46 x253002_1 t262).f2), .int .i64 ((rd_T46 x253002_1 t262).f3)]) ?_ 2 _ rfl; (with_reducible repeat (first | refine blk_drewN ?_ _ | refine blk_drew ?_ | refine blk_alloc ?_ _)); exact BK266.out) NB266_0.out (by simp)); replace HK := hkT HK hk; replace HB := Aside0.mk (hb); replace HI0 := Aside0.mk (hi); (try clear hb); obtain ⟨hcz144_0, hcz144_1, hcz144_2, hcz144_3, hfz144_0, hfz144_1, hfz144_2, hfz144_3⟩ := bq4 BK266; obtain ⟨hcz145_0, hcz145_1, hcz145_2, hfz145_0, hfz145_1, hfz145_2⟩ := bq3 BK252) | ((with_reducible refine gate_callee (f := 24) rfl ?_); refine goesL_ (some 73) rfl rfl Try.func24 (by kernel_rfl) rfl #[.agg #[.int .i64 t245, .slice Ao20 t246.length co20, .slice (some ad265) x253002_1.length co39], .int .i64 ((rd_T46 x253002_1 t262).f0), .bool false, .int .i64 t287] rfl zG ?_; (with_reducible refine (spec_MoveOf.calls kj33 t245 _ _ t246 _ _ x253002_1 ((rd_T46 x253002_1 t262).f0) false t287 t293 _ ?side1 ?side2 ?side3 ?side4 A92.out).mono ?_); (case side1 => refine (Kd.R_reads' (e := 4) (base := w.heap.size) (ok := fun k_ => True) (n := t246.length) (c := co20) ?_).2.2; exact ((Kd.R_mono (rB HO_253001 BK266) (fun _ h_ => h_.1)))); (case side2 => exact (Kd.R_reads' HO_253001.out).2.1); (case side3 => refine (Kd.R_reads' (e := 46) (base := w.heap.size) (ok := fun k_ => k_ ≠ gb266) (n := x253002_1.length) (c := co39) ?_).2.2; exact (by (with_reducible repeat (first | apply Kd.R_alloc | apply Kd.R_drewN | apply Kd.R_drew)); exact (Kd.R_mono (Kd.R_far (p := ⟨gb266, 3, none⟩) (Kd.R_mono HO_253002.out (fun k_ hk => (⟨hk, hk⟩ : _ ∧ k_ ≠ gb266))) (fun _ hk => hk.2) (.int .i64 t290)) (fun _ h_ => h_.1)))); (case side4 => exact (Kd.R_reads' HO_253002.out).2.1); rintro e w146 ⟨rfl, hb⟩; refine ⟨_, rfl, ?_⟩; replace HO_253001 := Aside0.mk (Kd.R_below ((Kd.R_mono (rB HO_253001 BK266) (fun _ h_ => h_.1))) hb); replace HO_253002 := Aside0.mk (Kd.R_below (by (with_reducible repeat (first | apply Kd.R_alloc | apply Kd.R_drewN | apply Kd.R_drew)); exact (Kd.R_mono (Kd.R_far (p := ⟨gb266, 3, none⟩) (Kd.R_mono HO_253002.out (fun k_ hk => (⟨hk, hk⟩ : _ ∧ k_ ≠ gb266))) (fun _ hk => hk.2) (.int .i64 t290)) (fun _ h_ => h_.1))) hb); replace BK236 := Aside0.mk (blk_below (kF BK236) hb); replace BK237 := Aside0.mk (blk_below (kF BK237) hb); replace BK252 := Aside0.mk (blk_below (kF BK252) hb); replace BK266 := Aside0.mk (blk_below (g := gb266) (o := .cells #[.int .i64 ((rd_T46 x253002_1 t262).f0), .bool ((rd_T46 x253002_1 t262).f1), .int .i64 t287, .int .i64 t290] 46 (0, 0)) (by (with_reducible repeat (first | refine blk_drewN ?_ _ | refine blk_drew ?_ | refine blk_alloc ?_ _)); refine blk_put (cs := #[.int .i64 ((rd_T46 x253002_1 t262).f0), .bool ((rd_T46 x253002_1 t262).f1), .int .i64 t287, .int .i64 ((rd_T46 x253002_1 t262).f3)]) ?_ 3 _ rfl; (with_reducible repeat (first | refine blk_drewN ?_ _ | refine blk_drew ?_ | refine blk_alloc ?_ _)); exact BK266.out) hb); replace HK := hkB HK hb; replace HB := bS HB hb; replace HI0 := Aside0.mk (IsS69.below (show IsS69 w0 (w143.setCell ⟨gb266, 3, none⟩ (.int .i64 t290)) g s0_0 t291 t292 from spec_l15Next.zI69 HI0) hb); (try clear hb)))
           go_roundg kj33
           case measure => have := HK1.out; have := HJ22.out; have := HJ33.out; omega
           case rel => exact ⟨(wrap64 (x6_1 - 1)), (t291), (t292), (x253002_1), (.slice (some ad265) x253002_1.length co39), zF, H', ⟨by have := HK1.out; have := HJ22.out; have := HJ33.out; omega⟩, ⟨zR HO_253001⟩, ⟨by (with_reducible repeat (first | apply Kd.R_alloc | apply Kd.R_drewN | apply Kd.R_drew)); exact Kd.R_mono HO_253002.out (fun _ hk => trivial)⟩, ⟨zK BK236⟩, ⟨zK BK237⟩, ⟨zK BK252⟩, ⟨spec_l15Next.zI69 HI0⟩, ⟨zH HK⟩, ⟨zB HB⟩⟩
     ·replace c30 := Bool.eq_false_iff.mpr c30
      subst c30
      have H1 : ((spec_l1Once.f s0_0 x1001_1 x1002_1 6).bind fun bt256 => (if bt256.1 = true then (if 0 ≤ (wrap64 ((x253002_1.length : Int) / 2)) then (if (wrap64 ((x253002_1.length : Int) / 2)) ≤ (x253002_1.length : Int) then (some (t245, t246, (x253002_1.take ((wrap64 ((x253002_1.length : Int) / 2)) : Int).toNat), bt256.2.1, bt256.2.2)) else (none)) else (none)) else (some (t245, t246, x253002_1, bt256.2.1, bt256.2.2)))) = some (r1, r2, r3, r4, r5) := by rw [if_neg (show ¬ (false = true) by decide)] at H; exact H
      clear H
      have H := H1
      clear H1
      replace H := Option.bind_eq_some_iff.mp H
      obtain ⟨⟨t256, t257, t258⟩, A1470, H⟩ := H
      dsimp only at H
      have A147 := Aside0.mk A1470
      clear A1470
      by_cases c148 : t256 = true
      ·subst c148
       have H1 : (if 0 ≤ (wrap64 ((x253002_1.length : Int) / 2)) then (if (wrap64 ((x253002_1.length : Int) / 2)) ≤ (x253002_1.length : Int) then (some (t245, t246, (x253002_1.take ((wrap64 ((x253002_1.length : Int) / 2)) : Int).toNat), t257, t258)) else (none)) else (none)) = some (r1, r2, r3, r4, r5) := by rw [if_pos rfl] at H; exact H
       clear H
       have H := H1
       clear H1
       obtain ⟨ji149, hji149⟩ : ∃ j_ : Int, (wrap64 ((x253002_1.length : Int) / 2)) = j_ := ⟨_, rfl⟩
       replace H : (if 0 ≤ (ji149) then (if (ji149) ≤ (x253002_1.length : Int) then (some (t245, t246, (x253002_1.take ((ji149) : Int).toNat), t257, t258)) else (none)) else (none)) = some (r1, r2, r3, r4, r5) := by first | (rw [hji149] at H; exact H) | (simp only [hji149] at H ⊢; exact H)
       (try rw [hji149] at A147)
       have hji149w : (IntKind.i64.wrap ((x253002_1.length : Int) / 2)) = ji149 := (i64_w _).trans hji149
       obtain ⟨c150, H⟩ := ifS H
       have c150b0 := eq_true c150
       have c150b1 : decide (0 ≤ (ji149)) = true := decide_eq_true c150
       clear c150
       obtain ⟨c151, H⟩ := ifS H
       have c151b0 := eq_true c151
       have c151b1 : decide ((ji149) ≤ (x253002_1.length : Int)) = true := decide_eq_true c151
       clear c151
       obtain ⟨y259, hy259⟩ : ∃ y_ : List (S46), y_ = (x253002_1.take ((ji149) : Int).toNat) := ⟨_, rfl⟩
       replace H : (some (t245, t246, y259, t257, t258)) = some (r1, r2, r3, r4, r5) := by first | (rw [hy259]; with_reducible exact H) | (rw [hy259]; exact H) | exact H
       have Ny259 := Aside0.mk hy259
       clear hy259
       simp only [Option.some.injEq, Prod.mk.injEq] at H
       obtain ⟨rfl, rfl, rfl, rfl, rfl⟩ := H
       go_wp2_with (first | ((with_reducible refine gate_callee (f := 31) rfl ?_); refine goesL_ (some 88) rfl rfl Try.func31 (by kernel_rfl) rfl #[.pointer (some ⟨g, 0, none⟩), .int .i64 6] rfl zG ?_; (with_reducible refine (spec_l1Once.calls g s0_0 x1001_1 x1002_1 6 true t257 t258 w0 _ ?side1 ?side2 A147.out).mono ?_); (case side1 => exact spec_l15Next.zI69 HI0); (case side2 => exact zB HB); rintro e w152 ⟨rfl, hi, hb, hk⟩; refine ⟨_, rfl, ?_⟩; replace HO_253001 := IsS69.kR HI0 HO_253001 hk; replace HO_253002 := IsS69.kR HI0 HO_253002 hk; replace BK236 := kbT hk BK236 NB236_0; replace BK237 := kbT hk BK237 NB237_0; replace BK252 := kbT hk BK252 NB252_0; replace HK := hkT HK hk; replace HB := Aside0.mk (hb); replace HI0 := Aside0.mk (hi); (try clear hb); have hnb153 := NB252_236.out; have hnc153 := NB236_252.out; have hnb154 := NB252_237.out; have hnc154 := NB237_252.out; have hnb155 := NB252_0.out; have hnc155 := NB0_252.out; obtain ⟨hcz156_0, hcz156_1, hcz156_2, hfz156_0, hfz156_1, hfz156_2⟩ := bq3 BK252; obtain ⟨Ao157, co157, eo157⟩ := Kd.R_slice HO_253002.out; subst eo157; have q158 : ((ji149) : Int) ≤ ((x253002_1.length : Int) : Int) := zD; obtain ⟨i0158, hi0158, _, hsz158, _⟩ := info_parts info46; have hcut158 := cut_to (P := Try.prog) 25 46 .i64 Try.underlying25 hi0158 Ao157 x253002_1.length co157 (ji149) (zD) q158 (Kd.R_reads' HO_253002.out).2.1; have hr158 := Kd.R_take (m := ((ji149) : Int).toNat) HO_253002.out (by omega); have hy158 : y259.length = ((ji149) : Int).toNat := (by rw [Ny259.out, List.length_take]; omega); rw [← Ny259.out] at hr158; rw [← hy158] at hr158 hcut158; clear hy158 hi0158 hsz158 HO_253002; have HO261 := Aside0.mk hr158; clear hr158; replace q158 := eq_true q158; have hnb159 := NB237_236.out; have hnc159 := NB236_237.out; have hnb160 := NB237_0.out; have hnc160 := NB0_237.out; obtain ⟨hcz161_0, hcz161_1, hcz161_2, hfz161_0, hfz161_1, hfz161_2⟩ := bq3 BK237))
       refine bodyPost_ret (results_cell_row rfl _ _ gb237 27 #[.int .i64 t245, .slice Ao20 t246.length co20, .slice Ao157 y259.length co157] (0, 0) _ rfl (by (with_reducible repeat (first | refine blk_drewN ?_ _ | refine blk_drew ?_ | refine blk_alloc ?_ _)); refine blk_put (cs := #[.int .i64 t245, .slice Ao20 t246.length co20, .slice none 0 0]) ?_ 2 _ rfl; (with_reducible repeat (first | refine blk_drewN ?_ _ | refine blk_drew ?_ | refine blk_alloc ?_ _)); refine blk_put (cs := #[.int .i64 t245, .slice none 0 0, .slice none 0 0]) ?_ 1 _ rfl; (with_reducible repeat (first | refine blk_drewN ?_ _ | refine blk_drew ?_ | refine blk_alloc ?_ _)); refine blk_put (cs := #[.int .i64 0, .slice none 0 0, .slice none 0 0]) ?_ 0 _ rfl; (with_reducible repeat (first | refine blk_drewN ?_ _ | refine blk_drew ?_ | refine blk_alloc ?_ _)); refine blk_far ?_ NB237_252.out _; (with_reducible repeat (first | refine blk_drewN ?_ _ | refine blk_drew ?_ | refine blk_alloc ?_ _)); exact BK237.out) Try.underlying27 rfl (by kernel_rfl)) rfl ?_
       exact ⟨_, _, by first | rfl | (simp [errW_none, errW_some] <;> rfl) | (simp only [← hji149]; first | rfl | (simp [errW_none, errW_some] <;> rfl)) | (simp [*, errW_none, errW_some] <;> rfl), Kd.R_mono (rB2 HO_253001 BK252 BK237) (fun _ hk => trivial), Kd.R_mono (rB2 HO261 BK252 BK237) (fun _ hk => trivial), spec_l15Next.zI69 HI0, zB HB, zH HK⟩
      ·replace c148 := Bool.eq_false_iff.mpr c148
       subst c148
       have H1 : (some (t245, t246, x253002_1, t257, t258)) = some (r1, r2, r3, r4, r5) := by rw [if_neg (show ¬ (false = true) by decide)] at H; exact H
       clear H
       have H := H1
       clear H1
       simp only [Option.some.injEq, Prod.mk.injEq] at H
       obtain ⟨rfl, rfl, rfl, rfl, rfl⟩ := H
       go_wp2_with (first | ((with_reducible refine gate_callee (f := 31) rfl ?_); refine goesL_ (some 88) rfl rfl Try.func31 (by kernel_rfl) rfl #[.pointer (some ⟨g, 0, none⟩), .int .i64 6] rfl zG ?_; (with_reducible refine (spec_l1Once.calls g s0_0 x1001_1 x1002_1 6 false t257 t258 w0 _ ?side1 ?side2 A147.out).mono ?_); (case side1 => exact spec_l15Next.zI69 HI0); (case side2 => exact zB HB); rintro e w162 ⟨rfl, hi, hb, hk⟩; refine ⟨_, rfl, ?_⟩; replace HO_253001 := IsS69.kR HI0 HO_253001 hk; replace HO_253002 := IsS69.kR HI0 HO_253002 hk; replace BK236 := kbT hk BK236 NB236_0; replace BK237 := kbT hk BK237 NB237_0; replace BK252 := kbT hk BK252 NB252_0; replace HK := hkT HK hk; replace HB := Aside0.mk (hb); replace HI0 := Aside0.mk (hi); (try clear hb); have hnb163 := NB252_236.out; have hnc163 := NB236_252.out; have hnb164 := NB252_237.out; have hnc164 := NB237_252.out; have hnb165 := NB252_0.out; have hnc165 := NB0_252.out; obtain ⟨hcz166_0, hcz166_1, hcz166_2, hfz166_0, hfz166_1, hfz166_2⟩ := bq3 BK252; have hnb167 := NB237_236.out; have hnc167 := NB236_237.out; have hnb168 := NB237_0.out; have hnc168 := NB0_237.out; obtain ⟨hcz169_0, hcz169_1, hcz169_2, hfz169_0, hfz169_1, hfz169_2⟩ := bq3 BK237; obtain ⟨Ao170, co170, eo170⟩ := Kd.R_slice HO_253002.out; subst eo170))
       refine bodyPost_ret (results_cell_row rfl _ _ gb237 27 #[.int .i64 t245, .slice Ao20 t246.length co20, .slice Ao170 x253002_1.length co170] (0, 0) _ rfl (by (with_reducible repeat (first | refine blk_drewN ?_ _ | refine blk_drew ?_ | refine blk_alloc ?_ _)); refine blk_put (cs := #[.int .i64 t245, .slice Ao20 t246.length co20, .slice none 0 0]) ?_ 2 _ rfl; (with_reducible repeat (first | refine blk_drewN ?_ _ | refine blk_drew ?_ | refine blk_alloc ?_ _)); refine blk_put (cs := #[.int .i64 t245, .slice none 0 0, .slice none 0 0]) ?_ 1 _ rfl; (with_reducible repeat (first | refine blk_drewN ?_ _ | refine blk_drew ?_ | refine blk_alloc ?_ _)); refine blk_put (cs := #[.int .i64 0, .slice none 0 0, .slice none 0 0]) ?_ 0 _ rfl; (with_reducible repeat (first | refine blk_drewN ?_ _ | refine blk_drew ?_ | refine blk_alloc ?_ _)); exact BK237.out) Try.underlying27 rfl (by kernel_rfl)) rfl ?_
       exact ⟨_, _, zE, Kd.R_mono (rB HO_253001 BK237) (fun _ hk => trivial), Kd.R_mono (rB HO_253002 BK237) (fun _ hk => trivial), spec_l15Next.zI69 HI0, zB HB, zH HK⟩

end Go.Proofs.Ytfibjclnaeocbaa.PFnChain
