-- WRITTEN by pp.py, this session's own wrapper around the print; not trusted: Lean checks it
import Derived.Test.YtfibjclnaeocbaaPFnChainx0
import Derived.Test.YtfibjclnaeocbaaPFnChainx1
import Derived.Test.YtfibjclnaeocbaaPFnChainx7
import Derived.Test.YtfibjclnaeocbaaPFnChainx11
import Derived.Test.YtfibjclnaeocbaaPFnChainx15
namespace Go.Proofs.Ytfibjclnaeocbaa.PFnChain
open Go.RowKit Go.Proofs.Ytfibjclnaeocbaa.Hw Go.Proofs.YtfibjclnaeocbaaW.PrintWords Go.Proofs.YtfibjclnaeocbaaW.PrintLast Go.Proofs.YtfibjclnaeocbaaW.PrintMore
attribute [local go_sem] max2_int min2_int max_two min_two max_three min_three max_four min_four   -- for this text's walks alone
set_option linter.unusedVariables false
set_option linter.unusedSimpArgs false
set_option linter.unusedSectionVars false

/-! ### laws_FnChain: function 4 -/
mutual
def laws_FnChain.l0 : Nat → List (S27) → Int → Option (Bool)
 | 0, _, _ => none
 | k + 1, x3, x4 => if x4 < (x3.length : Int) then (laws_FnChain.l1 k x3 x4 x4) else (some (decide ((x3.length : Int) > 0)))
def laws_FnChain.l1 : Nat → List (S27) → Int → Int → Option (Bool)
 | 0, _, _, _ => none
 | k + 1, x3, x4, x5 => if x5 < (x3.length : Int) then (if 0 ≤ x5 then (if 0 ≤ x4 then (if x4 < (x3.length : Int) then ((impl_Follows.f k ((rd_T27 x3 x5).f0) ((rd_T27 x3 x5).f1) ((rd_T27 x3 x5).f2) ((rd_T27 x3 x4).f0) ((rd_T27 x3 x4).f1) ((rd_T27 x3 x4).f2)).bind fun t542 => (if t542 = true then (laws_FnChain.l1 k x3 x4 (wrap64 (x5 + 1))) else (some false))) else (none)) else (none)) else (none)) else (laws_FnChain.l0 k x3 (wrap64 (x4 + 1)))
end
def laws_FnChain.f (k : Nat) (l0 : List Int) : Option (Bool) := (laws_big.f l0).bind fun t531 => (if t531 = true then (some true) else ((spec_DrawChainFollows.f k l0).bind fun t532 => ((impl_ChainFollows.f k t532).bind fun t535 => (if t535 = true then (laws_FnChain.l0 k t532 0) else (if (t532.length : Int) = 1 then (if 0 < (t532.length : Int) then ((impl_IsMachine.f k ((rd_T27 t532 0).f0) ((rd_T27 t532 0).f1) ((rd_T27 t532 0).f2)).bind fun t537 => (if t537 = true then (some false) else ((spec_ChainFollows.f k t532).bind fun t538 => (some (!t538))))) else (none)) else ((spec_ChainFollows.f k t532).bind fun t539 => (some (!t539))))))))
theorem laws_FnChain.mono_l : ∀ k, (∀ y0 y1, LeO (laws_FnChain.l0 k y0 y1) (laws_FnChain.l0 (k + 1) y0 y1)) ∧ (∀ y0 y1 y2, LeO (laws_FnChain.l1 k y0 y1 y2) (laws_FnChain.l1 (k + 1) y0 y1 y2))
 | 0 => ⟨fun _ _ r h => by simp [laws_FnChain.l0] at h, fun _ _ _ r h => by simp [laws_FnChain.l1] at h⟩
 | k + 1 => by
  obtain ⟨ih0, ih1⟩ := laws_FnChain.mono_l k
  refine ⟨?a0, ?a1⟩
  case' a0 => intros; unfold laws_FnChain.l0
  case' a1 => intros; unfold laws_FnChain.l1
  all_goals repeat' first
  | (with_reducible exact ih0 _ _)
  | (with_reducible exact ih1 _ _ _)
  | (with_reducible exact impl_ChainFollows.mono _ _)
  | (with_reducible exact impl_Follows.mono _ _ _ _ _ _ _)
  | (with_reducible exact impl_IsMachine.mono _ _ _ _)
  | (with_reducible exact spec_ChainFollows.mono _ _)
  | (with_reducible exact spec_DrawChainFollows.mono _ _)
  | (with_reducible exact LeO.refl _)
  | (with_reducible exact LeO.none _)
  | (with_reducible refine LeO.ite ?_ ?_)
  | (with_reducible refine LeO.bind ?_ (fun _ => ?_))
  | exact ih0 _ _
  | exact ih1 _ _ _
  | exact impl_ChainFollows.mono _ _
  | exact impl_Follows.mono _ _ _ _ _ _ _
  | exact impl_IsMachine.mono _ _ _ _
  | exact spec_ChainFollows.mono _ _
  | exact spec_DrawChainFollows.mono _ _
  | exact LeO.none _
  | refine LeO.ite ?_ ?_
  | refine LeO.bind ?_ (fun _ => ?_)
theorem laws_FnChain.mono : ∀ a0 k, LeO (laws_FnChain.f k a0) (laws_FnChain.f (k + 1) a0) := by
 intro a0 k
 obtain ⟨ih0, ih1⟩ := laws_FnChain.mono_l k
 unfold laws_FnChain.f
 repeat' first
   | (with_reducible exact ih0 _ _)
   | (with_reducible exact ih1 _ _ _)
   | (with_reducible exact impl_ChainFollows.mono _ _)
   | (with_reducible exact impl_Follows.mono _ _ _ _ _ _ _)
   | (with_reducible exact impl_IsMachine.mono _ _ _ _)
   | (with_reducible exact spec_ChainFollows.mono _ _)
   | (with_reducible exact spec_DrawChainFollows.mono _ _)
   | (with_reducible exact LeO.refl _)
   | (with_reducible exact LeO.none _)
   | (with_reducible refine LeO.ite ?_ ?_)
   | (with_reducible refine LeO.bind ?_ (fun _ => ?_))
   | exact ih0 _ _
   | exact ih1 _ _ _
   | exact impl_ChainFollows.mono _ _
   | exact impl_Follows.mono _ _ _ _ _ _ _
   | exact impl_IsMachine.mono _ _ _ _
   | exact spec_ChainFollows.mono _ _
   | exact spec_DrawChainFollows.mono _ _
   | exact LeO.none _
   | refine LeO.ite ?_ ?_
   | refine LeO.bind ?_ (fun _ => ?_)
def laws_FnChain.T12 : Bool × List (List Nat × List Nat) := (true, [([], []), ([], []), ([0, 1], [0, 1]), ([2], [2]), ([], []), ([], []), ([4, 5], [4, 5]), ([6], [6]), ([3, 7], [3, 7]), ([8], [8])])
def laws_FnChain.B12 : List Nat := [0, 0, 3, 7, 0, 0, 48, 112, 255, 511]
theorem laws_FnChain.tab12 : rtab .any (opsOf Try.f4 12) = laws_FnChain.T12 := by kernel_rfl
theorem laws_FnChain.bits12 : waitsOk laws_FnChain.T12.2 laws_FnChain.B12 = true := by kernel_rfl
set_option maxHeartbeats 8000000 in
set_option maxRecDepth 100000 in
theorem laws_FnChain.calls (k : Nat) (A0 : Option Addr) (c0 : Nat) (l0 : List Int) (r : Bool) (w : World) (hr0 : Kd.C (Kd.int .u8) w A0 l0.length l0) (hc0 : l0.length ≤ c0) (ht_ : r = true) (h : laws_FnChain.f k l0 = some r) :
  Calls Try.prog 4 #[.slice A0 l0.length c0] w fun e w' => e = .returned (.bool r) ∧ Below w.heap.size w w' := by
 have hu27 := Try.underlying27
 have HR0 := Aside0.mk hr0
 have HC0 := Aside0.mk hc0
 clear hr0 hc0
 have HB := Aside0.mk (Below.refl w.heap.size w)
 have H : ((laws_big.f l0).bind fun t531 => (if t531 = true then (some true) else ((spec_DrawChainFollows.f k l0).bind fun t532 => ((impl_ChainFollows.f k t532).bind fun t535 => (if t535 = true then (laws_FnChain.l0 k t532 0) else (if (t532.length : Int) = 1 then (if 0 < (t532.length : Int) then ((impl_IsMachine.f k ((rd_T27 t532 0).f0) ((rd_T27 t532 0).f1) ((rd_T27 t532 0).f2)).bind fun t537 => (if t537 = true then (some false) else ((spec_ChainFollows.f k t532).bind fun t538 => (some (!t538))))) else (none)) else ((spec_ChainFollows.f k t532).bind fun t539 => (some (!t539))))))))) = some r := h
 clear h
 obtain ⟨t531, A2, H⟩ := bindS H
 by_cases c3 : t531 = true
 ·subst c3
  have H1 : (some true) = some r := by rw [if_pos rfl] at H; exact H
  clear H
  have H := H1
  clear H1
  obtain rfl := Option.some.inj H
  go_enter Try.func4, Try.ntmps4
  go_wp2_with (first | ((with_reducible refine gate_callee (f := 5) rfl ?_); refine goesL_ (some 7) rfl rfl Try.func5 (by kernel_rfl) rfl #[.slice A0 l0.length c0] rfl zG ?_; (with_reducible refine (laws_big.calls _ _ l0 true _ ?side1 ?side2 A2.out).mono ?_); (case side1 => exact cT HR0); (case side2 => exact HC0.out); rintro e w' ⟨rfl, ⟨nd, rfl⟩⟩; refine ⟨_, rfl, ?_⟩))
  go_ret
  exact ⟨zE, zB HB⟩
 ·replace c3 := Bool.eq_false_iff.mpr c3
  subst c3
  have H1 : ((spec_DrawChainFollows.f k l0).bind fun t532 => ((impl_ChainFollows.f k t532).bind fun t535 => (if t535 = true then (laws_FnChain.l0 k t532 0) else (if (t532.length : Int) = 1 then (if 0 < (t532.length : Int) then ((impl_IsMachine.f k ((rd_T27 t532 0).f0) ((rd_T27 t532 0).f1) ((rd_T27 t532 0).f2)).bind fun t537 => (if t537 = true then (some false) else ((spec_ChainFollows.f k t532).bind fun t538 => (some (!t538))))) else (none)) else ((spec_ChainFollows.f k t532).bind fun t539 => (some (!t539))))))) = some r := by rw [if_neg (show ¬ (false = true) by decide)] at H; exact H
  clear H
  have H := H1
  clear H1
  obtain ⟨t532, A4, H⟩ := bindS H
  obtain ⟨t535, A5, H⟩ := bindS H
  by_cases c6 : t535 = true
  ·subst c6
   have H1 : (laws_FnChain.l0 k t532 0) = some r := by rw [if_pos rfl] at H; exact H
   clear H
   have H := H1
   clear H1
   have H' := Aside0.mk H
   clear H
   go_enter Try.func4, Try.ntmps4
   go_wp2_with (first | ((with_reducible refine gate_callee (f := 5) rfl ?_); refine goesL_ (some 7) rfl rfl Try.func5 (by kernel_rfl) rfl #[.slice A0 l0.length c0] rfl zG ?_; (with_reducible refine (laws_big.calls _ _ l0 false _ ?side1 ?side2 A2.out).mono ?_); (case side1 => exact cT HR0); (case side2 => exact HC0.out); rintro e w' ⟨rfl, ⟨nd, rfl⟩⟩; refine ⟨_, rfl, ?_⟩) | ((with_reducible refine gate_callee (f := 15) rfl ?_); refine goesL_ (some 9) rfl rfl Try.func15 (by kernel_rfl) rfl #[.slice A0 l0.length c0] rfl zG ?_; (with_reducible refine (spec_DrawChainFollows.calls k _ _ l0 t532 _ ?side1 ?side2 A4.out).mono ?_); (case side1 => exact cT HR0); (case side2 => exact HC0.out); rintro e w7 ⟨v533, rfl, ho0, hb⟩; refine ⟨_, rfl, ?_⟩; have HO534 := Aside0.mk (Kd.S_lower ho0 (below_size (zB HB))); replace HB := bS HB hb; (try clear hb); (try clear ho0); obtain ⟨Ao8, co8, eo8⟩ := Kd.S_slice HO534.out; subst eo8) | ((with_reducible refine gate_callee (f := 16) rfl ?_); refine goesL_ (some 11) rfl rfl Try.func16 (by kernel_rfl) rfl #[.slice Ao8 t532.length co8] rfl zG ?_; (with_reducible refine (impl_ChainFollows.calls k _ _ t532 true _ ?side1 ?side2 A5.out).mono ?_); (case side1 => exact cU (Kd.S_reads' HO534.out).2.2); (case side2 => exact (Kd.S_reads' HO534.out).2.1); rintro e w9 ⟨rfl, hb⟩; refine ⟨_, rfl, ?_⟩; replace HO534 := Aside0.mk (Kd.S_below (zS HO534) hb); replace HB := bS HB hb; (try clear hb)))
   go_loopg [4] k (fun kq v4 w' => ∃ (x4_1 : Int), v4 = .int .i64 x4_1 ∧ Aside0 (laws_FnChain.l0 kq t532 x4_1 = some r) ∧ Aside0 (kq ≤ k) ∧ Aside0 (Kd.S k27 27 w' w.heap.size (fun _ => True) (.slice Ao8 t532.length co8) t532) ∧ Aside0 (Below w.heap.size w w'))
   case atStart => exact ⟨(0), zF, H', ⟨Nat.le_refl _⟩, ⟨zS HO534⟩, ⟨zB HB⟩⟩
   case round =>
    clear H'
    try clear c1
    try clear p2
    try clear c3
    try clear c4
    try clear c5
    try clear c6
    obtain ⟨x4_1, rfl, HA, HK1, HO_3, HB⟩ := hrel
    cases gk with
    | zero => exact absurd HA.out (by simp [laws_FnChain.l0])
    | succ k1 =>
     have H := HA.out
     clear HA
     simp only [laws_FnChain.l0] at H
     by_cases c10 : x4_1 < (t532.length : Int)
     ·rw [if_pos c10] at H
      have c10b0 : decide (x4_1 < (t532.length : Int)) = true := decide_eq_true c10
      clear c10
      have H' := Aside0.mk H
      clear H
      go_wp2
      go_loopg [5] k1 (fun kq v5 w' => ∃ (x5_2 : Int), v5 = .int .i64 x5_2 ∧ Aside0 (laws_FnChain.l1 kq t532 x4_1 x5_2 = some r) ∧ Aside0 (kq ≤ k1) ∧ Aside0 (Kd.S k27 27 w' w.heap.size (fun _ => True) (.slice Ao8 t532.length co8) t532) ∧ Aside0 (Below w.heap.size w w'))
      case atStart => exact ⟨(x4_1), zF, H', ⟨Nat.le_refl _⟩, ⟨zS HO_3⟩, ⟨zB HB⟩⟩
      case round =>
       clear H'
       try clear c1
       try clear p2
       try clear c3
       try clear c4
       try clear c5
       try clear c6
       try clear c10
       try clear c10b0
       try clear p2
       obtain ⟨x5_2, rfl, HA, HK2, HO_3, HB⟩ := hrel
       cases gk with
       | zero => exact absurd HA.out (by simp [laws_FnChain.l1])
       | succ k2 =>
        have H := HA.out
        clear HA
        simp only [laws_FnChain.l1] at H
        by_cases c11 : x5_2 < (t532.length : Int)
        ·rw [if_pos c11] at H
         have c11b0 : decide (x5_2 < (t532.length : Int)) = true := decide_eq_true c11
         clear c11
         obtain ⟨c12, H⟩ := ifS H
         have c12b0 : decide (0 ≤ x5_2) = true := decide_eq_true c12
         clear c12
         obtain ⟨c13, H⟩ := ifS H
         have c13b0 : decide (0 ≤ x4_1) = true := decide_eq_true c13
         clear c13
         obtain ⟨c14, H⟩ := ifS H
         have c14b0 : decide (x4_1 < (t532.length : Int)) = true := decide_eq_true c14
         clear c14
         obtain ⟨t542, A15, H⟩ := bindS H
         by_cases c16 : t542 = true
         ·subst c16
          have H1 : (laws_FnChain.l1 k2 t532 x4_1 (wrap64 (x5_2 + 1))) = some r := by rw [if_pos rfl] at H; exact H
          clear H
          have H := H1
          clear H1
          have H' := Aside0.mk H
          clear H
          try go_wp2
          replace HO_3 := Aside0.mk (Kd.S_drew HO_3.out)
          replace HB := Aside0.mk (below_drew1 HB.out)
          have p540 : 0 ≤ (x5_2 : Int) := zD
          have q540 : x5_2 < (t532.length : Int) := zD
          obtain ⟨ad540, A540_1, c540_1, A540_2, c540_2, e540, hx540_0, hx540_1, hx540_2, hl540_1, hi540_1, hl540_2, hi540_2⟩ := at_T27 (Kd.S_reads' HO_3.out).2.2 x5_2 p540 q540
          cases e540
          obtain ⟨ce540, hce540, hMe540, hcc540⟩ := Kd.S_get HO_3.out z27 x5_2 p540 (by first | exact q540 | exact zD | (have e_ := (Kd.S_reads' HO_3.out).1; omega))
          obtain ⟨ve540_1, ve540_2, rfl, ge540_1, ge540_2⟩ := k27_openM hMe540
          have hv540_1 := hcc540 1 _ rfl
          rw [add_field _ _ 1 (by omega)] at hv540_1
          replace hv540_1 := Option.some.inj (hv540_1.symm.trans hx540_1)
          rw [hv540_1] at ge540_1
          have HL540_1 := Aside0.mk (show Kd.R Kd.bool 4 _ _ _ _ ((rd_T27 t532 x5_2).f1) from ge540_1)
          clear hv540_1 ge540_1
          have hv540_2 := hcc540 2 _ rfl
          rw [add_field _ _ 2 (by omega)] at hv540_2
          replace hv540_2 := Option.some.inj (hv540_2.symm.trans hx540_2)
          rw [hv540_2] at ge540_2
          have HL540_2 := Aside0.mk (show Kd.R k46 46 _ _ _ _ ((rd_T27 t532 x5_2).f2) from ge540_2)
          clear hv540_2 ge540_2
          clear hcc540 hce540
          have HR540_1 := Aside0.mk hi540_1
          have HC540_1 := Aside0.mk hl540_1
          clear hi540_1 hl540_1
          have HR540_2 := Aside0.mk hi540_2
          have HC540_2 := Aside0.mk hl540_2
          clear hi540_2 hl540_2
          replace p540 := eq_true p540
          replace q540 := eq_true q540
          have p541 : 0 ≤ (x4_1 : Int) := zD
          have q541 : x4_1 < (t532.length : Int) := zD
          obtain ⟨ad541, A541_1, c541_1, A541_2, c541_2, e541, hx541_0, hx541_1, hx541_2, hl541_1, hi541_1, hl541_2, hi541_2⟩ := at_T27 (Kd.S_reads' HO_3.out).2.2 x4_1 p541 q541
          obtain rfl : ad540 = ad541 := (by injection e541)
          obtain ⟨ce541, hce541, hMe541, hcc541⟩ := Kd.S_get HO_3.out z27 x4_1 p541 (by first | exact q541 | exact zD | (have e_ := (Kd.S_reads' HO_3.out).1; omega))
          obtain ⟨ve541_1, ve541_2, rfl, ge541_1, ge541_2⟩ := k27_openM hMe541
          have hv541_1 := hcc541 1 _ rfl
          rw [add_field _ _ 1 (by omega)] at hv541_1
          replace hv541_1 := Option.some.inj (hv541_1.symm.trans hx541_1)
          rw [hv541_1] at ge541_1
          have HL541_1 := Aside0.mk (show Kd.R Kd.bool 4 _ _ _ _ ((rd_T27 t532 x4_1).f1) from ge541_1)
          clear hv541_1 ge541_1
          have hv541_2 := hcc541 2 _ rfl
          rw [add_field _ _ 2 (by omega)] at hv541_2
          replace hv541_2 := Option.some.inj (hv541_2.symm.trans hx541_2)
          rw [hv541_2] at ge541_2
          have HL541_2 := Aside0.mk (show Kd.R k46 46 _ _ _ _ ((rd_T27 t532 x4_1).f2) from ge541_2)
          clear hv541_2 ge541_2
          clear hcc541 hce541
          have HR541_1 := Aside0.mk hi541_1
          have HC541_1 := Aside0.mk hl541_1
          clear hi541_1 hl541_1
          have HR541_2 := Aside0.mk hi541_2
          have HC541_2 := Aside0.mk hl541_2
          clear hi541_2 hl541_2
          replace p541 := eq_true p541
          replace q541 := eq_true q541
          refine start_ (n := 10) (S := fun w' => w'.cell? (ad540.add ((x5_2).toNat * 3)) = some (.int .i64 ((rd_T27 t532 x5_2).f0)) ∧ w'.cell? ⟨(ad540.add ((x5_2).toNat * 3)).block, (ad540.add ((x5_2).toNat * 3)).off + 1, none⟩ = some (.slice A540_1 ((rd_T27 t532 x5_2).f1).length c540_1) ∧ w'.cell? ⟨(ad540.add ((x5_2).toNat * 3)).block, (ad540.add ((x5_2).toNat * 3)).off + 2, none⟩ = some (.slice A540_2 ((rd_T27 t532 x5_2).f2).length c540_2) ∧ w'.cell? (ad540.add ((x4_1).toNat * 3)) = some (.int .i64 ((rd_T27 t532 x4_1).f0)) ∧ w'.cell? ⟨(ad540.add ((x4_1).toNat * 3)).block, (ad540.add ((x4_1).toNat * 3)).off + 1, none⟩ = some (.slice A541_1 ((rd_T27 t532 x4_1).f1).length c541_1) ∧ w'.cell? ⟨(ad540.add ((x4_1).toNat * 3)).block, (ad540.add ((x4_1).toNat * 3)).off + 2, none⟩ = some (.slice A541_2 ((rd_T27 t532 x4_1).f2).length c541_2)) (ds := []) (bm 10 0) (by kernel_rfl) rfl (bm0 _) ⟨hx540_0, hx540_1, hx540_2, hx541_0, hx541_1, hx541_2⟩ (fun hHeld => ?_); refine with_tabW laws_FnChain.tab12 laws_FnChain.bits12 (fun HT_ HW_ => ?_)
          generalize wr.drew = w17 at HO_3 HB HL540_1 HL540_2 HL541_1 HL541_2 HR540_1 HR540_2 HR541_1 HR541_2 hx540_0 hx540_1 hx540_2 hx541_0 hx541_1 hx541_2 hHeld ⊢
          refine pU 0 (some 41) (bm 10 1) HT_ rfl rfl ?_
          refine pU 1 (some 42) (bm 10 3) HT_ rfl rfl ?_
          refine pU 2 (some 43) (bm 10 7) HT_ rfl rfl ?_
          refine pU 4 (some 45) (bm 10 23) HT_ rfl rfl ?_
          refine pU 5 (some 46) (bm 10 55) HT_ rfl rfl ?_
          refine pU 6 (some 47) (bm 10 119) HT_ rfl rfl ?_
          refine tU 3 (some 44) (bm 10 127) HT_ HW_ rfl rfl hHeld ?_
          refine tU 7 (some 48) (bm 10 255) HT_ HW_ rfl rfl hHeld ?_
          refine one_ (i := 8) (N := some 49) (bm 10 511) rfl rfl (one_of HT_.out (by kernel_rfl)) (by decide) (fun K hK => ?_)
          refine goes_ Try.func18 (by kernel_rfl) rfl #[.agg #[.int .i64 ((rd_T27 t532 x5_2).f0), .slice A540_1 ((rd_T27 t532 x5_2).f1).length c540_1, .slice A540_2 ((rd_T27 t532 x5_2).f2).length c540_2], .agg #[.int .i64 ((rd_T27 t532 x4_1).f0), .slice A541_1 ((rd_T27 t532 x4_1).f1).length c541_1, .slice A541_2 ((rd_T27 t532 x4_1).f2).length c541_2]] (by rfl) rfl rfl zG ?_
          with_reducible refine (impl_Follows.calls k2 ((rd_T27 t532 x5_2).f0) _ _ ((rd_T27 t532 x5_2).f1) _ _ ((rd_T27 t532 x5_2).f2) ((rd_T27 t532 x4_1).f0) _ _ ((rd_T27 t532 x4_1).f1) _ _ ((rd_T27 t532 x4_1).f2) true _ ?side1 ?side2 ?side3 ?side4 ?side5 ?side6 ?side7 ?side8 A15.out).mono ?_
          (case side1 => repeat (first | exact (by repeat (first | (with_reducible exact HR540_1.out) | (with_reducible refine Kd.C_alloc ?_ _) | (with_reducible refine Kd.C_drewN ?_ _) | (with_reducible refine Kd.C_drew ?_) | exact HR540_1.out)) | (with_reducible refine Kd.C_alloc ?_ _) | (with_reducible refine Kd.C_drewN ?_ _) | (with_reducible refine Kd.C_drew ?_)))
          (case side2 => exact HC540_1.out)
          (case side3 => repeat (first | exact (by repeat (first | (with_reducible exact HR540_2.out) | (with_reducible refine Kd.C_alloc ?_ _) | (with_reducible refine Kd.C_drewN ?_ _) | (with_reducible refine Kd.C_drew ?_) | exact HR540_2.out)) | (with_reducible refine Kd.C_alloc ?_ _) | (with_reducible refine Kd.C_drewN ?_ _) | (with_reducible refine Kd.C_drew ?_)))
          (case side4 => exact HC540_2.out)
          (case side5 => repeat (first | exact (by repeat (first | (with_reducible exact HR541_1.out) | (with_reducible refine Kd.C_alloc ?_ _) | (with_reducible refine Kd.C_drewN ?_ _) | (with_reducible refine Kd.C_drew ?_) | exact HR541_1.out)) | (with_reducible refine Kd.C_alloc ?_ _) | (with_reducible refine Kd.C_drewN ?_ _) | (with_reducible refine Kd.C_drew ?_)))
          (case side6 => exact HC541_1.out)
          (case side7 => repeat (first | exact (by repeat (first | (with_reducible exact HR541_2.out) | (with_reducible refine Kd.C_alloc ?_ _) | (with_reducible refine Kd.C_drewN ?_ _) | (with_reducible refine Kd.C_drew ?_) | exact HR541_2.out)) | (with_reducible refine Kd.C_alloc ?_ _) | (with_reducible refine Kd.C_drewN ?_ _) | (with_reducible refine Kd.C_drew ?_)))
          (case side8 => exact HC541_2.out)
          rintro e w18 ⟨rfl, hb⟩
          have HS0_ := (hb.cell (World.block_lt_of_cell? _ _ (hHeld.1))).trans (hHeld.1)
          have HS1_ := (hb.cell (World.block_lt_of_cell? _ _ (hHeld.2.1))).trans (hHeld.2.1)
          have HS2_ := (hb.cell (World.block_lt_of_cell? _ _ (hHeld.2.2.1))).trans (hHeld.2.2.1)
          have HS3_ := (hb.cell (World.block_lt_of_cell? _ _ (hHeld.2.2.2.1))).trans (hHeld.2.2.2.1)
          have HS4_ := (hb.cell (World.block_lt_of_cell? _ _ (hHeld.2.2.2.2.1))).trans (hHeld.2.2.2.2.1)
          have HS5_ := (hb.cell (World.block_lt_of_cell? _ _ (hHeld.2.2.2.2.2))).trans (hHeld.2.2.2.2.2)
          refine ⟨_, rfl, ?_⟩
          replace HO_3 := Aside0.mk (Kd.S_below (zS HO_3) hb)
          replace HL540_1 := Aside0.mk (Kd.R_below (zR HL540_1) hb)
          replace HL540_2 := Aside0.mk (Kd.R_below (zR HL540_2) hb)
          replace HL541_1 := Aside0.mk (Kd.R_below (zR HL541_1) hb)
          replace HL541_2 := Aside0.mk (Kd.R_below (zR HL541_2) hb)
          replace HR540_1 := Aside0.mk (Kd.C_below (by repeat (first | (with_reducible exact HR540_1.out) | (with_reducible refine Kd.C_alloc ?_ _) | (with_reducible refine Kd.C_drewN ?_ _) | (with_reducible refine Kd.C_drew ?_) | exact HR540_1.out)) hb)
          replace HR540_2 := Aside0.mk (Kd.C_below (by repeat (first | (with_reducible exact HR540_2.out) | (with_reducible refine Kd.C_alloc ?_ _) | (with_reducible refine Kd.C_drewN ?_ _) | (with_reducible refine Kd.C_drew ?_) | exact HR540_2.out)) hb)
          replace HR541_1 := Aside0.mk (Kd.C_below (by repeat (first | (with_reducible exact HR541_1.out) | (with_reducible refine Kd.C_alloc ?_ _) | (with_reducible refine Kd.C_drewN ?_ _) | (with_reducible refine Kd.C_drew ?_) | exact HR541_1.out)) hb)
          replace HR541_2 := Aside0.mk (Kd.C_below (by repeat (first | (with_reducible exact HR541_2.out) | (with_reducible refine Kd.C_alloc ?_ _) | (with_reducible refine Kd.C_drewN ?_ _) | (with_reducible refine Kd.C_drew ?_) | exact HR541_2.out)) hb)
          replace HB := bS HB hb
          (try clear hb); (try clear hb2); (try clear hk); (try clear hi)
          refine hK.out _ _ ⟨HS0_, HS1_, HS2_, HS3_, HS4_, HS5_⟩ (fun hHeld => ?_)
          clear hK K
          refine nU 49 ?_
          refine pU 9 (some 50) (bm 10 1023) HT_ rfl rfl ?_
          refine done_ (done_of HT_.out (by kernel_rfl)) ?_
          try clear hHeld
          try go_wp2
          go_roundg k2
          case measure => have := HK1.out; have := HK2.out; omega
          case rel => exact ⟨(wrap64 (x5_2 + 1)), zF, H', ⟨by have := HK1.out; have := HK2.out; omega⟩, ⟨zS HO_3⟩, ⟨zB HB⟩⟩
         ·replace c16 := Bool.eq_false_iff.mpr c16
          subst c16
          have H1 : (some false) = some r := by rw [if_neg (show ¬ (false = true) by decide)] at H; exact H
          clear H
          have H := H1
          clear H1
          exact absurd H (by simp [ht_])
        ·rw [if_neg c11] at H
         have c11b0 : decide (x5_2 < (t532.length : Int)) = false := decide_eq_false c11
         clear c11
         have H' := Aside0.mk H
         clear H
         go_wp2
         go_roundg k2
         case measure => have := HK1.out; have := HK2.out; omega
         case rel => exact ⟨(wrap64 (x4_1 + 1)), zF, H', ⟨by have := HK1.out; have := HK2.out; omega⟩, ⟨zS HO_3⟩, ⟨zB HB⟩⟩
     ·rw [if_neg c10] at H
      have c10b0 : decide (x4_1 < (t532.length : Int)) = false := decide_eq_false c10
      clear c10
      obtain rfl := Option.some.inj H
      go_wp2
      go_ret
      exact ⟨zE, zB HB⟩
  ·replace c6 := Bool.eq_false_iff.mpr c6
   subst c6
   have H1 : (if (t532.length : Int) = 1 then (if 0 < (t532.length : Int) then ((impl_IsMachine.f k ((rd_T27 t532 0).f0) ((rd_T27 t532 0).f1) ((rd_T27 t532 0).f2)).bind fun t537 => (if t537 = true then (some false) else ((spec_ChainFollows.f k t532).bind fun t538 => (some (!t538))))) else (none)) else ((spec_ChainFollows.f k t532).bind fun t539 => (some (!t539)))) = some r := by rw [if_neg (show ¬ (false = true) by decide)] at H; exact H
   clear H
   have H := H1
   clear H1
   by_cases c19 : (t532.length : Int) = 1
   ·rw [if_pos c19] at H
    have c19b0 : ((t532.length : Int) == 1) = true := beq_iff_eq.mpr c19
    have c19b1 : ((t532.length : Int) != 1) = false := bne_eq_false_iff_eq.mpr c19
    clear c19
    obtain ⟨c20, H⟩ := ifS H
    have c20b0 : decide (0 < (t532.length : Int)) = true := decide_eq_true c20
    have c20b1 : decide (0 < t532.length) = true := decide_eq_true (by omega)
    clear c20
    obtain ⟨t537, A21, H⟩ := bindS H
    by_cases c22 : t537 = true
    ·subst c22
     have H1 : (some false) = some r := by rw [if_pos rfl] at H; exact H
     clear H
     have H := H1
     clear H1
     exact absurd H (by simp [ht_])
    ·replace c22 := Bool.eq_false_iff.mpr c22
     subst c22
     have H1 : ((spec_ChainFollows.f k t532).bind fun t538 => (some (!t538))) = some r := by rw [if_neg (show ¬ (false = true) by decide)] at H; exact H
     clear H
     have H := H1
     clear H1
     obtain ⟨t538, A23, H⟩ := bindS H
     obtain rfl := Option.some.inj H
     go_enter Try.func4, Try.ntmps4
     go_wp2_with (first | ((with_reducible refine gate_callee (f := 5) rfl ?_); refine goesL_ (some 7) rfl rfl Try.func5 (by kernel_rfl) rfl #[.slice A0 l0.length c0] rfl zG ?_; (with_reducible refine (laws_big.calls _ _ l0 false _ ?side1 ?side2 A2.out).mono ?_); (case side1 => exact cT HR0); (case side2 => exact HC0.out); rintro e w' ⟨rfl, ⟨nd, rfl⟩⟩; refine ⟨_, rfl, ?_⟩) | ((with_reducible refine gate_callee (f := 15) rfl ?_); refine goesL_ (some 9) rfl rfl Try.func15 (by kernel_rfl) rfl #[.slice A0 l0.length c0] rfl zG ?_; (with_reducible refine (spec_DrawChainFollows.calls k _ _ l0 t532 _ ?side1 ?side2 A4.out).mono ?_); (case side1 => exact cT HR0); (case side2 => exact HC0.out); rintro e w24 ⟨v533, rfl, ho0, hb⟩; refine ⟨_, rfl, ?_⟩; have HO534 := Aside0.mk (Kd.S_lower ho0 (below_size (zB HB))); replace HB := bS HB hb; (try clear hb); (try clear ho0); obtain ⟨Ao25, co25, eo25⟩ := Kd.S_slice HO534.out; subst eo25) | ((with_reducible refine gate_callee (f := 16) rfl ?_); refine goesL_ (some 11) rfl rfl Try.func16 (by kernel_rfl) rfl #[.slice Ao25 t532.length co25] rfl zG ?_; (with_reducible refine (impl_ChainFollows.calls k _ _ t532 false _ ?side1 ?side2 A5.out).mono ?_); (case side1 => exact cU (Kd.S_reads' HO534.out).2.2); (case side2 => exact (Kd.S_reads' HO534.out).2.1); rintro e w26 ⟨rfl, hb⟩; refine ⟨_, rfl, ?_⟩; replace HO534 := Aside0.mk (Kd.S_below (zS HO534) hb); replace HB := bS HB hb; (try clear hb); have p536 : 0 ≤ (0 : Int) := (by omega); have q536 : 0 < (t532.length : Int) := zD; obtain ⟨ad536, A536_1, c536_1, A536_2, c536_2, e536, hx536_0, hx536_1, hx536_2, hl536_1, hi536_1, hl536_2, hi536_2⟩ := at_T27 (Kd.S_reads' HO534.out).2.2 0 p536 q536; cases e536; obtain ⟨ce536, hce536, hMe536, hcc536⟩ := Kd.S_get HO534.out z27 0 p536 (by first | exact q536 | exact zD | (have e_ := (Kd.S_reads' HO534.out).1; omega)); obtain ⟨ve536_1, ve536_2, rfl, ge536_1, ge536_2⟩ := k27_openM hMe536; have hv536_1 := hcc536 1 _ rfl; rw [add_field _ _ 1 (by omega)] at hv536_1; replace hv536_1 := Option.some.inj (hv536_1.symm.trans hx536_1); rw [hv536_1] at ge536_1; have HL536_1 := Aside0.mk (show Kd.R Kd.bool 4 _ _ _ _ ((rd_T27 t532 0).f1) from ge536_1); clear hv536_1 ge536_1; have hv536_2 := hcc536 2 _ rfl; rw [add_field _ _ 2 (by omega)] at hv536_2; replace hv536_2 := Option.some.inj (hv536_2.symm.trans hx536_2); rw [hv536_2] at ge536_2; have HL536_2 := Aside0.mk (show Kd.R k46 46 _ _ _ _ ((rd_T27 t532 0).f2) from ge536_2); clear hv536_2 ge536_2; clear hcc536 hce536; have qi536 : (0 < t532.length) = True := eq_true (by omega); (try rw [show ((0 : Int)).toNat = 0 from rfl] at hx536_0); (try rw [show 0 * 3 = 0 from rfl] at hx536_0); (try rw [Addr.add_zero'] at hx536_0); (try rw [show ((0 : Int)).toNat = 0 from rfl] at hx536_1); (try rw [show 0 * 3 = 0 from rfl] at hx536_1); (try rw [Addr.add_zero'] at hx536_1); (try rw [show ((0 : Int)).toNat = 0 from rfl] at hx536_2); (try rw [show 0 * 3 = 0 from rfl] at hx536_2); (try rw [Addr.add_zero'] at hx536_2); have HR536_1 := Aside0.mk hi536_1; have HC536_1 := Aside0.mk hl536_1; clear hi536_1 hl536_1; have HR536_2 := Aside0.mk hi536_2; have HC536_2 := Aside0.mk hl536_2; clear hi536_2 hl536_2; replace p536 := eq_true p536; replace q536 := eq_true q536) | (go_at_call 10; (with_reducible refine (impl_IsMachine.calls k ((rd_T27 t532 0).f0) _ _ ((rd_T27 t532 0).f1) _ _ ((rd_T27 t532 0).f2) false _ ?side1 ?side2 ?side3 ?side4 A21.out).mono ?_); (case side1 => repeat (first | exact (by repeat (first | (with_reducible exact HR536_1.out) | (with_reducible refine Kd.C_alloc ?_ _) | (with_reducible refine Kd.C_drewN ?_ _) | (with_reducible refine Kd.C_drew ?_) | exact HR536_1.out)) | (with_reducible refine Kd.C_alloc ?_ _) | (with_reducible refine Kd.C_drewN ?_ _) | (with_reducible refine Kd.C_drew ?_))); (case side2 => exact HC536_1.out); (case side3 => repeat (first | exact (by repeat (first | (with_reducible exact HR536_2.out) | (with_reducible refine Kd.C_alloc ?_ _) | (with_reducible refine Kd.C_drewN ?_ _) | (with_reducible refine Kd.C_drew ?_) | exact HR536_2.out)) | (with_reducible refine Kd.C_alloc ?_ _) | (with_reducible refine Kd.C_drewN ?_ _) | (with_reducible refine Kd.C_drew ?_))); (case side4 => exact HC536_2.out); rintro e w27 ⟨rfl, hb⟩; replace HO534 := Aside0.mk (Kd.S_below (zS HO534) hb); replace HL536_1 := Aside0.mk (Kd.R_below (zR HL536_1) hb); replace HL536_2 := Aside0.mk (Kd.R_below (zR HL536_2) hb); replace HR536_1 := Aside0.mk (Kd.C_below (by repeat (first | (with_reducible exact HR536_1.out) | (with_reducible refine Kd.C_alloc ?_ _) | (with_reducible refine Kd.C_drewN ?_ _) | (with_reducible refine Kd.C_drew ?_) | exact HR536_1.out)) hb); replace HR536_2 := Aside0.mk (Kd.C_below (by repeat (first | (with_reducible exact HR536_2.out) | (with_reducible refine Kd.C_alloc ?_ _) | (with_reducible refine Kd.C_drewN ?_ _) | (with_reducible refine Kd.C_drew ?_) | exact HR536_2.out)) hb); replace HB := bS HB hb; (try clear hb)) | (go_at_call 17; (with_reducible refine (spec_ChainFollows.calls k _ _ t532 t538 _ ?side1 ?side2 A23.out).mono ?_); (case side1 => exact cU (Kd.S_reads' HO534.out).2.2); (case side2 => exact (Kd.S_reads' HO534.out).2.1); rintro e w28 ⟨rfl, hb⟩; replace HO534 := Aside0.mk (Kd.S_below (zS HO534) hb); replace HL536_1 := Aside0.mk (Kd.R_below (zR HL536_1) hb); replace HL536_2 := Aside0.mk (Kd.R_below (zR HL536_2) hb); replace HR536_1 := Aside0.mk (Kd.C_below (by repeat (first | (with_reducible exact HR536_1.out) | (with_reducible refine Kd.C_alloc ?_ _) | (with_reducible refine Kd.C_drewN ?_ _) | (with_reducible refine Kd.C_drew ?_) | exact HR536_1.out)) hb); replace HR536_2 := Aside0.mk (Kd.C_below (by repeat (first | (with_reducible exact HR536_2.out) | (with_reducible refine Kd.C_alloc ?_ _) | (with_reducible refine Kd.C_drewN ?_ _) | (with_reducible refine Kd.C_drew ?_) | exact HR536_2.out)) hb); replace HB := bS HB hb; (try clear hb)))
     go_ret
     exact ⟨zE, zB HB⟩
   ·rw [if_neg c19] at H
    have c19b0 : ((t532.length : Int) == 1) = false := beq_eq_false_iff_ne.mpr c19
    have c19b1 : ((t532.length : Int) != 1) = true := bne_iff_ne.mpr c19
    obtain ⟨t539, A29, H⟩ := bindS H
    obtain rfl := Option.some.inj H
    go_enter Try.func4, Try.ntmps4
    go_wp2_with (first | ((with_reducible refine gate_callee (f := 5) rfl ?_); refine goesL_ (some 7) rfl rfl Try.func5 (by kernel_rfl) rfl #[.slice A0 l0.length c0] rfl zG ?_; (with_reducible refine (laws_big.calls _ _ l0 false _ ?side1 ?side2 A2.out).mono ?_); (case side1 => exact cT HR0); (case side2 => exact HC0.out); rintro e w' ⟨rfl, ⟨nd, rfl⟩⟩; refine ⟨_, rfl, ?_⟩) | ((with_reducible refine gate_callee (f := 15) rfl ?_); refine goesL_ (some 9) rfl rfl Try.func15 (by kernel_rfl) rfl #[.slice A0 l0.length c0] rfl zG ?_; (with_reducible refine (spec_DrawChainFollows.calls k _ _ l0 t532 _ ?side1 ?side2 A4.out).mono ?_); (case side1 => exact cT HR0); (case side2 => exact HC0.out); rintro e w30 ⟨v533, rfl, ho0, hb⟩; refine ⟨_, rfl, ?_⟩; have HO534 := Aside0.mk (Kd.S_lower ho0 (below_size (zB HB))); replace HB := bS HB hb; (try clear hb); (try clear ho0); obtain ⟨Ao31, co31, eo31⟩ := Kd.S_slice HO534.out; subst eo31) | ((with_reducible refine gate_callee (f := 16) rfl ?_); refine goesL_ (some 11) rfl rfl Try.func16 (by kernel_rfl) rfl #[.slice Ao31 t532.length co31] rfl zG ?_; (with_reducible refine (impl_ChainFollows.calls k _ _ t532 false _ ?side1 ?side2 A5.out).mono ?_); (case side1 => exact cU (Kd.S_reads' HO534.out).2.2); (case side2 => exact (Kd.S_reads' HO534.out).2.1); rintro e w32 ⟨rfl, hb⟩; refine ⟨_, rfl, ?_⟩; replace HO534 := Aside0.mk (Kd.S_below (zS HO534) hb); replace HB := bS HB hb; (try clear hb)) | (go_at_call 17; (with_reducible refine (spec_ChainFollows.calls k _ _ t532 t539 _ ?side1 ?side2 A29.out).mono ?_); (case side1 => exact cU (Kd.S_reads' HO534.out).2.2); (case side2 => exact (Kd.S_reads' HO534.out).2.1); rintro e w33 ⟨rfl, hb⟩; replace HO534 := Aside0.mk (Kd.S_below (zS HO534) hb); replace HB := bS HB hb; (try clear hb)))
    go_ret
    exact ⟨zE, zB HB⟩

/-- THE ONE PURE STATEMENT of laws_FnChain: yours. -/
def laws_FnChain.Pure : Prop := ∀ (l0 : List Int), l0.length ≤ maxLen → l0.length * 1 ≤ 140737488351232 → (∀ x ∈ l0, (Lit.int .u8 x).wf = true) → ∃ k, laws_FnChain.f k l0 = some true
theorem laws_FnChain.walk (P : laws_FnChain.Pure) (a0 : Option Addr) (len0 cap0 : Nat) (z0 : List Int) (w : World) (w0 : (a0 = none ∧ len0 = 0 ∧ cap0 = 0 ∧ z0 = []) ∨ ∃ x, a0 = some x ∧ len0 ≤ cap0 ∧ cap0 ≤ maxLen ∧ z0.length = cap0 ∧ (∀ i, i < z0.length → w.cell? (x.add i) = some (.int .u8 (z0.getD i 0))) ∧ ∀ n ∈ z0, (Lit.int .u8 n).wf = true) (y0 : len0 * 1 ≤ 140737488351232) :
  Calls Try.prog 4 #[.slice a0 len0 cap0] w fun e w' => e = .returned (.bool true) ∧ Below w.heap.size w w' := by
 obtain ⟨l0, rfl, hr0, hm0, hw0, hc0⟩ := ReadsInt.ofRowC w0
 obtain ⟨k, h⟩ := P l0 hm0 y0 hw0
 refine (laws_FnChain.calls k _ _ l0 true w (Kd.C_of_reads (d := (0 : Int)) (h1 := fun _ => rfl) hr0) hc0 rfl h).mono ?_
 rintro e w' ⟨rfl, hd⟩
 exact ⟨rfl, hd⟩

end Go.Proofs.Ytfibjclnaeocbaa.PFnChain
