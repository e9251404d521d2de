-- WRITTEN by pp.py, this session's own wrapper around the print; not trusted: Lean checks it
import Derived.Test.YtbahcefcoplmpaaPFnExactAddGreasex0
import Derived.Test.YtbahcefcoplmpaaPFnExactAddGreasex1
import Derived.Test.YtbahcefcoplmpaaPFnExactAddGreasex3
import Derived.Test.YtbahcefcoplmpaaPFnExactAddGreasex4
import Derived.Test.YtbahcefcoplmpaaPFnExactAddGreasex6
import Derived.Test.YtbahcefcoplmpaaPFnExactAddGreasex7
namespace Go.Proofs.Ytbahcefcoplmpaa.PFnExactAddGrease
open Go.RowKit Go.Proofs.Ytbahcefcoplmpaa.Hw Go.Proofs.YtbahcefcoplmpaaW.PrintWords Go.Proofs.YtbahcefcoplmpaaW.PrintLast Go.Proofs.YtbahcefcoplmpaaW.PrintMore
attribute [local go_sem] max2_int min2_int max_two min_two max_three min_three max_four min_four   -- for this text's walks alone
set_option linter.unusedVariables false
set_option linter.unusedSimpArgs false
set_option linter.unusedSectionVars false

/-! ### laws_FnExactAddGrease: function 3 -/
def laws_FnExactAddGrease.f (k : Nat) (l0 : List (S45)) (a1 : Int) : Option (Bool) := (laws_szExtS.f k l0 1048576).bind fun t283 => (if t283 < 0 then (some true) else ((laws_toExtS.f k l0).bind fun t284 => ((spec_AddGrease.f k t284 a1).bind fun t287 => ((laws_toExtS.f k l0).bind fun t290 => ((impl_AddGrease.f k t290 a1).bind fun t293 => ((laws_eqExtS.f k t293 t287).bind fun t296 => (if t296 = true then ((laws_toExtS.f k l0).bind fun t297 => ((laws_eqExtS.f k t290 t297).bind fun t300 => (if t300 = true then ((laws_markExtS.f k t290 1).bind fun bt301 => (if bt301.1 < 0 then (some false) else ((laws_eqExtS.f k t293 t287).bind fun t303 => (if t303 = true then ((laws_markExtS.f k t293 1).bind fun bt304 => ((laws_heldExtS.f k bt304.2 1).bind fun t306 => (if t306 < 0 then (some false) else (if t306 = bt304.1 then ((laws_toExtS.f k l0).bind fun t307 => ((impl_AddGrease.f k t307 a1).bind fun t310 => ((laws_eqExtS.f k t310 t287).bind fun t313 => (if t313 = true then ((laws_heldExtS.f k bt304.2 1).bind fun t314 => (if t314 < 0 then (some false) else (if t314 = bt304.1 then (some true) else (some false)))) else (some false))))) else (some false))))) else (some false))))) else (some false)))) else (some false))))))))
set_option maxHeartbeats 8000000 in
set_option maxRecDepth 100000 in
theorem laws_FnExactAddGrease.calls (k : Nat) (A0 : Option Addr) (c0 : Nat) (l0 : List (S45)) (a1 : Int) (r : Bool) (w : World) (hr0 : Kd.C k45 w A0 l0.length l0) (hc0 : l0.length ≤ c0) (ht_ : r = true) (h : laws_FnExactAddGrease.f k l0 a1 = some r) :
  Calls Try.prog 3 #[.slice A0 l0.length c0, .int .i64 a1] w fun e w' => e = .returned (.bool r) ∧ Below w.heap.size w w' := by
 subst ht_
 have HR0 := Aside0.mk hr0
 have HC0 := Aside0.mk hc0
 clear hr0 hc0
 have H : ((laws_szExtS.f k l0 1048576).bind fun t283 => (if t283 < 0 then (some true) else ((laws_toExtS.f k l0).bind fun t284 => ((spec_AddGrease.f k t284 a1).bind fun t287 => ((laws_toExtS.f k l0).bind fun t290 => ((impl_AddGrease.f k t290 a1).bind fun t293 => ((laws_eqExtS.f k t293 t287).bind fun t296 => (if t296 = true then ((laws_toExtS.f k l0).bind fun t297 => ((laws_eqExtS.f k t290 t297).bind fun t300 => (if t300 = true then ((laws_markExtS.f k t290 1).bind fun bt301 => (if bt301.1 < 0 then (some false) else ((laws_eqExtS.f k t293 t287).bind fun t303 => (if t303 = true then ((laws_markExtS.f k t293 1).bind fun bt304 => ((laws_heldExtS.f k bt304.2 1).bind fun t306 => (if t306 < 0 then (some false) else (if t306 = bt304.1 then ((laws_toExtS.f k l0).bind fun t307 => ((impl_AddGrease.f k t307 a1).bind fun t310 => ((laws_eqExtS.f k t310 t287).bind fun t313 => (if t313 = true then ((laws_heldExtS.f k bt304.2 1).bind fun t314 => (if t314 < 0 then (some false) else (if t314 = bt304.1 then (some true) else (some false)))) else (some false))))) else (some false))))) else (some false))))) else (some false)))) else (some false))))))))) = some true := h
 clear h
 obtain ⟨t283, A1, H⟩ := Option.bind_eq_some_iff.mp H
 have A1 := Aside0.mk A1
 by_cases c2 : t283 < 0
 ·rw [if_pos c2] at H
  have f3 : decide (t283 < 0) = true := decide_eq_true c2
  have Cc2 := Aside0.mk c2
  clear c2
  clear H
  go_enter Try.func3, Try.ntmps3
  go_wp2_with fail
  refine calls_of_args (args' := #[.slice A0 l0.length c0, .int .i64 1048576]) (by first | rfl | rfl) ?_
  refine (laws_szExtS.calls (k := k) (l0 := l0) (hr0 := Kd.C_below HR0.out (Below.refl w.heap.size w)) (hc0 := HC0.out) (a1 := 1048576) (r := t283) (w := w) (h := A1.out)).mono ?_
  rintro e w4 ⟨rfl, hb⟩
  have s5 := Aside0.mk hb.size
  have HB6 := Aside0.mk (below_trans (Below.refl w.heap.size w) hb)
  clear hb
  go_wp2
  go_ret
  exact ⟨rfl, HB6.out⟩
 ·rw [if_neg c2] at H
  have f7 : decide (t283 < 0) = false := decide_eq_false c2
  have Cc2 := Aside0.mk c2
  clear c2
  obtain ⟨t284, A8, H⟩ := Option.bind_eq_some_iff.mp H
  have A8 := Aside0.mk A8
  obtain ⟨t287, A9, H⟩ := Option.bind_eq_some_iff.mp H
  have A9 := Aside0.mk A9
  obtain ⟨t290, A10, H⟩ := Option.bind_eq_some_iff.mp H
  have A10 := Aside0.mk A10
  obtain ⟨t293, A11, H⟩ := Option.bind_eq_some_iff.mp H
  have A11 := Aside0.mk A11
  obtain ⟨t296, A12, H⟩ := Option.bind_eq_some_iff.mp H
  have A12 := Aside0.mk A12
  by_cases c13 : t296 = true
  ·rw [if_pos c13] at H
   obtain rfl : t296 = true := by simpa using c13
   clear c13
   obtain ⟨t297, A14, H⟩ := Option.bind_eq_some_iff.mp H
   have A14 := Aside0.mk A14
   obtain ⟨t300, A15, H⟩ := Option.bind_eq_some_iff.mp H
   have A15 := Aside0.mk A15
   obtain ⟨c16, H⟩ := ifS H
   obtain rfl : t300 = true := by simpa using c16
   clear c16
   obtain ⟨⟨t301, t302⟩, A17, H⟩ := Option.bind_eq_some_iff.mp H
   dsimp only at H A17
   have A17 := Aside0.mk A17
   obtain ⟨c18, H⟩ := ifN H
   have f19 : decide (t301 < 0) = false := decide_eq_false c18
   have Cc18 := Aside0.mk c18
   clear c18
   obtain ⟨t303, A20, H⟩ := Option.bind_eq_some_iff.mp H
   have A20 := Aside0.mk A20
   obtain ⟨c21, H⟩ := ifS H
   obtain rfl : t303 = true := by simpa using c21
   clear c21
   obtain ⟨⟨t304, t305⟩, A22, H⟩ := Option.bind_eq_some_iff.mp H
   dsimp only at H A22
   have A22 := Aside0.mk A22
   obtain ⟨t306, A23, H⟩ := Option.bind_eq_some_iff.mp H
   have A23 := Aside0.mk A23
   obtain ⟨c24, H⟩ := ifN H
   have f25 : decide (t306 < 0) = false := decide_eq_false c24
   have Cc24 := Aside0.mk c24
   clear c24
   obtain ⟨c26, H⟩ := ifS H
   have f27 : (t306 == t304) = true := beq_iff_eq.mpr c26
   have f28 : (t306 != t304) = false := bne_eq_false_iff_eq.mpr c26
   have Cc26 := Aside0.mk c26
   clear c26
   obtain ⟨t307, A29, H⟩ := Option.bind_eq_some_iff.mp H
   have A29 := Aside0.mk A29
   obtain ⟨t310, A30, H⟩ := Option.bind_eq_some_iff.mp H
   have A30 := Aside0.mk A30
   obtain ⟨t313, A31, H⟩ := Option.bind_eq_some_iff.mp H
   have A31 := Aside0.mk A31
   obtain ⟨c32, H⟩ := ifS H
   obtain rfl : t313 = true := by simpa using c32
   clear c32
   obtain ⟨t314, A33, H⟩ := Option.bind_eq_some_iff.mp H
   have A33 := Aside0.mk A33
   obtain ⟨c34, H⟩ := ifN H
   have f35 : decide (t314 < 0) = false := decide_eq_false c34
   have Cc34 := Aside0.mk c34
   clear c34
   obtain ⟨c36, H⟩ := ifS H
   have f37 : (t314 == t304) = true := beq_iff_eq.mpr c36
   have f38 : (t314 != t304) = false := bne_eq_false_iff_eq.mpr c36
   have Cc36 := Aside0.mk c36
   clear c36
   clear H
   go_enter Try.func3, Try.ntmps3
   go_wp2_with fail
   refine calls_of_args (args' := #[.slice A0 l0.length c0, .int .i64 1048576]) (by first | rfl | rfl) ?_
   refine (laws_szExtS.calls (k := k) (l0 := l0) (hr0 := Kd.C_below HR0.out (Below.refl w.heap.size w)) (hc0 := HC0.out) (a1 := 1048576) (r := t283) (w := w) (h := A1.out)).mono ?_
   rintro e w39 ⟨rfl, hb⟩
   have s40 := Aside0.mk hb.size
   have HB41 := Aside0.mk (below_trans (Below.refl w.heap.size w) hb)
   clear hb
   go_wp2_with fail
   refine calls_of_args (args' := #[.slice A0 l0.length c0]) (by first | rfl | rfl) ?_
   refine (laws_toExtS.calls (k := k) (l0 := l0) (hr0 := Kd.C_below HR0.out HB41.out) (hc0 := HC0.out) (r := t284) (w := w39) (h := A8.out)).mono ?_
   rintro e w42 ⟨v285, rfl, ho0, hb⟩
   have s43 := Aside0.mk hb.size
   have HO45 := Aside0.mk (Kd.S_lower (Kd.S_mono (ok' := fun k_ => (w39.heap.size ≤ k_ ∧ k_ < w42.heap.size)) (Kd.S_bound ho0) (fun k_ hk_ => by have h1_ := hk_.2.1; have h2_ := hk_.2.2.1; omega)) (by have := s40.out; have := s43.out; omega : w.heap.size ≤ w39.heap.size))
   clear ho0
   obtain ⟨Ao46, co47, eq_⟩ := Kd.S_slice HO45.out
   subst eq_
   have HB44 := Aside0.mk (below_trans HB41.out hb)
   clear hb
   go_wp2_with fail
   refine calls_of_args (args' := #[.slice Ao46 t284.length co47, .int .i64 a1]) (by first | rfl | rfl) ?_
   refine (spec_AddGrease.calls (k := k) (l0 := t284) (A0 := Ao46) (c0 := co47) (hr0 := (Kd.S_reads' HO45.out).2.2) (hc0 := by have h_ := Kd.S_reads' HO45.out; omega) (a1 := a1) (r := t287) (w := w42) (h := A9.out)).mono ?_
   rintro e w48 ⟨v288, rfl, ho0, hb⟩
   have s49 := Aside0.mk hb.size
   have HO51 := Aside0.mk (Kd.S_below HO45.out hb)
   clear HO45
   have HO52 := Aside0.mk (Kd.N_lower (Kd.N_mono (ok' := fun k_ => (w42.heap.size ≤ k_ ∧ k_ < w48.heap.size)) (Kd.N_bound ho0) (fun _ hk_ => hk_)) (by have := s40.out; have := s43.out; have := s49.out; omega : w.heap.size ≤ w42.heap.size))
   clear ho0
   obtain ⟨Ao53, co54, eq_⟩ := Kd.N_slice HO52.out
   subst eq_
   have HB50 := Aside0.mk (below_trans HB44.out hb)
   clear hb
   go_wp2_with fail
   refine calls_of_args (args' := #[.slice A0 l0.length c0]) (by first | rfl | rfl) ?_
   refine (laws_toExtS.calls (k := k) (l0 := l0) (hr0 := Kd.C_below HR0.out HB50.out) (hc0 := HC0.out) (r := t290) (w := w48) (h := A10.out)).mono ?_
   rintro e w55 ⟨v291, rfl, ho0, hb⟩
   have s56 := Aside0.mk hb.size
   have HO58 := Aside0.mk (Kd.S_below HO51.out hb)
   clear HO51
   have HO59 := Aside0.mk (Kd.N_below HO52.out hb)
   clear HO52
   have HO60 := Aside0.mk (Kd.S_lower (Kd.S_mono (ok' := fun k_ => (w48.heap.size ≤ k_ ∧ k_ < w55.heap.size)) (Kd.S_bound ho0) (fun k_ hk_ => by have h1_ := hk_.2.1; have h2_ := hk_.2.2.1; omega)) (by have := s40.out; have := s43.out; have := s49.out; have := s56.out; omega : w.heap.size ≤ w48.heap.size))
   clear ho0
   obtain ⟨Ao61, co62, eq_⟩ := Kd.S_slice HO60.out
   subst eq_
   have HB57 := Aside0.mk (below_trans HB50.out hb)
   clear hb
   go_wp2_with fail
   refine calls_of_args (args' := #[.slice Ao61 t290.length co62, .int .i64 a1]) (by first | rfl | rfl) ?_
   refine (impl_AddGrease.calls (k := k) (l0 := t290) (A0 := Ao61) (c0 := co62) (hr0 := (Kd.S_reads' HO60.out).2.2) (hc0 := by have h_ := Kd.S_reads' HO60.out; omega) (a1 := a1) (r := t293) (w := w55) (h := A11.out)).mono ?_
   rintro e w63 ⟨v294, rfl, ho0, hb⟩
   have s64 := Aside0.mk hb.size
   have HO66 := Aside0.mk (Kd.S_below HO58.out hb)
   clear HO58
   have HO67 := Aside0.mk (Kd.N_below HO59.out hb)
   clear HO59
   have HO68 := Aside0.mk (Kd.S_below HO60.out hb)
   clear HO60
   have HO69 := Aside0.mk (Kd.S_lower (Kd.S_mono (ok' := fun k_ => (w55.heap.size ≤ k_ ∧ k_ < w63.heap.size)) (Kd.S_bound ho0) (fun k_ hk_ => by have h1_ := hk_.2.1; have h2_ := hk_.2.2.1; omega)) (by have := s40.out; have := s43.out; have := s49.out; have := s56.out; have := s64.out; omega : w.heap.size ≤ w55.heap.size))
   clear ho0
   obtain ⟨Ao70, co71, eq_⟩ := Kd.S_slice HO69.out
   subst eq_
   have HB65 := Aside0.mk (below_trans HB57.out hb)
   clear hb
   go_wp2_with fail
   refine calls_of_args (args' := #[.slice Ao70 t293.length co71, .slice Ao53 t287.length co54]) (by first | rfl | rfl) ?_
   refine (laws_eqExtS.calls (k := k) (l0 := t293) (A0 := Ao70) (c0 := co71) (hr0 := (Kd.S_reads' HO69.out).2.2) (hc0 := by have h_ := Kd.S_reads' HO69.out; omega) (l1 := t287) (A1 := Ao53) (c1 := co54) (hr1 := (Kd.N_reads' HO67.out).2.2) (hc1 := by have h_ := Kd.N_reads' HO67.out; omega) (r := true) (w := w63) (h := A12.out)).mono ?_
   rintro e w72 ⟨rfl, hb⟩
   have s73 := Aside0.mk hb.size
   have HO75 := Aside0.mk (Kd.S_below HO66.out hb)
   clear HO66
   have HO76 := Aside0.mk (Kd.N_below HO67.out hb)
   clear HO67
   have HO77 := Aside0.mk (Kd.S_below HO68.out hb)
   clear HO68
   have HO78 := Aside0.mk (Kd.S_below HO69.out hb)
   clear HO69
   have HB74 := Aside0.mk (below_trans HB65.out hb)
   clear hb
   go_wp2_with fail
   refine calls_of_args (args' := #[.slice A0 l0.length c0]) (by first | rfl | rfl) ?_
   refine (laws_toExtS.calls (k := k) (l0 := l0) (hr0 := Kd.C_below HR0.out HB74.out) (hc0 := HC0.out) (r := t297) (w := w72) (h := A14.out)).mono ?_
   rintro e w79 ⟨v298, rfl, ho0, hb⟩
   have s80 := Aside0.mk hb.size
   have HO82 := Aside0.mk (Kd.S_below HO75.out hb)
   clear HO75
   have HO83 := Aside0.mk (Kd.N_below HO76.out hb)
   clear HO76
   have HO84 := Aside0.mk (Kd.S_below HO77.out hb)
   clear HO77
   have HO85 := Aside0.mk (Kd.S_below HO78.out hb)
   clear HO78
   have HO86 := Aside0.mk (Kd.S_lower (Kd.S_mono (ok' := fun k_ => (w72.heap.size ≤ k_ ∧ k_ < w79.heap.size)) (Kd.S_bound ho0) (fun k_ hk_ => by have h1_ := hk_.2.1; have h2_ := hk_.2.2.1; omega)) (by have := s40.out; have := s43.out; have := s49.out; have := s56.out; have := s64.out; have := s73.out; have := s80.out; omega : w.heap.size ≤ w72.heap.size))
   clear ho0
   obtain ⟨Ao87, co88, eq_⟩ := Kd.S_slice HO86.out
   subst eq_
   have HB81 := Aside0.mk (below_trans HB74.out hb)
   clear hb
   go_wp2_with fail
   refine calls_of_args (args' := #[.slice Ao61 t290.length co62, .slice Ao87 t297.length co88]) (by first | rfl | rfl) ?_
   refine (laws_eqExtS.calls (k := k) (l0 := t290) (A0 := Ao61) (c0 := co62) (hr0 := (Kd.S_reads' HO84.out).2.2) (hc0 := by have h_ := Kd.S_reads' HO84.out; omega) (l1 := t297) (A1 := Ao87) (c1 := co88) (hr1 := (Kd.S_reads' HO86.out).2.2) (hc1 := by have h_ := Kd.S_reads' HO86.out; omega) (r := true) (w := w79) (h := A15.out)).mono ?_
   rintro e w89 ⟨rfl, hb⟩
   have s90 := Aside0.mk hb.size
   have HO92 := Aside0.mk (Kd.S_below HO82.out hb)
   clear HO82
   have HO93 := Aside0.mk (Kd.N_below HO83.out hb)
   clear HO83
   have HO94 := Aside0.mk (Kd.S_below HO84.out hb)
   clear HO84
   have HO95 := Aside0.mk (Kd.S_below HO85.out hb)
   clear HO85
   have HO96 := Aside0.mk (Kd.S_below HO86.out hb)
   clear HO86
   have HB91 := Aside0.mk (below_trans HB81.out hb)
   clear hb
   go_wp2_with fail
   refine calls_of_args (args' := #[.slice Ao61 t290.length co62, .int .i64 1]) (by first | rfl | rfl) ?_
   refine (laws_markExtS.calls (k := k) (l0 := t290) (P0_ := fun k_ => (w48.heap.size ≤ k_ ∧ k_ < w55.heap.size)) (u9000_ := .slice Ao61 t290.length co62) (ho0 := HO94.out) (a1 := 1) (r1 := t301) (r2 := t302) (w := w89) (w0 := w) (hB := HB91.out) (h := A17.out)).mono ?_
   rintro e w97 ⟨rfl, hy0, hb, hkp⟩
   have s98 := Aside0.mk hkp.1
   have HB99 := Aside0.mk hb
   have HO100 := Aside0.mk (Kd.S_kept HO92.out hkp (fun k_ hk_ hs_ => by have := s40.out; have := s43.out; have := s49.out; have := s56.out; have := s64.out; have := s73.out; have := s80.out; have := s90.out; have := s98.out; omega))
   clear HO92
   have HO101 := Aside0.mk (Kd.N_kept HO93.out hkp (fun k_ hk_ hs_ => by have := s40.out; have := s43.out; have := s49.out; have := s56.out; have := s64.out; have := s73.out; have := s80.out; have := s90.out; have := s98.out; omega))
   clear HO93
   have HO102 := Aside0.mk (Kd.S_kept HO95.out hkp (fun k_ hk_ hs_ => by have := s40.out; have := s43.out; have := s49.out; have := s56.out; have := s64.out; have := s73.out; have := s80.out; have := s90.out; have := s98.out; omega))
   clear HO95
   have HO103 := Aside0.mk (Kd.S_kept HO96.out hkp (fun k_ hk_ hs_ => by have := s40.out; have := s43.out; have := s49.out; have := s56.out; have := s64.out; have := s73.out; have := s80.out; have := s90.out; have := s98.out; omega))
   clear HO96
   have HO104 := Aside0.mk (Kd.S_mono (ok' := fun k_ => (w48.heap.size ≤ k_ ∧ k_ < w55.heap.size) ∨ (w89.heap.size ≤ k_ ∧ k_ < w97.heap.size)) (Kd.S_bound hy0) (fun k_ hk_ => by have h1_ := hk_.1; have h2_ := hk_.2.2.1; have := s40.out; have := s43.out; have := s49.out; have := s56.out; have := s64.out; have := s73.out; have := s80.out; have := s90.out; have := s98.out; omega))
   clear HO94
   clear hb hkp hy0
   go_wp2_with fail
   refine calls_of_args (args' := #[.slice Ao70 t293.length co71, .slice Ao53 t287.length co54]) (by first | rfl | (rw [← (Kd.S_reads' HO104.out).1])) ?_
   refine (laws_eqExtS.calls (k := k) (l0 := t293) (A0 := Ao70) (c0 := co71) (hr0 := (Kd.S_reads' HO102.out).2.2) (hc0 := by have h_ := Kd.S_reads' HO102.out; omega) (l1 := t287) (A1 := Ao53) (c1 := co54) (hr1 := (Kd.N_reads' HO101.out).2.2) (hc1 := by have h_ := Kd.N_reads' HO101.out; omega) (r := true) (w := w97) (h := A20.out)).mono ?_
   rintro e w105 ⟨rfl, hb⟩
   have s106 := Aside0.mk hb.size
   have HO108 := Aside0.mk (Kd.S_below HO100.out hb)
   clear HO100
   have HO109 := Aside0.mk (Kd.N_below HO101.out hb)
   clear HO101
   have HO110 := Aside0.mk (Kd.S_below HO104.out hb)
   clear HO104
   have HO111 := Aside0.mk (Kd.S_below HO102.out hb)
   clear HO102
   have HO112 := Aside0.mk (Kd.S_below HO103.out hb)
   clear HO103
   have HB107 := Aside0.mk (below_trans HB99.out hb)
   clear hb
   go_wp2_with fail
   refine calls_of_args (args' := #[.slice Ao70 t293.length co71, .int .i64 1]) (by first | rfl | (rw [← (Kd.S_reads' HO110.out).1])) ?_
   refine (laws_markExtS.calls (k := k) (l0 := t293) (P0_ := fun k_ => (w55.heap.size ≤ k_ ∧ k_ < w63.heap.size)) (u9000_ := .slice Ao70 t293.length co71) (ho0 := HO111.out) (a1 := 1) (r1 := t304) (r2 := t305) (w := w105) (w0 := w) (hB := HB107.out) (h := A22.out)).mono ?_
   rintro e w113 ⟨rfl, hy0, hb, hkp⟩
   have s114 := Aside0.mk hkp.1
   have HB115 := Aside0.mk hb
   have HO116 := Aside0.mk (Kd.S_kept HO108.out hkp (fun k_ hk_ hs_ => by have := s40.out; have := s43.out; have := s49.out; have := s56.out; have := s64.out; have := s73.out; have := s80.out; have := s90.out; have := s98.out; have := s106.out; have := s114.out; omega))
   clear HO108
   have HO117 := Aside0.mk (Kd.N_kept HO109.out hkp (fun k_ hk_ hs_ => by have := s40.out; have := s43.out; have := s49.out; have := s56.out; have := s64.out; have := s73.out; have := s80.out; have := s90.out; have := s98.out; have := s106.out; have := s114.out; omega))
   clear HO109
   have HO118 := Aside0.mk (Kd.S_kept HO110.out hkp (fun k_ hk_ hs_ => by have := s40.out; have := s43.out; have := s49.out; have := s56.out; have := s64.out; have := s73.out; have := s80.out; have := s90.out; have := s98.out; have := s106.out; have := s114.out; omega))
   clear HO110
   have HO119 := Aside0.mk (Kd.S_kept HO112.out hkp (fun k_ hk_ hs_ => by have := s40.out; have := s43.out; have := s49.out; have := s56.out; have := s64.out; have := s73.out; have := s80.out; have := s90.out; have := s98.out; have := s106.out; have := s114.out; omega))
   clear HO112
   have HO120 := Aside0.mk (Kd.S_mono (ok' := fun k_ => (w55.heap.size ≤ k_ ∧ k_ < w63.heap.size) ∨ (w105.heap.size ≤ k_ ∧ k_ < w113.heap.size)) (Kd.S_bound hy0) (fun k_ hk_ => by have h1_ := hk_.1; have h2_ := hk_.2.2.1; have := s40.out; have := s43.out; have := s49.out; have := s56.out; have := s64.out; have := s73.out; have := s80.out; have := s90.out; have := s98.out; have := s106.out; have := s114.out; omega))
   clear HO111
   clear hb hkp hy0
   go_wp2_with fail
   refine calls_of_args (args' := #[.slice Ao70 t305.length co71, .int .i64 1]) (by first | rfl | (rw [← (Kd.S_reads' HO118.out).1]) | (rw [← (Kd.S_reads' HO120.out).1])) ?_
   refine (laws_heldExtS.calls (k := k) (l0 := t305) (A0 := Ao70) (c0 := co71) (hr0 := (Kd.S_reads' HO120.out).2.2) (hc0 := by have h_ := Kd.S_reads' HO120.out; omega) (a1 := 1) (r := t306) (w := w113) (h := A23.out)).mono ?_
   rintro e w121 ⟨rfl, hd_⟩
   have hb := hd_.below
   clear hd_
   have s122 := Aside0.mk hb.size
   have HO124 := Aside0.mk (Kd.S_below HO116.out hb)
   clear HO116
   have HO125 := Aside0.mk (Kd.N_below HO117.out hb)
   clear HO117
   have HO126 := Aside0.mk (Kd.S_below HO118.out hb)
   clear HO118
   have HO127 := Aside0.mk (Kd.S_below HO120.out hb)
   clear HO120
   have HO128 := Aside0.mk (Kd.S_below HO119.out hb)
   clear HO119
   have HB123 := Aside0.mk (below_trans HB115.out hb)
   clear hb
   go_wp2_with fail
   refine calls_of_args (args' := #[.slice A0 l0.length c0]) (by first | rfl | (rw [← (Kd.S_reads' HO126.out).1]) | (rw [← (Kd.S_reads' HO127.out).1])) ?_
   refine (laws_toExtS.calls (k := k) (l0 := l0) (hr0 := Kd.C_below HR0.out HB123.out) (hc0 := HC0.out) (r := t307) (w := w121) (h := A29.out)).mono ?_
   rintro e w129 ⟨v308, rfl, ho0, hb⟩
   have s130 := Aside0.mk hb.size
   have HO132 := Aside0.mk (Kd.S_below HO124.out hb)
   clear HO124
   have HO133 := Aside0.mk (Kd.N_below HO125.out hb)
   clear HO125
   have HO134 := Aside0.mk (Kd.S_below HO126.out hb)
   clear HO126
   have HO135 := Aside0.mk (Kd.S_below HO127.out hb)
   clear HO127
   have HO136 := Aside0.mk (Kd.S_below HO128.out hb)
   clear HO128
   have HO137 := Aside0.mk (Kd.S_lower (Kd.S_mono (ok' := fun k_ => (w121.heap.size ≤ k_ ∧ k_ < w129.heap.size)) (Kd.S_bound ho0) (fun k_ hk_ => by have h1_ := hk_.2.1; have h2_ := hk_.2.2.1; omega)) (by have := s40.out; have := s43.out; have := s49.out; have := s56.out; have := s64.out; have := s73.out; have := s80.out; have := s90.out; have := s98.out; have := s106.out; have := s114.out; have := s122.out; have := s130.out; omega : w.heap.size ≤ w121.heap.size))
   clear ho0
   obtain ⟨Ao138, co139, eq_⟩ := Kd.S_slice HO137.out
   subst eq_
   have HB131 := Aside0.mk (below_trans HB123.out hb)
   clear hb
   go_wp2_with fail
   refine calls_of_args (args' := #[.slice Ao138 t307.length co139, .int .i64 a1]) (by first | rfl | (rw [← (Kd.S_reads' HO134.out).1]) | (rw [← (Kd.S_reads' HO135.out).1])) ?_
   refine (impl_AddGrease.calls (k := k) (l0 := t307) (A0 := Ao138) (c0 := co139) (hr0 := (Kd.S_reads' HO137.out).2.2) (hc0 := by have h_ := Kd.S_reads' HO137.out; omega) (a1 := a1) (r := t310) (w := w129) (h := A30.out)).mono ?_
   rintro e w140 ⟨v311, rfl, ho0, hb⟩
   have s141 := Aside0.mk hb.size
   have HO143 := Aside0.mk (Kd.S_below HO132.out hb)
   clear HO132
   have HO144 := Aside0.mk (Kd.N_below HO133.out hb)
   clear HO133
   have HO145 := Aside0.mk (Kd.S_below HO134.out hb)
   clear HO134
   have HO146 := Aside0.mk (Kd.S_below HO135.out hb)
   clear HO135
   have HO147 := Aside0.mk (Kd.S_below HO136.out hb)
   clear HO136
   have HO148 := Aside0.mk (Kd.S_below HO137.out hb)
   clear HO137
   have HO149 := Aside0.mk (Kd.S_lower (Kd.S_mono (ok' := fun k_ => (w129.heap.size ≤ k_ ∧ k_ < w140.heap.size)) (Kd.S_bound ho0) (fun k_ hk_ => by have h1_ := hk_.2.1; have h2_ := hk_.2.2.1; omega)) (by have := s40.out; have := s43.out; have := s49.out; have := s56.out; have := s64.out; have := s73.out; have := s80.out; have := s90.out; have := s98.out; have := s106.out; have := s114.out; have := s122.out; have := s130.out; have := s141.out; omega : w.heap.size ≤ w129.heap.size))
   clear ho0
   obtain ⟨Ao150, co151, eq_⟩ := Kd.S_slice HO149.out
   subst eq_
   have HB142 := Aside0.mk (below_trans HB131.out hb)
   clear hb
   go_wp2_with fail
   refine calls_of_args (args' := #[.slice Ao150 t310.length co151, .slice Ao53 t287.length co54]) (by first | rfl | (rw [← (Kd.S_reads' HO145.out).1]) | (rw [← (Kd.S_reads' HO146.out).1])) ?_
   refine (laws_eqExtS.calls (k := k) (l0 := t310) (A0 := Ao150) (c0 := co151) (hr0 := (Kd.S_reads' HO149.out).2.2) (hc0 := by have h_ := Kd.S_reads' HO149.out; omega) (l1 := t287) (A1 := Ao53) (c1 := co54) (hr1 := (Kd.N_reads' HO144.out).2.2) (hc1 := by have h_ := Kd.N_reads' HO144.out; omega) (r := true) (w := w140) (h := A31.out)).mono ?_
   rintro e w152 ⟨rfl, hb⟩
   have s153 := Aside0.mk hb.size
   have HO155 := Aside0.mk (Kd.S_below HO143.out hb)
   clear HO143
   have HO156 := Aside0.mk (Kd.N_below HO144.out hb)
   clear HO144
   have HO157 := Aside0.mk (Kd.S_below HO145.out hb)
   clear HO145
   have HO158 := Aside0.mk (Kd.S_below HO146.out hb)
   clear HO146
   have HO159 := Aside0.mk (Kd.S_below HO147.out hb)
   clear HO147
   have HO160 := Aside0.mk (Kd.S_below HO148.out hb)
   clear HO148
   have HO161 := Aside0.mk (Kd.S_below HO149.out hb)
   clear HO149
   have HB154 := Aside0.mk (below_trans HB142.out hb)
   clear hb
   go_wp2_with fail
   refine calls_of_args (args' := #[.slice Ao70 t305.length co71, .int .i64 1]) (by first | rfl | (rw [← (Kd.S_reads' HO157.out).1]) | (rw [← (Kd.S_reads' HO158.out).1])) ?_
   refine (laws_heldExtS.calls (k := k) (l0 := t305) (A0 := Ao70) (c0 := co71) (hr0 := (Kd.S_reads' HO158.out).2.2) (hc0 := by have h_ := Kd.S_reads' HO158.out; omega) (a1 := 1) (r := t314) (w := w152) (h := A33.out)).mono ?_
   rintro e w162 ⟨rfl, hd_⟩
   have hb := hd_.below
   clear hd_
   have s163 := Aside0.mk hb.size
   have HO165 := Aside0.mk (Kd.S_below HO155.out hb)
   clear HO155
   have HO166 := Aside0.mk (Kd.N_below HO156.out hb)
   clear HO156
   have HO167 := Aside0.mk (Kd.S_below HO157.out hb)
   clear HO157
   have HO168 := Aside0.mk (Kd.S_below HO158.out hb)
   clear HO158
   have HO169 := Aside0.mk (Kd.S_below HO159.out hb)
   clear HO159
   have HO170 := Aside0.mk (Kd.S_below HO160.out hb)
   clear HO160
   have HO171 := Aside0.mk (Kd.S_below HO161.out hb)
   clear HO161
   have HB164 := Aside0.mk (below_trans HB154.out hb)
   clear hb
   go_wp2
   go_ret
   exact ⟨rfl, HB164.out⟩
  ·rw [if_neg c13] at H
   exact absurd H (by simp)

/-- What is known of a value of type 45 that came in. -/
def W45 (x : S45) : Prop := (Lit.int .i64 x.f0).wf = true ∧ (x.f1.length ≤ 9223372036854775807 ∧ ∀ y ∈ x.f1, (Lit.int .i64 y).wf = true)

/-- The pure statement of laws_FnExactAddGrease. -/
def laws_FnExactAddGrease.Pure : Prop := ∀ (l0 : List (S45)) (a1 : Int), l0.length ≤ 9223372036854775807 → (∀ x ∈ l0, W45 x) → (Lit.int .i64 a1).wf = true → ∃ k, laws_FnExactAddGrease.f k l0 a1 = some true

end Go.Proofs.Ytbahcefcoplmpaa.PFnExactAddGrease
