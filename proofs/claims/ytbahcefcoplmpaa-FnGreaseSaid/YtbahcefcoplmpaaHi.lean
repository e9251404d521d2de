import Derived.Test.YtbahcefcoplmpaaProg
import Derived.Below
import Derived.Deep.Draws
import Derived.Deep.AppendLies
import Derived.Maps.AppendAt
import Derived.OwnWalk
import Derived.Laws.BytesArg
import Derived.Laws.MakeOwn
import Derived.Laws.OwnMore
import Derived.Deep.OwnRows
import Derived.Tactics
import Derived.Lib.ConvBytes
import Derived.Laws.Slices
import Derived.WalkKit
import Derived.KernelRfl
import Derived.RowKit3
import Derived.Deep.LoopGhost
import Derived.Deep.QuietTactic
import Derived.BigQuiet
import Derived.WideLaws
import Derived.Deep.DeepCutAuto
import Derived.Deep.CutBlock
import Derived.Deep.RegionHeld3
import Derived.Laws.Rows
import Derived.Lib.AppendStr
import Derived.ArgAppend
import Derived.Laws.IdiomCopy
import Derived.OrdersHeld
import Derived.Laws.BitsLemmas
import Derived.RowKit
import Derived.Lib.AppendZerosOnto
import Derived.Lib.Overlaps
import Derived.Shelf.RegionOpenPlain
import Derived.Lib.SliceRun
import Derived.Lib.JoinLaws
import Derived.Laws.Externs
import Derived.Laws.CopyRow
import Derived.Laws.NewBlocks
import Derived.Maps.AppendAt
set_option linter.unusedVariables false
set_option linter.unusedSimpArgs false
set_option linter.unnecessarySimpa false
namespace Go.Proofs.Ytbahcefcoplmpaa.Hi
open Go.RowKit Go.Lib

theorem run_copy_rowN {P : Program} (size : Nat) (w : World) (dT sT ty elem : TypeId) (g o dLen dCap : Nat) (a : Addr) (sLen sCap : Nat) (cur : Array Value) (t : TypeId) (cs : List Value)
    (hu : P.underlying dT = some (.slice elem)) (hs : (P.info? elem).map (·.size) = some size)
    (hg : w.heap[g]? = some (.cells cur t (0, 0))) (m : Nat) (hm : Nat.min sLen dLen = m) (hn : cs.length = m * size)
    (hsrc : ∀ j v, cs[j]? = some v → w.cell? (a.add j) = some v) (hfit : o + cs.length ≤ cur.size) (h1 : ∀ v ∈ cs, v.oneCell' = true) :
    (Builtin.copy_ #[dT, sT] ty #[.slice (some ⟨g, o, none⟩) dLen dCap, .slice (some a) sLen sCap]).run P w =
      .ok (goInt m) (w.setRow g (cur.toList.take o ++ cs ++ cur.toList.drop (o + cs.length)).toArray) := by
  have hl := run_loadCells_list (P := P) w a cs hsrc
  have hst := run_storeCells_at P g o t cs 0 cur w hg (by simpa using hfit) h1
  cases hq : P.info? elem with
  | none => simp [hq] at hs
  | some i =>
    have hi : i.size = size := by simpa [hq] using hs
    simp [Builtin.copy_, run_underlying hu, Builtin.lenOf, Builtin.firstCells, sizeOf, typeInfo, hq, hi, hm, ← hn, hl, hst]

section
variable {P : Program}
theorem wp_copy_runI (w : World) {o : Oper} {a : Act} {K : Act → World → Prop} {Q : Exit → Act → World → Prop} (d s : Operand) (t t' : TypeId)
    (ho : o.op = .call { callee := .builtin .copy, args := #[d, s], argTypes := #[t, t'] }) (v u : Value) (hd : a.eval d = v) (hs : a.eval s = u) {v' : Value} {w' : World}
    (hr : (Builtin.copy_ #[t, t'] o.type #[v, u]).run P w = .ok v' w') (h : K (a.put o.dst v') w') : o.wp P a w K Q := by
  unfold Oper.wp execOp
  simp only [ho, resolve, invoke, builtin, Sem.run_bind, Sem.run_pure, Result.andThen_ok, List.map_toArray, List.map_cons, List.map_nil, hd, hs, hr]
  exact h
theorem wpList_copy_runI (w : World) {ops : Array Oper} {rest : List Oper} {o : Oper} {a : Act} {Q : Exit → Act → World → Prop} (hgd : o.guard = none) (d s : Operand) (t t' : TypeId)
    (ho : o.op = .call { callee := .builtin .copy, args := #[d, s], argTypes := #[t, t'] }) (v u : Value) (hd : a.eval d = v) (hs : a.eval s = u) {v' : Value} {w' : World}
    (hr : (Builtin.copy_ #[t, t'] o.type #[v, u]).run P w = .ok v' w') (h : wpList P ops Q rest (a.put o.dst v') w') : wpList P ops Q (o :: rest) a w :=
  wpList_plain hgd fun _ hK => wp_copy_runI w d s t t' ho v u hd hs hr (hK _ _ h)
theorem step_copy_runI {ops : Array Oper} {o : Oper} {a : Act} {w : World} {K : Act → World → Prop} {Q : Exit → Act → World → Prop} {E : Prop}
    (hg : o.guard = none) (d x : Operand) (dT sT : TypeId) (hop : o.op = Op.call { callee := Callee.builtin Builtin.copy, args := #[d, x], argTypes := #[dT, sT] })
    (v u : Value) (hd : a.eval d = v) (hx : a.eval x = u) {v' : Value} {w' : World} (hr : (Builtin.copy_ #[dT, sT] o.type #[v, u]).run P w = .ok v' w') (hK : K (a.put o.dst v') w') :
    if Region.wanted o (yielded ops a.tmps) = true then Oper.wp P o a w K Q else E := by
  have hw : Region.wanted o (yielded ops a.tmps) = true := by simp [Region.wanted, hg]
  rw [if_pos hw]
  unfold Oper.wp
  simp [execOp, hop, resolve, invoke, builtin, hd, hx, hr, Result.andThen]
  exact hK
end

theorem cell_at {w : World} {g : Nat} {cur : Array Value} {t : TypeId} {fr : Nat × Nat} (hg : w.heap[g]? = some (.cells cur t fr)) (o j : Nat) : w.cell? ((⟨g, o, none⟩ : Addr).add j) = cur[o + j]? := by
  rw [show (⟨g, o, none⟩ : Addr).add j = ⟨g, o + j, none⟩ by unfold Addr.add; split <;> simp_all]
  simp [World.cell?, hg]

theorem shift_list (l cs xc : List Value) (n i cap : Nat) (hl : l.length = cap * 2) (hx : xc.length = 2) (hcl : cs.length = (n - i) * 2) (hi : i < n) (hroom : n + 1 ≤ cap) :
    ((((l.take ((i + 1) * 2) ++ cs ++ l.drop ((i + 1) * 2 + cs.length)).toArray.toList.take (i * 2) ++ xc ++ (l.take ((i + 1) * 2) ++ cs ++ l.drop ((i + 1) * 2 + cs.length)).toArray.toList.drop (i * 2 + xc.length)).toArray).toList).take ((n + 1) * 2) =
      (l.take (n * 2)).take (i * 2) ++ xc ++ cs := by
  simp only [List.toList_toArray, hx, List.append_assoc]
  rw [List.take_append_of_le_length (l₁ := l.take ((i + 1) * 2)) (by rw [List.length_take]; omega), List.take_take, List.take_take, Nat.min_eq_left (by omega : i * 2 ≤ (i + 1) * 2), Nat.min_eq_left (by omega : i * 2 ≤ n * 2)]
  rw [List.drop_left' (l₁ := l.take ((i + 1) * 2)) (by rw [List.length_take]; omega)]
  rw [← List.append_assoc, ← List.append_assoc]
  rw [← List.append_assoc]
  exact List.take_left' (by simp only [List.length_append, List.length_take, hx, hcl]; omega)

set_option maxHeartbeats 4000000 in
set_option maxRecDepth 100000 in
/-- There is room, i < n. -/
theorem shift (g n cap i vb : Nat) (cur : Array Value) (xc : List Value) (w : World) (hg : w.heap[g]? = some (.cells cur 46 (0, 0))) (hvb : w.heap[vb]? = some (.cells xc.toArray 46 (0, 0)))
    (hx : xc.length = 2) (h1x : ∀ u ∈ xc, u.oneCell' = true) (hcs : cur.size = cap * 2) (hcm : cap ≤ maxLen) (hne : vb ≠ g) (h1c : ∀ u ∈ cur.toList.take (n * 2), u.oneCell' = true) (hi : i < n) (hroom : n + 1 ≤ cap) :
    Calls Try.prog 35 #[.slice (some ⟨g, 0, none⟩) n cap, .int .i64 i, .slice (some ⟨vb, 0, none⟩) 1 1] w fun e w' =>
      e = .returned (.slice (some ⟨g, 0, none⟩) (n + 1) cap) ∧ ∃ cur2, w' = w.drew.setRow g cur2 ∧ cur2.size = cap * 2 ∧
        cur2.toList.take ((n + 1) * 2) = (cur.toList.take (n * 2)).take (i * 2) ++ xc ++ (cur.toList.take (n * 2)).drop (i * 2) := by
  have hsz : (Try.prog.info? 46).map (·.size) = some 2 := by kernel_rfl
  have hu : Try.prog.underlying 24 = some (.slice 46) := by kernel_rfl
  have hc63 : cap ≤ 9223372036854775807 := hcm
  have hov : ∀ lb cb, (callFunc 67 #[.slice (some ⟨vb, 0, none⟩) 1 1, .slice (some ⟨g, (i + 1) * 2, none⟩) lb cb]).run Try.prog w = .ok (.value (.bool false)) w := fun lb cb => by
    rw [run_callFunc_extern Try.func67 (by kernel_rfl) (by kernel_rfl) (by kernel_rfl) (e := Extern.SlicesOverlaps.overlaps #[24, 24] #[4]) (by kernel_rfl),
      Lib.run_overlaps_apart w 24 4 46 hu 2 (fun _ => rfl) ⟨vb, 0, none⟩ ⟨g, (i + 1) * 2, none⟩ 1 1 lb cb hne 46 46 2 cur.size (by simp [World.shape?, hvb, hx]) (by simp [World.shape?, hg]) (by omega) (by simp [World.frozen?, hvb]) (by simp [World.frozen?, hvb])]
    rfl
  have hw1 : IntKind.i64.wrap ((i : Int) + 1) = (i : Int) + 1 := by rw [IntKind.wrap_i64]; omega
  have hwn : IntKind.i64.wrap ((n : Int) + 1) = (n : Int) + 1 := by rw [IntKind.wrap_i64]; omega
  have hz2 : ¬ ((i : Int) = (n : Int)) := by omega
  have hb1 : (0 : Int) ≤ (i : Int) + 1 := by omega
  have hin : i ≤ n := by omega
  have htn : ((i : Int) + 1).toNat = i + 1 := by omega
  have hb2 : ¬ (cap = i + 1) := by omega
  have hb3 : (i : Int) ≤ (n : Int) + 1 := by omega
  have hb4 : ¬ (cap = i) := by omega
  have mixed : Try.prog.follows .mixedOrders = true := by kernel_rfl
  have hc1 : (cur.toList.take (n * 2)).drop (i * 2) = (cur.toList.drop (i * 2)).take ((n - i) * 2) := by
    rw [List.drop_take]; congr 1; omega
  obtain ⟨cs, hcsd⟩ : ∃ cs, cs = (cur.toList.take (n * 2)).drop (i * 2) := ⟨_, rfl⟩
  have hcl : cs.length = (n - i) * 2 := by
    rw [hcsd, List.length_drop, List.length_take, Array.length_toList]
    omega
  obtain ⟨C1, hC1⟩ : ∃ C1, C1 = (cur.toList.take ((i + 1) * 2) ++ cs ++ cur.toList.drop ((i + 1) * 2 + cs.length)).toArray := ⟨_, rfl⟩
  have hC1s : C1.size = cap * 2 := by
    rw [hC1]; simp only [List.size_toArray, List.length_append, List.length_take, List.length_drop, Array.length_toList]; omega
  have hcp1 : ∀ ty dc sc, (Builtin.copy_ #[24, 24] ty #[.slice (some ⟨g, (i + 1) * 2, none⟩) (n - i) dc, .slice (some ⟨g, i * 2, none⟩) (n + 1 - i) sc]).run Try.prog w.drew = .ok (goInt ((n - i : Nat) : Int)) (w.drew.setRow g C1) := fun ty dc sc => by
    rw [hC1]
    exact run_copy_rowN 2 w.drew 24 24 ty 46 g ((i + 1) * 2) (n - i) dc ⟨g, i * 2, none⟩ (n + 1 - i) sc cur 46 cs hu hsz hg (n - i) (by simp only [Nat.min_def]; split <;> omega) hcl
      (fun j v hj => by
        rw [cell_at (w := w.drew) hg]
        rw [hcsd, List.getElem?_drop, List.getElem?_take] at hj
        split at hj
        · simpa using hj
        · cases hj) (by rw [hcl]; omega) (fun v hv => h1c v (by rw [hcsd] at hv; exact List.mem_of_mem_drop hv))
  obtain ⟨C2, hC2⟩ : ∃ C2, C2 = (C1.toList.take (i * 2) ++ xc ++ C1.toList.drop (i * 2 + xc.length)).toArray := ⟨_, rfl⟩
  have hg1 : (w.drew.setRow g C1).heap[g]? = some (.cells C1 46 (0, 0)) := setRow_heap w.drew g cur C1 46 _ hg
  have hcp2 : ∀ (W : World), (∀ k : Nat, W.heap[k]? = (w.drew.setRow g C1).heap[k]?) → ∀ ty dc, (Builtin.copy_ #[24, 24] ty #[.slice (some ⟨g, i * 2, none⟩) (n + 1 - i) dc, .slice (some ⟨vb, 0, none⟩) 1 1]).run Try.prog W = .ok (goInt 1) (W.setRow g C2) := fun W hW ty dc => by
    rw [hC2]
    exact run_copy_rowN 2 W 24 24 ty 46 g (i * 2) (n + 1 - i) dc ⟨vb, 0, none⟩ 1 1 C1 46 xc hu hsz ((hW g).trans hg1) 1 (by simp only [Nat.min_def]; split <;> omega) (by omega)
      (fun j v hj => by
        rw [cell_at ((hW vb).trans ((setRow_other w.drew g vb C1 hne).trans hvb))]
        simpa using hj) (by rw [hx, hC1s]; omega) h1x
  have hC2s : C2.size = cap * 2 := by
    rw [hC2]; simp only [List.size_toArray, List.length_append, List.length_take, List.length_drop, Array.length_toList, hC1s, hx]; omega
  have hfin : C2.toList.take ((n + 1) * 2) = (cur.toList.take (n * 2)).take (i * 2) ++ xc ++ (cur.toList.take (n * 2)).drop (i * 2) := by
    rw [hC2, hC1, ← hcsd]
    exact shift_list cur.toList cs xc n i cap (by rw [Array.length_toList, hcs]) hx hcl hi hroom
  have HF : Aside (C2.size = cap * 2 ∧ C2.toList.take ((n + 1) * 2) = (cur.toList.take (n * 2)).take (i * 2) ++ xc ++ (cur.toList.take (n * 2)).drop (i * 2)) := And.intro hC2s hfin
  clear hfin hC2s hC2 hg1 hC1s hC1 hcl hcsd hc1
  go_enter Try.func35, Try.ntmps35
  go_wp2_with (simp only [hov])
  go_region_law_o (refine step_copy_runI rfl _ _ 24 24 rfl _ _ (by simp [Act.eval, Act.put]) (by simp [Act.eval, Act.put]) (hcp1 _ _ _) ?_)
  go_wp2_with (at_builtin; refine wpList_copy_runI _ rfl _ _ 24 24 rfl _ _ rfl rfl (hcp2 _ (fun _ => rfl) _ _) ?_)
  go_ret
  exact ⟨rfl, C2, setRow_setRow _ _ _ _, HF.1, HF.2⟩

set_option maxHeartbeats 4000000 in
set_option maxRecDepth 100000 in
/-- At the end. -/
theorem atEnd (base n vb : Nat) (v : Value) (inner xc : List Value) (w : World) (ho : w.ownsRow base 46 2 v n inner) (hbase : base ≤ w.heap.size) (hvb : w.heap[vb]? = some (.cells xc.toArray 46 (0, 0)))
    (hx : xc.length = 2) (h1x : ∀ u ∈ xc, u.oneCell' = true) (hn : n < 4398046511103) :
    Calls Try.prog 35 #[v, .int .i64 n, .slice (some ⟨vb, 0, none⟩) 1 1] w fun e w' =>
      ∃ v', e = .returned v' ∧ w'.ownsRow base 46 2 v' (n + 1) (inner ++ xc) ∧ w.grownBy w' v.ownBlock ∧ (v'.ownBlock = v.ownBlock ∨ v'.ownBlock = some w.heap.size) := by
  have hu : Try.prog.underlying 24 = some (.slice 46) := by kernel_rfl
  have hinf : (Try.prog.info? 46).map (fun i => (i.zero, i.size, i.bytes)) = some (some (.agg #[(.int .i64 0), (.slice none 0 0)]), 2, 32) := by kernel_rfl
  obtain ⟨i0, hi0, hq⟩ := Option.map_eq_some_iff.1 hinf
  injection hq with hz hq
  injection hq with hsz hby
  obtain ⟨v', w', hr, hown, hgr, _, hat⟩ : ∃ v' w', (∀ ty, (Builtin.append_ #[24, 24] ty #[v, .slice (some ⟨vb, 0, none⟩) 1 1]).run Try.prog w = .ok v' w') ∧ w'.ownsRow base 46 2 v' (n + 1) (inner ++ xc) ∧ w.grownBy w' v.ownBlock ∧
      (v' = .slice none 0 0 ↔ v = .slice none 0 0 ∧ 1 = 0) ∧ (v'.ownBlock = v.ownBlock ∨ v'.ownBlock = some w.heap.size) := by
    obtain ⟨v', w', hr, h⟩ := run_append_own_at (P := Try.prog) w base 24 24 46 i0 _ 2 32 hu hi0 hz hsz hby rfl (by omega) v n inner ho ⟨vb, 0, none⟩ 1 1 xc (by omega)
      (fun j u hj => by rw [cell_at hvb]; simpa using hj) h1x (by unfold maxLen; omega) (by omega) hbase
    exact ⟨v', w', fun ty => hr, h⟩
  have HF : Aside (w'.ownsRow base 46 2 v' (n + 1) (inner ++ xc) ∧ w.grownBy w' v.ownBlock ∧ (v'.ownBlock = v.ownBlock ∨ v'.ownBlock = some w.heap.size)) := ⟨hown, hgr, hat⟩
  clear hown hgr hat hi0 hz hsz hby hinf
  have hv : (v = .slice none 0 0 ∧ n = 0) ∨ ∃ g cap, v = .slice (some ⟨g, 0, none⟩) n cap ∧ n ≤ cap := by
    rcases ho.2 with h | ⟨g, cap, cur, h, _, _, hc, _⟩
    · exact .inl h
    · exact .inr ⟨g, cap, h, hc⟩
  clear ho
  rcases hv with ⟨rfl, rfl⟩ | ⟨g, cap, rfl, hc⟩
  · go_enter Try.func35, Try.ntmps35
    go_wp2_with (at_builtin; refine Lib.wpList_append_run _ rfl _ _ _ _ rfl _ _ rfl rfl _ _ (hr _) ?_)
    all_goals (go_ret; exact ⟨_, rfl, HF.1, HF.2⟩)
  · go_enter Try.func35, Try.ntmps35
    go_wp2_with (at_builtin; refine Lib.wpList_append_run _ rfl _ _ _ _ rfl _ _ rfl rfl _ _ (hr _) ?_)
    all_goals (go_ret; exact ⟨_, rfl, HF.1, HF.2⟩)

theorem grow_list (l z cs xc : List Value) (n i : Nat) (hl : l.length = i * 2) (hz : (n + 1) * 2 ≤ i * 2 + z.length) (hx : xc.length = 2) (hcl : cs.length = (n - i) * 2) (hi : i < n) :
    (((((l ++ z).take (i * 2) ++ xc ++ (l ++ z).drop (i * 2 + xc.length)).toArray.toList.take ((i + 1) * 2) ++ cs ++ ((l ++ z).take (i * 2) ++ xc ++ (l ++ z).drop (i * 2 + xc.length)).toArray.toList.drop ((i + 1) * 2 + cs.length)).toArray).toList).take ((n + 1) * 2) =
      l ++ xc ++ cs := by
  simp only [List.toList_toArray, hx]
  rw [List.take_left' (l₁ := l) hl, List.take_left' (l₁ := l ++ xc) (by rw [List.length_append, hl, hx]; omega)]
  exact List.take_left' (l₁ := l ++ xc ++ cs) (by simp only [List.length_append, hl, hx, hcl]; omega)

set_option maxHeartbeats 4000000 in
set_option maxRecDepth 100000 in
/-- i < n and no room. -/
theorem grow (g n cap i vb : Nat) (cur : Array Value) (xc : List Value) (w : World) (hg : w.heap[g]? = some (.cells cur 46 (0, 0))) (hvb : w.heap[vb]? = some (.cells xc.toArray 46 (0, 0)))
    (hx : xc.length = 2) (h1x : ∀ u ∈ xc, u.oneCell' = true) (hcs : cur.size = cap * 2) (hnc : n ≤ cap) (h1c : ∀ u ∈ cur.toList.take (n * 2), u.oneCell' = true) (hi : i < n) (hroom : cap < n + 1) (hn : n < 4398046511103) :
    Calls Try.prog 35 #[.slice (some ⟨g, 0, none⟩) n cap, .int .i64 i, .slice (some ⟨vb, 0, none⟩) 1 1] w fun e w' =>
      ∃ G D, e = .returned (.slice (some ⟨w.heap.size, 0, none⟩) (n + 1) G) ∧ n + 1 ≤ G ∧ G ≤ maxLen ∧ w'.heap[w.heap.size]? = some (.cells D 46 (0, 0)) ∧ D.size = G * 2 ∧
        D.toList.take ((n + 1) * 2) = (cur.toList.take (n * 2)).take (i * 2) ++ xc ++ (cur.toList.take (n * 2)).drop (i * 2) ∧ w.grownBy w' none := by
  have hsz : (Try.prog.info? 46).map (·.size) = some 2 := by kernel_rfl
  have hu : Try.prog.underlying 24 = some (.slice 46) := by kernel_rfl
  have hu3 : Try.prog.underlying 3 = some (.int .i64) := by kernel_rfl
  have hinf : (Try.prog.info? 46).map (fun i => (i.zero, i.size, i.bytes)) = some (some (.agg #[(.int .i64 0), (.slice none 0 0)]), 2, 32) := by kernel_rfl
  obtain ⟨i0, hi0, hq⟩ := Option.map_eq_some_iff.1 hinf
  injection hq with hz hq
  injection hq with hzs hby
  have hlt : g < w.heap.size := (Array.getElem?_eq_some_iff.1 hg).1
  have hltv : vb < w.heap.size := (Array.getElem?_eq_some_iff.1 hvb).1
  obtain ⟨inner, hin_⟩ : ∃ inner, inner = cur.toList.take (n * 2) := ⟨_, rfl⟩
  rw [← hin_] at h1c ⊢
  have hil : inner.length = n * 2 := by rw [hin_, List.length_take, Array.length_toList]; omega
  have hat : ∀ j v, inner[j]? = some v → cur[j]? = some v := fun j v hj => by
    rw [hin_, List.getElem?_take] at hj
    split at hj
    · simpa using hj
    · cases hj
  have hold : (Builtin.firstCells i0.size i (.slice (some ⟨g, 0, none⟩) i cap)).run Try.prog w.drew = .ok (inner.take (i * 2)).toArray w.drew := by
    rw [hzs]
    exact run_firstCells_some w.drew 2 i ⟨g, 0, none⟩ i cap (inner.take (i * 2)) (by rw [List.length_take]; omega) (fun j v hj => by
      rw [cell_at (w := w.drew) hg, Nat.zero_add]
      rw [List.getElem?_take] at hj
      split at hj
      · exact hat j v hj
      · cases hj)
  have hik : i + (n + 1 - i) = n + 1 := by omega
  have hkk : (n : Int) + 1 - (i : Int) = ((n + 1 - i : Nat) : Int) := by omega
  have hrz : ∀ ty, (Builtin.append_ #[24, 3] ty #[.slice (some ⟨g, 0, none⟩) i cap, .int .i64 ((n : Int) + 1 - (i : Int))]).run Try.prog w =
      .ok (.slice (some ⟨w.heap.size, 0, none⟩) (n + 1) (grownCap w (n + 1) cap 46)) (w.drew.alloc (.cells ((inner.take (i * 2)).toArray ++ Builtin.zeroCells (Value.agg #[(.int .i64 0), (.slice none 0 0)]).cells (n + 1 - i) ++ Builtin.zeroCells (Value.agg #[(.int .i64 0), (.slice none 0 0)]).cells (grownCap w (n + 1) cap 46 - (n + 1))) 46)) := fun ty => by
    have h := Lib.run_append_grow_zeros w 24 3 ty 46 i0 _ .i64 .i64 hu hu3 hi0 hz (some ⟨g, 0, none⟩) i cap (inner.take (i * 2)) hold (n + 1 - i) (by omega) (by omega) (by omega) (by omega) (by rw [hby]; omega) (by rw [hby, hik]; exact growslice_fits hroom (by omega))
    rw [hik] at h
    rw [hkk]
    exact h
  obtain ⟨G, hG⟩ : ∃ G, G = grownCap w (n + 1) cap 46 := ⟨_, rfl⟩
  rw [← hG] at hrz
  have hGn : n + 1 ≤ G := by rw [hG]; exact grownCap_ge w _ _ _
  have hG63 : G ≤ maxLen := by rw [hG]; exact grownCap_le_maxLen w (n + 1) cap 46 (by unfold maxLen; omega)
  have hzl : ∀ k, (Builtin.zeroCells (Value.agg #[(.int .i64 0), (.slice none 0 0)]).cells k).size = k * 2 := fun k => by rw [size_zeroCells]; rfl
  obtain ⟨Z, hZ⟩ : ∃ Z : Array Value, Z = Builtin.zeroCells (Value.agg #[(.int .i64 0), (.slice none 0 0)]).cells (n + 1 - i) ++ Builtin.zeroCells (Value.agg #[(.int .i64 0), (.slice none 0 0)]).cells (G - (n + 1)) := ⟨_, rfl⟩
  have hZl : Z.size = (G - i) * 2 := by rw [hZ, Array.size_append, hzl, hzl]; omega
  rw [Array.append_assoc, ← hZ] at hrz
  obtain ⟨l, hl⟩ : ∃ l, l = inner.take (i * 2) := ⟨_, rfl⟩
  have hll : l.length = i * 2 := by rw [hl, List.length_take]; omega
  rw [← hl] at hrz ⊢
  obtain ⟨ROW, hROW⟩ : ∃ ROW : Array Value, ROW = l.toArray ++ Z := ⟨_, rfl⟩
  have hRs : ROW.size = G * 2 := by rw [hROW, Array.size_append, List.size_toArray, hll, hZl]; omega
  rw [← hROW] at hrz
  obtain ⟨N, hN⟩ : ∃ N, N = w.heap.size := ⟨_, rfl⟩
  rw [← hN] at hrz ⊢
  obtain ⟨cs, hcsd⟩ : ∃ cs, cs = inner.drop (i * 2) := ⟨_, rfl⟩
  rw [← hcsd]
  have hcl : cs.length = (n - i) * 2 := by rw [hcsd, List.length_drop]; omega
  obtain ⟨C1, hC1⟩ : ∃ C1, C1 = (ROW.toList.take (i * 2) ++ xc ++ ROW.toList.drop (i * 2 + xc.length)).toArray := ⟨_, rfl⟩
  have hC1s : C1.size = G * 2 := by
    rw [hC1]; simp only [List.size_toArray, List.length_append, List.length_take, List.length_drop, Array.length_toList]; omega
  obtain ⟨C2, hC2⟩ : ∃ C2, C2 = (C1.toList.take ((i + 1) * 2) ++ cs ++ C1.toList.drop ((i + 1) * 2 + cs.length)).toArray := ⟨_, rfl⟩
  have hC2s : C2.size = G * 2 := by
    rw [hC2]; simp only [List.size_toArray, List.length_append, List.length_take, List.length_drop, Array.length_toList]; omega
  have hfin : C2.toList.take ((n + 1) * 2) = l ++ xc ++ cs := by
    rw [hC2, hC1, hROW]
    simp only [Array.toList_append]
    exact grow_list l Z.toList cs xc n i hll (by rw [Array.length_toList, hZl]; omega) hx hcl hi
  have hW1 : (w.drew.alloc (.cells ROW 46)).heap[N]? = some (.cells ROW 46 (0, 0)) := by rw [hN]; exact heap_alloc_new w.drew _
  have hWo : ∀ k, k < w.heap.size → (w.drew.alloc (.cells ROW 46)).heap[k]? = w.heap[k]? := fun k hk => heap_alloc_old w.drew _ hk
  have hcp1 : ∀ (W : World), (∀ k : Nat, W.heap[k]? = (w.drew.alloc (.cells ROW 46)).heap[k]?) → ∀ ty dc, (Builtin.copy_ #[24, 24] ty #[.slice (some ⟨N, i * 2, none⟩) (n + 1 - i) dc, .slice (some ⟨vb, 0, none⟩) 1 1]).run Try.prog W = .ok (goInt 1) (W.setRow N C1) := fun W hW ty dc => by
    rw [hC1]
    exact run_copy_rowN 2 W 24 24 ty 46 N (i * 2) (n + 1 - i) dc ⟨vb, 0, none⟩ 1 1 ROW 46 xc hu hsz ((hW N).trans hW1) 1 (by simp only [Nat.min_def]; split <;> omega) (by omega)
      (fun j v hj => by
        rw [cell_at ((hW vb).trans ((hWo vb hltv).trans hvb))]
        simpa using hj) (by rw [hx, hRs]; omega) h1x
  have hcp2 : ∀ (W : World), (∀ k : Nat, W.heap[k]? = ((w.drew.alloc (.cells ROW 46)).setRow N C1).heap[k]?) → ∀ ty dc sc, (Builtin.copy_ #[24, 24] ty #[.slice (some ⟨N, (i + 1) * 2, none⟩) (n - i) dc, .slice (some ⟨g, i * 2, none⟩) (n - i) sc]).run Try.prog W = .ok (goInt ((n - i : Nat) : Int)) (W.setRow N C2) := fun W hW ty dc sc => by
    rw [hC2]
    exact run_copy_rowN 2 W 24 24 ty 46 N ((i + 1) * 2) (n - i) dc ⟨g, i * 2, none⟩ (n - i) sc C1 46 cs hu hsz ((hW N).trans (setRow_heap _ N ROW C1 46 _ hW1)) (n - i) (by simp only [Nat.min_def]; split <;> omega) hcl
      (fun j v hj => by
        rw [cell_at ((hW g).trans ((setRow_other _ N g C1 (by omega)).trans ((hWo g hlt).trans hg)))]
        rw [hcsd, List.getElem?_drop] at hj
        exact hat _ v hj) (by rw [hcl, hC1s]; omega) (fun v hv => h1c v (by rw [hcsd] at hv; exact List.mem_of_mem_drop hv))
  have HN : Aside (N = w.heap.size) := hN
  have hNg : g ≠ N := by omega
  have hE1 : ∀ k : Nat, ((w.alloc (.cells ROW 46)).drew).heap[k]? = (w.drew.alloc (.cells ROW 46)).heap[k]? := fun k => rfl
  have hF1 : ∀ k : Nat, (((w.alloc (.cells ROW 46)).drew.setRow N C1).drew).heap[k]? = ((w.drew.alloc (.cells ROW 46)).setRow N C1).heap[k]? := fun k => rfl
  have HF : Aside (n + 1 ≤ G ∧ G ≤ maxLen ∧ C2.size = G * 2 ∧ C2.toList.take ((n + 1) * 2) = l ++ xc ++ cs) := ⟨hGn, hG63, hC2s, hfin⟩
  have hG63' : G ≤ 9223372036854775807 := hG63
  have hGi : ¬ (G = i) := by omega
  have hGi1 : ¬ (G = i + 1) := by omega
  have hci : ¬ (cap = i) := by omega
  have hz2 : ¬ ((i : Int) = (n : Int)) := by omega
  have hz3 : (cap : Int) < (n : Int) + 1 := by omega
  have hw1 : IntKind.i64.wrap ((i : Int) + 1) = (i : Int) + 1 := by rw [IntKind.wrap_i64]; omega
  have hwn : IntKind.i64.wrap ((n : Int) + 1) = (n : Int) + 1 := by rw [IntKind.wrap_i64]; omega
  have hws : IntKind.i64.wrap ((n : Int) + 1 - (i : Int)) = (n : Int) + 1 - (i : Int) := by rw [IntKind.wrap_i64]; omega
  have hb1 : (0 : Int) ≤ (i : Int) + 1 := by omega
  have hin : i ≤ n := by omega
  have htn : ((i : Int) + 1).toNat = i + 1 := by omega
  have hb3 : (i : Int) ≤ (n : Int) + 1 := by omega
  have mixed : Try.prog.follows .mixedOrders = true := by kernel_rfl
  clear hN hfin hC2s hC2 hC1s hC1 hcl hcsd hRs hROW hZl hZ hzl hll hl hik hkk hold hat hin_ hil hG hi0 hz hzs hby hinf h1c hcs
  go_enter Try.func35, Try.ntmps35
  go_wp2_with (first
    | (at_builtin; refine Lib.wpList_append_run _ rfl _ _ _ _ rfl _ _ rfl rfl _ _ (hrz _) ?_)
    | (at_builtin; refine wpList_copy_runI _ rfl _ _ 24 24 rfl _ _ rfl rfl (hcp1 _ hE1 _ _) ?_))
  go_region_law_o (refine step_copy_runI rfl _ _ 24 24 rfl (.slice (some ⟨N, (i + 1) * 2, none⟩) (n - i) (G - (i + 1))) (.slice (some ⟨g, i * 2, none⟩) (n - i) (cap - i)) (by simp [Act.eval, Act.put]) (by simp [Act.eval, Act.put]) (hcp2 _ hF1 3 (G - (i + 1)) (cap - i)) ?_)
  go_wp2
  go_ret
  refine ⟨G, C2, rfl, HF.1, HF.2.1, ?_, HF.2.2.1, HF.2.2.2, ?_⟩
  · exact setRow_heap _ N C1 C2 46 _ (setRow_heap _ N ROW C1 46 _ hW1)
  · refine ⟨rfl, rfl, rfl, ?_, fun k hk _ => ?_⟩
    · rw [setRow_size]
      show w.heap.size ≤ (World.setRow _ N C1).heap.size
      rw [setRow_size]
      show w.heap.size ≤ (w.heap.push _).size
      simp
    · have hkN : k ≠ N := by have := HN; unfold Aside at this; omega
      rw [setRow_other _ N k C2 hkN]
      show (World.setRow _ N C1).heap[k]? = _
      rw [setRow_other _ N k C1 hkN]
      exact hWo k hk

/-- All roads. -/
theorem ins (base n i vb : Nat) (v : Value) (inner xc : List Value) (w : World) (ho : w.ownsRow base 46 2 v n inner) (hbase : base ≤ w.heap.size) (hvb : w.heap[vb]? = some (.cells xc.toArray 46 (0, 0)))
    (hx : xc.length = 2) (h1x : ∀ u ∈ xc, u.oneCell' = true) (h1c : ∀ u ∈ inner, u.oneCell' = true) (hn : n < 4398046511103) (hi : i ≤ n) (hne : v.ownBlock ≠ some vb) :
    Calls Try.prog 35 #[v, .int .i64 i, .slice (some ⟨vb, 0, none⟩) 1 1] w fun e w' =>
      ∃ v', e = .returned v' ∧ w'.ownsRow base 46 2 v' (n + 1) (inner.take (i * 2) ++ xc ++ inner.drop (i * 2)) ∧ w.grownBy w' v.ownBlock ∧ (v'.ownBlock = v.ownBlock ∨ v'.ownBlock = some w.heap.size) := by
  rcases Nat.lt_or_ge i n with hlt | hge
  · rcases ho.2 with ⟨_, h0⟩ | ⟨g, cap, cur, rfl, hbg, hg, hnc, hcm, hcs, htake⟩
    · omega
    · have hne' : vb ≠ g := fun h => hne (by simp [Value.ownBlock, h])
      have hgw : g < w.heap.size := (Array.getElem?_eq_some_iff.1 hg).1
      rcases Nat.lt_or_ge cap (n + 1) with hr | hr
      · refine (grow g n cap i vb cur xc w hg hvb hx h1x hcs hnc (by rw [htake]; exact h1c) hlt hr hn).mono ?_
        rintro e w' ⟨G, D, rfl, h1, h2, h3, h4, h5, h6⟩
        rw [htake] at h5
        exact ⟨_, rfl, ⟨by simp only [List.length_append, List.length_take, List.length_drop, hx, ho.1]; omega, .inr ⟨_, _, D, rfl, hbase, h3, h1, h2, h4, h5⟩⟩,
          ⟨h6.os, h6.tape, h6.output, h6.size, fun k hk _ => h6.block k hk (by simp)⟩, .inr rfl⟩
      · refine (shift g n cap i vb cur xc w hg hvb hx h1x hcs hcm hne' (by rw [htake]; exact h1c) hlt hr).mono ?_
        rintro e w' ⟨rfl, D, rfl, h4, h5⟩
        rw [htake] at h5
        exact ⟨_, rfl, ⟨by simp only [List.length_append, List.length_take, List.length_drop, hx, ho.1]; omega, .inr ⟨_, _, D, rfl, hbg, setRow_heap w.drew g cur D 46 _ hg, hr, hcm, h4, h5⟩⟩,
          ⟨rfl, rfl, rfl, by rw [setRow_size]; exact Nat.le_refl _, fun k _ hk => setRow_other w.drew g k D (fun e => hk (by simp [Value.ownBlock, e]))⟩, .inl rfl⟩
  · have hin : i = n := by omega
    subst hin
    have hl : inner.length = i * 2 := ho.1
    rw [List.take_of_length_le (by omega), List.drop_of_length_le (by omega), List.append_nil]
    exact atEnd base i vb v inner xc w ho hbase hvb hx h1x hn
end Go.Proofs.Ytbahcefcoplmpaa.Hi
