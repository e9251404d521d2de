/- OwnerOf of the program and of the reference agree on every list of entries and every tag, as a statement over lists alone; the bounds are those of memory. -/
import Derived.Test.YtajnmblpbdnjjaaPFnExactOwnerOfx2
import Derived.Test.YtajnmblpbdnjjaaGb
import Derived.Test.YtajnmblpbdnjjaaGr
namespace Go.Proofs.Ytajnmblpbdnjjaa.Pure
open Go.RowKit Go.Proofs.Ytajnmblpbdnjjaa.PFnExactOwnerOf Go.Proofs.YtajnmblpbdnjjaaW.PrintWords Go.Proofs.YtajnmblpbdnjjaaW.PrintLast Go.Proofs.Ytajnmblpbdnjjaa.Gb Go.Proofs.Ytajnmblpbdnjjaa.Gr Go.Proofs.Ytajnmblpbdnjjaa
set_option linter.unusedSimpArgs false
set_option linter.unusedVariables false
namespace FnExactOwnerOfAid

/-! ### T_Entry -/
abbrev En := S49
abbrev LEn := S54
abbrev zEn : En := z49
abbrev zLEn : LEn := z54
theorem rd_En (l : List En) (i : Nat) : rd_T49 l (i : Int) = nt zEn l i := by simp [rd_T49, nt]
theorem rd_LEn (l : List LEn) (i : Nat) : rd_T54 l (i : Int) = nt zLEn l i := by simp [rd_T54, nt]
def convEn (x : LEn) : En := ⟨x.f0, x.f1, x.f2⟩

/-! ### laws_szEntryS -/
/-- The size law: beyond the bound the law answers true; within it, the length is small. -/
theorem laws_szEntryS_eq {l : List LEn} {a : Int} (h0 : 0 ≤ a) (h1 : a ≤ 1048576) (hl : l.length ≤ 9223372036854775807) : laws_szEntryS.f l a = some (if a < l.length then -1 else a - l.length) := by
  unfold laws_szEntryS.f
  rw [wrap_id (by omega) (by omega)]
  by_cases h : a < (l.length : Int)
  · rw [if_pos (by omega), if_pos h]
  · rw [if_neg (by omega), if_neg h]

/-! ### laws_toEntryS -/
theorem laws_toEntryS_eq {l : List LEn} {k : Nat} (hl : l.length ≤ 1048576) (hk : l.length < k) : laws_toEntryS.f k l = some (l.map convEn) := by
  unfold laws_toEntryS.f
  rw [if_pos (by omega), toNat_cast, if_pos (by omega)]
  have h := map_loop (g := fun k acc i => laws_toEntryS.l0 k l acc (i : Int)) (l := l) (z := zLEn) (zb := zEn) (f := convEn) (B := 0) (fun k acc ha => by
      simp only [laws_toEntryS.l0]; rw [if_neg (by omega)])
    (fun k i acc hi _ ha => by
      simp only [laws_toEntryS.l0]
      rw [if_pos (by omega), if_pos (by omega), rd_LEn]
      simp only [laws_toEntry.f, Option.bind_some]
      rw [if_pos (by omega), wrap_up (n := l.length) hi (by omega), toNat_cast]; rfl) l.length k 0 (by omega) (by omega)
  simpa using h

/-! ### laws_eqEntryS -/
theorem laws_eqEntryS_self {l : List En} {k : Nat} (hl : l.length ≤ 9223372036854775807) (hk : l.length < k) : laws_eqEntryS.f k l l = some true := by
  unfold laws_eqEntryS.f
  rw [if_pos rfl]
  exact pass_loop (g := fun k i => laws_eqEntryS.l0 k l l (i : Int)) (n := l.length) (B := 0) (fun k => by
      simp only [laws_eqEntryS.l0]; rw [if_neg (by omega)])
    (fun k i hi _ => by
      simp only [laws_eqEntryS.l0]
      rw [if_pos (by omega), if_pos (by omega), if_pos (by omega), wrap_up (n := l.length) hi hl]
      simp only [laws_eqEntry.f, if_true, bne_self_eq_false, Bool.false_eq_true, if_false, Option.bind_some]) l.length k 0 (by omega) (by omega)

/-! ### spec_OwnerOf -/
def ownerOf (l : List En) (t : Int) : Int := (l.findIdx? fun x => x.f0 == t).elim (-1) fun j => (nt zEn l j).f1
theorem spec_OwnerOf_eq {l : List En} {t : Int} {k : Nat} (hl : l.length ≤ 9223372036854775807) (hk : l.length < k) : spec_OwnerOf.f k l t = some (ownerOf l t) := by
  unfold spec_OwnerOf.f
  have h := find_loop (g := fun k i => spec_OwnerOf.l0 k l t (i : Int)) (l := l) (z := zEn) (B := 0) (p := fun x => x.f0 == t) (hit := fun j => (nt zEn l j).f1) (miss := (-1 : Int)) (fun k => by
      simp only [spec_OwnerOf.l0]; rw [if_neg (by omega)])
    (fun k i hi _ => by
      simp only [spec_OwnerOf.l0]
      rw [if_pos (by omega), if_pos (by omega), wrap_up (n := l.length) hi hl, rd_En]
      by_cases e : (nt zEn l i).f0 = t
      · rw [if_pos e, if_pos (by simp [e])]
      · rw [if_neg e, if_neg (by simp [e])]) l.length k 0 (by omega) (by omega)
  simpa [ownerOf] using h

/-! ### impl_OwnerOf -/
theorem impl_OwnerOf_eq (l : List En) (t : Int) : impl_OwnerOf.f l t = some (ownerOf l t) := by
  unfold impl_OwnerOf.f impl_entryOf.f ownerOf Hw.idxOf
  rw [Option.bind_some]
  obtain ⟨q, hq⟩ : ∃ q : Int, q = (l.findIdx? fun x => x.f0 == t).elim (-1) fun j => (j : Int) := ⟨_, rfl⟩
  rw [← hq]
  cases e : l.findIdx? (fun x => x.f0 == t) with
  | none => rw [e] at hq; rw [hq]; simp
  | some j =>
    obtain ⟨h1, _, _⟩ := List.findIdx?_eq_some_iff_getElem.1 e
    rw [e] at hq
    have hq' : q = (j : Int) := hq
    rw [hq', if_neg (by omega), if_pos (by omega), if_pos (by omega), rd_En]; rfl

end FnExactOwnerOfAid
open FnExactOwnerOfAid

theorem FnExactOwnerOf : laws_FnExactOwnerOf.Pure := by
  intro l t hl hw _
  refine ⟨l.length + 2, ?_⟩
  unfold laws_FnExactOwnerOf.f
  rw [laws_szEntryS_eq (by omega) (by omega) hl, Option.bind_some]
  by_cases hb : (1048576 : Int) < l.length
  · rw [if_pos hb, if_pos (by omega)]
  · rw [if_neg hb, if_neg (by omega)]
    have hm : (l.map convEn).length = l.length := List.length_map ..
    have ht : laws_toEntryS.f (l.length + 2) l = some (l.map convEn) := laws_toEntryS_eq (by omega) (by omega)
    have hs : spec_OwnerOf.f (l.length + 2) (l.map convEn) t = some (ownerOf (l.map convEn) t) := spec_OwnerOf_eq (by omega) (by omega)
    have he : laws_eqEntryS.f (l.length + 2) (l.map convEn) (l.map convEn) = some true := laws_eqEntryS_self (by omega) (by omega)
    simp only [ht, hs, he, impl_OwnerOf_eq, Option.bind_some, Bool.false_eq_true, if_true, if_false, ↓reduceIte, bne_self_eq_false, Bool.not_true, Bool.not_false, Nat.le_add_right, Nat.le_refl]

end Go.Proofs.Ytajnmblpbdnjjaa.Pure
