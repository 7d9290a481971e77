/- Cells in their order. -/
import Derived.Test.YtcecjdnkcbfhlaaGreatDoorNdPlain
import Derived.Sort.LotA
import Derived.Shelf.SlSortCmp.NoneTotal
set_option linter.unusedSimpArgs false
set_option linter.unusedVariables false
set_option linter.unusedSectionVars false
namespace Go.ValP
open Go.Sort
def cLess (a b : C) : Bool := if a.s ≠ b.s then decide (a.s < b.s) else if a.r ≠ b.r then decide (a.r < b.r) else decide (a.c < b.c)
def cCmp (a b : C) : Int := if cLess a b = true then -1 else 1
theorem cLess_iff {a b : C} : cLess a b = true ↔ a.s < b.s ∨ (a.s = b.s ∧ (a.r < b.r ∨ (a.r = b.r ∧ a.c < b.c))) := by
  unfold cLess
  by_cases h1 : a.s = b.s
  · by_cases h2 : a.r = b.r
    · simp [h1, h2]
    · simp [h1, h2]
  · simp [h1]
theorem cLess_not {a b : C} : cLess a b = false ↔ ¬ (a.s < b.s ∨ (a.s = b.s ∧ (a.r < b.r ∨ (a.r = b.r ∧ a.c < b.c)))) := by
  rw [← cLess_iff]
  simp
theorem lt_cCmp : Proofs.ltOf cCmp = cLess := by
  funext a b
  unfold Proofs.ltOf cCmp
  cases cLess a b <;> simp
theorem cSWO : SWO (Proofs.ltOf cCmp) := by
  rw [lt_cCmp]
  refine ⟨fun x => ?_, fun x y z h1 h2 => ?_, fun x y z h1 h2 => ?_⟩
  · rw [cLess_not]; omega
  · rw [cLess_iff] at h1 h2 ⊢; omega
  · rw [cLess_not] at h1 h2 ⊢; omega
theorem cTot : ∀ x y : C, Proofs.ltOf cCmp x y = false → Proofs.ltOf cCmp y x = false → x = y := by
  rw [lt_cCmp]
  intro x y h1 h2
  rw [cLess_not] at h1 h2
  obtain ⟨s, c, r⟩ := x
  obtain ⟨s', c', r'⟩ := y
  simp only at h1 h2
  have e1 : s = s' := by omega
  have e2 : r = r' := by omega
  have e3 : c = c' := by omega
  rw [e1, e2, e3]
def cellSort (l : List C) : List C := l.mergeSort fun x y => !(Proofs.ltOf cCmp) y x
/-- The cells that were asked for, in order. -/
def srtK (m : List (C × Bool)) : List C := cellSort (m.map (·.1))
theorem le_trans_c : ∀ a b c : C, (!(Proofs.ltOf cCmp) b a) = true → (!(Proofs.ltOf cCmp) c b) = true → (!(Proofs.ltOf cCmp) c a) = true := by
  intro a b c h1 h2
  simp only [Bool.not_eq_true'] at h1 h2 ⊢
  exact cSWO.ntrans c b a h2 h1
theorem le_total_c : ∀ a b : C, ((!(Proofs.ltOf cCmp) b a) || !(Proofs.ltOf cCmp) a b) = true := by
  intro a b
  cases h : Proofs.ltOf cCmp b a with
  | false => rfl
  | true =>
    cases h2 : Proofs.ltOf cCmp a b with
    | false => rfl
    | true =>
      have := cSWO.trans a b a h2 h
      rw [cSWO.irrefl] at this
      cases this
theorem cellSort_perm (l : List C) : (cellSort l).Perm l := List.mergeSort_perm l _
theorem cellSort_sorted (l : List C) : (cellSort l).Pairwise fun x y => (!(Proofs.ltOf cCmp) y x) = true := List.pairwise_mergeSort le_trans_c le_total_c l
theorem cellSort_eq {l l' : List C} (h : l.Perm l') : cellSort l = cellSort l' := by
  refine List.Perm.eq_of_pairwise (le := fun x y => (!(Proofs.ltOf cCmp) y x) = true) (fun a b _ _ h1 h2 => ?_) (cellSort_sorted l) (cellSort_sorted l') (((cellSort_perm l).trans h).trans (cellSort_perm l').symm)
  simp only [Bool.not_eq_true'] at h1 h2
  exact cTot a b h2 h1
theorem srtK_perm {m : List (C × Bool)} {ks : List C} (h : ks.Perm (m.map (·.1))) : cellSort ks = srtK m := cellSort_eq h
end Go.ValP
