/- The functions of package value have an answer, and the operators. -/
import Derived.Test.YtnmkeanoidadcaaGreatDoorPlNumB
import Derived.Test.YtnmkeanoidadcaaGreatDoorSpD
set_option linter.unusedSimpArgs false
set_option linter.unusedVariables false
set_option linter.unusedSectionVars false
set_option linter.unusedSimpArgs false
namespace Go.Sp
open Go.Stp Go.ValP
theorem value_Text_eq (t : List UInt8) : value_Text t = some (if 64 < (t.length : Int) then ⟨4, 2, []⟩ else ⟨2, 0, t⟩) := by
  unfold value_Text bindv
  by_cases h : 64 < (t.length : Int) <;> simp [h, obind, value_Fail]
theorem value_Bool_eq (b : Bool) : value_Bool b = some ⟨3, if b = true then 1 else 0, []⟩ := by
  cases b <;> rfl
theorem value_Made_eq (n : Int) (b : Bool) : value_Made n b = some (if b = true then ⟨1, n, []⟩ else ⟨4, 5, []⟩) := by
  cases b <;> rfl
theorem value_like_eq (x y : V) : value_like x y = some (if x.k ≠ 0 then x else if y.k = 2 then ⟨2, 0, []⟩ else if y.k = 3 then ⟨3, 0, []⟩ else ⟨1, 0, []⟩) := by
  unfold value_like bindv
  by_cases h0 : x.k = 0
  · by_cases h2 : y.k = 2
    · simp [h0, h2, obind, value_Text_eq]
    · by_cases h3 : y.k = 3
      · simp [h0, h2, h3, obind, value_Bool_eq]
      · simp [h0, h2, h3, obind, value_Num]
  · simp [h0]
theorem value_Compare_tot (x y : V) : Ok (value_Compare x y) (fun _ => True) := by
  unfold value_Compare
  rw [value_like_eq, value_like_eq]
  refine Ok.os fun a ea => Ok.os fun b eb => Ok.bv fun _ _ => Ok.it (fun _ => ?_) (fun _ => ?_)
  · exact Ok.os fun _ _ => Ok.os fun _ _ => Ok.bv fun _ _ => Ok.sm trivial
  · exact Ok.bv fun _ _ => Ok.it (fun _ => Ok.bv fun _ _ => Ok.sm trivial) (fun _ => Ok.bv fun _ _ => Ok.it (fun _ => Ok.sm trivial) (fun _ => Ok.bv fun _ _ => Ok.it (fun _ => Ok.sm trivial) (fun _ => Ok.sm trivial)))
/-- A value of the law: no error, and as the statement's 'good' lets through. -/
structure Gd (x : V) : Prop where
  k0 : 0 ≤ x.k
  k3 : x.k ≤ 3
  s : x.s.length ≤ 64
  n1 : x.k = 1 → -9223372036854775807 ≤ x.n ∧ x.n ≤ 9223372036854775807
  n3 : x.k = 3 → 0 ≤ x.n ∧ x.n ≤ 1
theorem and1 (n : Int) : 0 ≤ bits .and .i64 n 1 ∧ bits .and .i64 n 1 ≤ 1 := by
  have h : (BitVec.ofInt 64 n &&& BitVec.ofInt 64 1).toNat ≤ 1 := by
    rw [BitVec.toNat_and]
    exact Nat.and_le_right
  show 0 ≤ IntKind.i64.wrap ((BitVec.ofInt 64 n &&& BitVec.ofInt 64 1).toNat : Int) ∧ IntKind.i64.wrap ((BitVec.ofInt 64 n &&& BitVec.ofInt 64 1).toNat : Int) ≤ 1
  generalize (BitVec.ofInt 64 n &&& BitVec.ofInt 64 1).toNat = v at h
  have := (wI64 (z := IntKind.i64.wrap (v : Int)) rfl).2 (by omega)
  omega
theorem good_gd {x : V} (hn : -9223372036854775808 ≤ x.n ∧ x.n ≤ 9223372036854775807) : Ok (reckonerlaw12_good x) (fun b => b = true → Gd x) := by
  unfold reckonerlaw12_good
  refine Ok.bv fun z ez => ?_
  have hr : Ok (if z = true then value_Right x else some default) (fun b => b = true → z = true → x.k ≠ 4 → Gd x) := by
    refine Ok.it (fun hz => ?_) (fun hz => Ok.sm fun _ h => absurd h (by simp [hz]))
    rw [ez, decide_eq_true_eq] at hz
    unfold value_Right
    refine Ok.bv fun _ e0 => Ok.it (fun h => Ok.bv fun _ _ => Ok.bv fun _ _ => Ok.bv fun _ _ => Ok.sm fun _ _ _ => ?_) (fun h => ?_)
    · simp [e0] at h
      exact ⟨by omega, by omega, by omega, by omega, by omega⟩
    refine Ok.bv fun _ e1 => Ok.it (fun h => Ok.bv fun _ a => Ok.bv fun _ b => Ok.bv fun _ c => Ok.sm fun g _ _ => ?_) (fun h => ?_)
    · simp [e1] at h
      simp [c, a] at g
      exact ⟨by omega, by omega, by omega, by omega, by omega⟩
    refine Ok.bv fun _ e2 => Ok.it (fun h => Ok.bv fun _ _ => Ok.bv fun _ _ => Ok.bv fun _ _ => Ok.sm fun _ _ _ => ?_) (fun h => ?_)
    · simp [e2] at h
      exact ⟨by omega, by omega, by omega, by omega, by omega⟩
    refine Ok.bv fun _ e3 => Ok.it (fun h => Ok.bv fun _ a => Ok.bv fun _ b => Ok.bv fun _ c => Ok.bv fun _ d => Ok.sm fun g _ _ => ?_) (fun h => ?_)
    · simp [e3] at h
      simp [d, b, a] at g
      have := and1 x.n
      exact ⟨by omega, by omega, by omega, by omega, by omega⟩
    refine Ok.bv fun _ e4 => Ok.it (fun h => Ok.bv fun _ a => Ok.bv fun _ b => Ok.bv fun _ c => Ok.bv fun _ d => Ok.bv fun _ d => Ok.sm fun g _ h4 => ?_) (fun h => Ok.sm fun h => absurd h Bool.false_ne_true)
    simp [e4] at h
    exact absurd h h4
  refine Ok.ob hr fun b eb hb => Ok.bv fun _ a => Ok.bv fun _ c => Ok.bv fun _ d => Ok.sm fun g => ?_
  rw [d, a, c] at g
  simp at g
  exact hb g.1.2 g.1.1 g.2
theorem value_ErrorName_tot {n : Int} (hn : -9223372036854775808 ≤ n ∧ n ≤ 9223372036854775807) : Ok (value_ErrorName n) (fun _ => True) := by
  unfold value_ErrorName
  refine Ok.ck ⟨by decide, by decide⟩ (Ok.bv fun l el => Ok.bv fun _ a => Ok.bv fun _ b => Ok.bv fun _ c => Ok.it (fun _ => Ok.sm trivial) (fun h => Ok.bv fun i ei => ?_))
  simp [c, a, b] at h
  have := (wI64 ei).2 (by omega)
  exact Ok.ck (by omega) (Ok.bv fun _ _ => Ok.sm trivial)
theorem value_Show_tot {x : V} (h : Gd x) (hn : -9223372036854775808 ≤ x.n ∧ x.n ≤ 9223372036854775807) : Ok (value_Show x) (fun r => r.length ≤ 64) := by
  unfold value_Show
  refine Ok.bv fun _ _ => Ok.it (fun _ => Ok.ob (num_Print_tot hn) fun y ey hy => Ok.sm (by omega)) (fun _ => Ok.bv fun _ _ => Ok.it (fun _ => Ok.sm h.s) (fun _ => Ok.bv fun _ _ => Ok.it (fun _ => Ok.bv fun _ _ => Ok.it (fun _ => Ok.sm (by decide)) (fun _ => Ok.sm (by decide))) (fun _ => Ok.bv fun _ e => Ok.it (fun g => ?_) (fun _ => Ok.sm (by decide)))))
  simp [e] at g
  have := h.k3
  omega
theorem trim_len (s p : List UInt8) : (Lib.trimPrefix s p).length ≤ s.length := by
  unfold Lib.trimPrefix
  split <;> simp
theorem value_ToNum_tot {x : V} (h : Gd x) : Ok (value_ToNum x) (fun y => y = ⟨4, 2, []⟩ ∨ (y.k = 1 ∧ -9223372036854775807 ≤ y.n ∧ y.n ≤ 9223372036854775807)) := by
  unfold value_ToNum
  refine Ok.bv fun J eJ => ?_
  have hJ : ∀ b, (b = true → x.k = 1) → Ok (J b) (fun y => y = ⟨4, 2, []⟩ ∨ (y.k = 1 ∧ -9223372036854775807 ≤ y.n ∧ y.n ≤ 9223372036854775807)) := by
    intro b hb
    rw [eJ]
    refine Ok.it (fun g => Ok.sm (.inr ⟨hb g, h.n1 (hb g)⟩)) (fun _ => Ok.bv fun _ _ => Ok.it (fun _ => Ok.os fun y hy => Ok.sm (.inr (by rw [hy]; exact ⟨rfl, by decide, by decide⟩))) (fun _ => Ok.bv fun _ e3 => Ok.it (fun g => Ok.bv fun m em => Ok.os fun y hy => Ok.sm (.inr ?_)) (fun _ => ?_)))
    · simp [e3] at g
      have := h.n3 g
      have := (wI64 em).2 (by omega)
      rw [hy]
      exact ⟨rfl, by simp only; omega, by simp only; omega⟩
    have hl := trim_len x.s [45]
    have hs := h.s
    refine Ok.bv fun q eq => Ok.ob (num_Parse_tot q.1 (by rw [eq]; simp only; omega)) fun r er hr => Ok.bv fun _ _ => Ok.it (fun _ => Ok.os fun y hy => Ok.sm (.inl hy)) (fun _ => Ok.bv fun J2 eJ2 => ?_)
    have hJ2 : ∀ n, -9223372036854775807 ≤ n ∧ n ≤ 9223372036854775807 → Ok (J2 n) (fun y => y = ⟨4, 2, []⟩ ∨ (y.k = 1 ∧ -9223372036854775807 ≤ y.n ∧ y.n ≤ 9223372036854775807)) := by
      intro n hn
      rw [eJ2]
      exact Ok.os fun y hy => Ok.sm (.inr (by rw [hy]; exact ⟨rfl, hn⟩))
    refine Ok.it (fun _ => Ok.bv fun m em => hJ2 _ ?_) (fun _ => hJ2 _ hr)
    have := (wI64 em).2 (by omega)
    omega
  refine Ok.bv fun _ e => Ok.it (fun g => hJ _ fun _ => ?_) (fun _ => Ok.bv fun _ e => hJ _ fun g => ?_)
  · simpa [e] using g
  · simp [e] at g
    have := h.k3
    omega
end Go.Sp
