/- Right values. -/
import Derived.Test.YtnmkeanoidadcaaGreatDoorPlVal
set_option linter.unusedSimpArgs false
set_option linter.unusedVariables false
set_option linter.unusedSectionVars false
set_option linter.unusedSimpArgs false
namespace Go.Sp
open Go.Stp Go.ValP
/-- What value.Right lets through. -/
def Rt (v : V) : Prop :=
  (v.k = 0 ∧ v.n = 0 ∧ v.s = []) ∨ (v.k = 1 ∧ (-9223372036854775807 ≤ v.n ∧ v.n ≤ 9223372036854775807) ∧ v.s = []) ∨ (v.k = 2 ∧ v.n = 0 ∧ v.s.length ≤ 64) ∨
    (v.k = 3 ∧ (v.n = 0 ∨ v.n = 1) ∧ v.s = []) ∨ (v.k = 4 ∧ (1 ≤ v.n ∧ v.n ≤ 7) ∧ v.s = [])
theorem Rt.n {v : V} (h : Rt v) : -9223372036854775807 ≤ v.n ∧ v.n ≤ 9223372036854775807 := by unfold Rt at h; omega
theorem Rt.len {v : V} (h : Rt v) : v.s.length ≤ 64 := by
  rcases h with h | h | h | h | h
  · simp [h.2.2]
  · simp [h.2.2]
  · exact h.2.2
  · simp [h.2.2]
  · simp [h.2.2]
theorem Rt.gd {v : V} (h : Rt v) (h4 : v.k ≠ 4) : Gd v := by
  have hl := h.len
  unfold Rt at h
  exact ⟨by omega, by omega, hl, by omega, by omega⟩
theorem bits1 : bits .and .i64 0 1 = 0 ∧ bits .and .i64 1 1 = 1 := by decide
theorem Rt.right {v : V} (h : Rt v) : value_Right v = some true := by
  rcases h with h | h | h | h | h <;> obtain ⟨h1, h2, h3⟩ := h
  · simp [value_Right, bindv, h1, h2, h3]
  · have : v.n ≠ -9223372036854775808 := by omega
    simp [value_Right, bindv, h1, h3, this]
  · simp [value_Right, bindv, h1, h2]; omega
  · rcases h2 with h2 | h2 <;> simp [value_Right, bindv, h1, h2, h3, bits1]
  · simp [value_Right, bindv, h1, h3]; omega
theorem value_Right_inv {x : V} (hn : -9223372036854775808 ≤ x.n ∧ x.n ≤ 9223372036854775807) : Ok (value_Right x) (fun b => b = true → Rt x) := by
  unfold value_Right
  refine Ok.bv fun _ e0 => Ok.it (fun h => Ok.bv fun _ a => Ok.bv fun _ b => Ok.bv fun _ c => Ok.sm fun g => ?_) (fun h => ?_)
  · simp [e0] at h
    simp [c, a, b] at g
    exact .inl ⟨h, g.1, g.2⟩
  refine Ok.bv fun _ e1 => Ok.it (fun h => Ok.bv fun _ a => Ok.bv fun _ b => Ok.bv fun _ c => Ok.sm fun g => ?_) (fun h => ?_)
  · simp [e1] at h
    simp [c, a, b] at g
    exact .inr (.inl ⟨h, by omega, g.2⟩)
  refine Ok.bv fun _ e2 => Ok.it (fun h => Ok.bv fun _ a => Ok.bv fun _ b => Ok.bv fun _ c => Ok.sm fun g => ?_) (fun h => ?_)
  · simp [e2] at h
    simp [c, a, b] at g
    exact .inr (.inr (.inl ⟨h, g.1, by omega⟩))
  refine Ok.bv fun _ e3 => Ok.it (fun h => Ok.bv fun _ a => Ok.bv fun _ b => Ok.bv fun _ c => Ok.bv fun _ d => Ok.sm fun g => ?_) (fun h => ?_)
  · simp [e3] at h
    simp [d, b, a, c] at g
    have := and1 x.n
    exact .inr (.inr (.inr (.inl ⟨h, by omega, g.2⟩)))
  refine Ok.bv fun _ e4 => Ok.it (fun h => Ok.bv fun _ a => Ok.bv fun _ b => Ok.bv fun _ c => Ok.bv fun _ d => Ok.bv fun _ f => Ok.sm fun g => ?_) (fun h => Ok.sm fun h => absurd h Bool.false_ne_true)
  simp [e4] at h
  simp [f, c, a, b, d] at g
  exact .inr (.inr (.inr (.inr ⟨h, by omega, g.2⟩)))
theorem good_rt {x : V} (hn : -9223372036854775808 ≤ x.n ∧ x.n ≤ 9223372036854775807) : Ok (reckonerlaw12_good x) (fun b => b = true → Rt x ∧ x.k ≠ 4) := by
  unfold reckonerlaw12_good
  refine Ok.bv fun z ez => ?_
  have hr : Ok (if z = true then value_Right x else some default) (fun b => b = true → z = true → Rt x) :=
    Ok.it (fun hz => (value_Right_inv hn).mono fun _ h g _ => h g) (fun hz => Ok.sm fun _ h => absurd h (by simp [hz]))
  refine Ok.ob hr fun b eb hb => Ok.bv fun _ a => Ok.bv fun _ c => Ok.bv fun _ d => Ok.sm fun g => ?_
  rw [d, a, c] at g
  simp at g
  exact ⟨hb g.1.2 g.1.1, g.2⟩
theorem rtNum {n : Int} (h : -9223372036854775807 ≤ n ∧ n ≤ 9223372036854775807) : Rt ⟨1, n, []⟩ := .inr (.inl ⟨rfl, h, rfl⟩)
theorem rtFail {n : Int} (h : 1 ≤ n ∧ n ≤ 7) : Rt ⟨4, n, []⟩ := .inr (.inr (.inr (.inr ⟨rfl, h, rfl⟩)))
theorem value_Num_tot {x0 : Int} (h : -9223372036854775807 ≤ x0 ∧ x0 ≤ 9223372036854775807) : Ok (value_Num x0) (fun r => Rt r ∧ (r.k = 4 ∨ r.k = 1)) := Ok.sm ⟨rtNum h, .inr rfl⟩
theorem value_Fail_tot {x0 : Int} (h : 1 ≤ x0 ∧ x0 ≤ 7) : Ok (value_Fail x0) (fun r => Rt r ∧ (r.k = 4 ∨ r.k = 1)) := Ok.sm ⟨rtFail h, .inl rfl⟩
theorem value_Bool_tot {x0 : Bool} : Ok (value_Bool x0) Rt := by
  rw [value_Bool_eq]
  cases x0
  · exact Ok.sm (.inr (.inr (.inr (.inl ⟨rfl, .inl rfl, rfl⟩))))
  · exact Ok.sm (.inr (.inr (.inr (.inl ⟨rfl, .inr rfl, rfl⟩))))
theorem value_Text_tot {x0 : List UInt8} : Ok (value_Text x0) (fun r => Rt r ∧ r.s.length ≤ 64) := by
  rw [value_Text_eq]
  by_cases h : 64 < (x0.length : Int)
  · rw [if_pos h]; exact Ok.sm ⟨rtFail (by decide), by decide⟩
  · rw [if_neg h]; exact Ok.sm ⟨.inr (.inr (.inl ⟨rfl, rfl, by simp only; omega⟩)), by simp only; omega⟩
theorem value_Made_tot {x0 : Int} {x1 : Bool} (h : x1 = true → -9223372036854775807 ≤ x0 ∧ x0 ≤ 9223372036854775807) : Ok (value_Made x0 x1) (fun r => Rt r ∧ (r.k = 4 ∨ r.k = 1)) := by
  rw [value_Made_eq]
  cases x1
  · exact Ok.sm ⟨rtFail (by decide), .inl rfl⟩
  · exact Ok.sm ⟨rtNum (h rfl), .inr rfl⟩
theorem tmod_nat (a : Int) {c : Int} (hc : c ≠ 0) : (a.tmod c).natAbs < c.natAbs := by
  rcases Int.lt_or_gt_of_ne hc with h | h
  · have := tmod_bd a (c := -c) (by omega)
    rw [Int.tmod_neg] at this
    omega
  · have := tmod_bd a (c := c) h
    omega
theorem tdiv_nat (a c : Int) : (a.tdiv c).natAbs ≤ a.natAbs := by
  rw [Int.natAbs_tdiv]
  exact Nat.div_le_self _ _
theorem mul_guard {a s : Int} (hs : 1 ≤ s) (h1 : a ≤ Int.tdiv 9223372036854775807 s) (h2 : Int.tdiv (-9223372036854775807) s ≤ a) : -9223372036854775807 ≤ a * s ∧ a * s ≤ 9223372036854775807 := by
  have e : Int.tdiv 9223372036854775807 s = 9223372036854775807 / s := Int.tdiv_eq_ediv_of_nonneg (by decide)
  rw [Int.neg_tdiv] at h2
  rw [e] at h1 h2
  have hd : 9223372036854775807 / s * s ≤ 9223372036854775807 := Int.ediv_mul_le _ (by omega)
  have u1 : a * s ≤ 9223372036854775807 / s * s := Int.mul_le_mul_of_nonneg_right h1 (by omega)
  have u2 : -(9223372036854775807 / s) * s ≤ a * s := Int.mul_le_mul_of_nonneg_right h2 (by omega)
  rw [Int.neg_mul] at u2
  omega
theorem all_snoc {α : Type} {l : List α} {z : α} {P : α → Prop} (h : ∀ x ∈ l, P x) (hz : P z) : ∀ x ∈ l ++ [z], P x := by
  intro x hx
  rcases List.mem_append.1 hx with h' | h'
  · exact h x h'
  · rw [List.mem_singleton.1 h']; exact hz
theorem all2 {α : Type} {a b : α} {P : α → Prop} (h : P a) (k : P b) : ∀ x ∈ [a, b], P x := by
  intro x hx
  simp at hx
  rcases hx with rfl | rfl
  · exact h
  · exact k
theorem all_app {α : Type} {l m : List α} {P : α → Prop} (h : ∀ x ∈ l, P x) (k : ∀ x ∈ m, P x) : ∀ x ∈ l ++ m, P x := by
  intro x hx
  rcases List.mem_append.1 hx with h' | h'
  · exact h x h'
  · exact k x h'
theorem all_cut {α : Type} {l : List α} {P : α → Prop} (h : ∀ x ∈ l, P x) (a b : Int) : ∀ x ∈ cutL l a b, P x := fun x hx => h x (List.mem_of_mem_take (List.mem_of_mem_drop hx))
theorem cutL_len {α : Type} (l : List α) (a b : Int) (h : 0 ≤ a ∧ a ≤ b ∧ b ≤ (l.length : Int)) : ((cutL l a b).length : Int) = b - a := by
  unfold cutL
  rw [List.length_drop, List.length_take]
  omega
theorem value_Show_rt {x0 : V} (h : Rt x0) (h4 : x0.k ≠ 4) : Ok (value_Show x0) (fun r => r.length ≤ 64) := value_Show_tot (h.gd h4) (by have := h.n; omega)
end Go.Sp
