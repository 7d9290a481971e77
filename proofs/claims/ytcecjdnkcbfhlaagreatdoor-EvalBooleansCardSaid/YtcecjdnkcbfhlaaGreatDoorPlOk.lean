/- Partial functions that have an answer: the rules. -/
import Derived.Test.YtcecjdnkcbfhlaaGreatDoorArgPlain
import Derived.Lib.ItoaNum
set_option linter.unusedSimpArgs false
set_option linter.unusedVariables false
set_option linter.unusedSectionVars false
namespace Go.Sp
open Go.Stp
section
variable {α β σ ρ : Type}
def Ok (x : Option α) (P : α → Prop) : Prop := ∃ v, x = some v ∧ P v
theorem Ok.bv {x : α} {f : α → Option β} {P : β → Prop} (h : ∀ z, z = x → Ok (f z) P) : Ok (bindv x f) P := h x rfl
theorem Ok.ck {p : Prop} [Decidable p] {A : Option β} {P : β → Prop} (hp : p) (h : Ok A P) : Ok (chk p A) P := by
  unfold chk
  rw [if_pos hp]
  exact h
theorem Ok.ckf {p : Prop} [Decidable p] {A : Option β} {P : β → Prop} (hp : p) (h : p → Ok A P) : Ok (chk p A) P := Ok.ck hp (h hp)
theorem Ok.ob {x : Option α} {f : α → Option β} {P : β → Prop} {R : α → Prop} (h : Ok x R) (k : ∀ y, x = some y → R y → Ok (f y) P) : Ok (obind x f) P := by
  obtain ⟨y, hy, hr⟩ := h
  have := k y hy hr
  rw [hy]
  exact this
theorem Ok.os {v : α} {f : α → Option β} {P : β → Prop} (k : ∀ y, y = v → Ok (f y) P) : Ok (obind (some v) f) P := k v rfl
theorem Ok.it {b : Bool} {A B : Option β} {P : β → Prop} (h1 : b = true → Ok A P) (h2 : b = false → Ok B P) : Ok (if b = true then A else B) P := by
  cases b with
  | true => rw [if_pos rfl]; exact h1 rfl
  | false => rw [if_neg Bool.false_ne_true]; exact h2 rfl
theorem Ok.sm {v : β} {P : β → Prop} (h : P v) : Ok (some v) P := ⟨v, rfl, h⟩
theorem Ok.mono {x : Option α} {P R : α → Prop} (h : Ok x P) (k : ∀ v, P v → R v) : Ok x R := by
  obtain ⟨v, h1, h2⟩ := h
  exact ⟨v, h1, k v h2⟩
theorem Ok.of {x : Option α} {v : α} {P : α → Prop} (h : x = some v) (hp : P v) : Ok x P := ⟨v, h, hp⟩
theorem Ok.lpk {B : (σ → Option ρ) → σ → Option ρ} {P : ρ → Prop} (I : σ → Prop) (μ : σ → Nat) (step : ∀ s, I s → ∀ next : σ → Option ρ, (∀ s', I s' → μ s' < μ s → Ok (next s') P) → Ok (B next s) P) : ∀ (K : Nat) (s : σ), I s → μ s < K → Ok (loopF B K s) P
  | 0, s, _, h => by omega
  | K + 1, s, hI, h => step s hI (loopF B K) fun s' hI' hm => Ok.lpk I μ step K s' hI' (by omega)
theorem Ok.lp {B : (σ → Option ρ) → σ → Option ρ} {P : ρ → Prop} (I : σ → Prop) (μ : σ → Nat) {s : σ} (h0 : I s) (hm : μ s < 1208925819614629174706176) (step : ∀ s, I s → ∀ next : σ → Option ρ, (∀ s', I s' → μ s' < μ s → Ok (next s') P) → Ok (B next s) P) : Ok (loopF B KK s) P :=
  Ok.lpk I μ step KK s h0 (by unfold KK; omega)
end
theorem wI64 {z E : Int} (e : z = IntKind.wrap .i64 E) : (-9223372036854775808 ≤ z ∧ z ≤ 9223372036854775807) ∧ (-9223372036854775808 ≤ E ∧ E ≤ 9223372036854775807 → z = E) := by
  simp [IntKind.wrap, IntKind.bits, IntKind.signed] at e
  split at e <;> omega
theorem wU64 {z E : Int} (e : z = IntKind.wrap .u64 E) : (0 ≤ z ∧ z ≤ 18446744073709551615) ∧ (0 ≤ E ∧ E ≤ 18446744073709551615 → z = E) := by
  simp [IntKind.wrap, IntKind.bits, IntKind.signed] at e
  omega
theorem wU8 {z E : Int} (e : z = IntKind.wrap .u8 E) : (0 ≤ z ∧ z ≤ 255) ∧ (0 ≤ E ∧ E ≤ 255 → z = E) := by
  simp [IntKind.wrap, IntKind.bits, IntKind.signed] at e
  omega
theorem wI32 {z E : Int} (e : z = IntKind.wrap .i32 E) : (-2147483648 ≤ z ∧ z ≤ 2147483647) ∧ (-2147483648 ≤ E ∧ E ≤ 2147483647 → z = E) := by
  simp [IntKind.wrap, IntKind.bits, IntKind.signed] at e
  split at e <;> omega
theorem tmod_bd (a : Int) {c : Int} (hc : 0 < c) : -c < a.tmod c ∧ a.tmod c < c ∧ a = c * a.tdiv c + a.tmod c ∧ (0 ≤ a → 0 ≤ a.tmod c) ∧ (a ≤ 0 → a.tmod c ≤ 0) := by
  refine ⟨?_, Int.tmod_lt_of_pos a hc, (Int.mul_tdiv_add_tmod a c).symm, fun h => Int.tmod_nonneg c h, fun h => ?_⟩
  · have := Int.lt_tmod_of_pos a hc
    omega
  · have := Int.tmod_nonneg c (show 0 ≤ -a by omega)
    rw [Int.neg_tmod] at this
    omega
theorem gel_mem {α : Type} [Inhabited α] {l : List α} {i : Int} (h : 0 ≤ i ∧ i < (l.length : Int)) : gel l i ∈ l := List.mem_of_getElem? (gel_some h)
theorem gelP {α : Type} [Inhabited α] {l : List α} {i : Int} {z : α} {P : α → Prop} (h : ∀ x ∈ l, P x) (e : z = gel l i) (hi : 0 ≤ i ∧ i < (l.length : Int)) : P z := by
  rw [e]
  exact h _ (gel_mem hi)
end Go.Sp
