/- Sums and products of polynomials, of up to 32 terms: the rules of algebra. -/
import Derived.Test.YtlpfcclecmalhaaDoorPlSym
import Derived.Test.YtlpfcclecmalhaaDoorPlUnits
set_option linter.unusedSimpArgs false
set_option linter.unusedVariables false
set_option linter.unusedSectionVars false
namespace Go.Sp
open Go.Stp Go.ValP
theorem MkP.add' {ps : List (List T)} (h : ∀ p ∈ ps, MkP 32 p) (hl : ps.length ≤ 3) : Ok (poly_Add ps) (fun r => NormOf ps.flatten r ∧ (r.2 = true → MkP 32 r.1)) := by
  have hfl : ps.flatten.length ≤ ps.length * 32 := by
    clear hl
    induction ps with
    | nil => simp
    | cons p ps ih =>
      have := (h p (by simp)).len
      have := ih fun q hq => h q (by simp [hq])
      simp only [List.flatten_cons, List.length_append, List.length_cons, Nat.add_mul]
      omega
  have hv : ∀ t ∈ ps.flatten, 0 < t.n ∧ t.n ≤ 1000000 ∧ t.v.length ≤ 4 := fun t ht => by
    obtain ⟨p, hp, hq⟩ := List.mem_flatten.1 ht
    exact (h p hp).vl t hq
  have hsum := sumN_bd (B := 1000000) (by omega) (l := ps.flatten) fun t ht => (hv t ht).2.1
  refine (poly_Add_tot (ps := ps) (sortT_tot (by omega) fun t ht => by have := hv t ht; omega) (by omega) (by omega) (fun t ht => by have := hv t ht; omega) (by omega)).mono fun r hr => ⟨hr, fun h2 => ?_⟩
  obtain ⟨h3, h4, _, h6, h7⟩ := hr.ok h2
  have hsub : ∀ t ∈ r.1, ∃ p ∈ ps, ∃ u ∈ p, u.v = t.v := fun t ht => by
    obtain ⟨u, h8, h9⟩ := h6 t ht
    obtain ⟨p, hp, hq⟩ := List.mem_flatten.1 h8
    exact ⟨p, hp, u, hq, h9⟩
  refine ⟨h3, h4, fun t ht => ?_, fun t ht => ?_, h4.1⟩
  · obtain ⟨p, hp, u, hu, e⟩ := hsub t ht
    rw [← e]; exact (h p hp).so u hu
  · obtain ⟨p, hp, u, hu, e⟩ := hsub t ht
    rw [← e]; exact (h p hp).ce u hu
theorem MkP.mulN {k m : Nat} {p q : List T} (hp : MkP k p) (hq : MkP m q) (hk : k * m ≤ 1000) (hk1 : k ≤ 1000) (hm1 : m ≤ 1000) : Ok (poly_Mul p q) (fun r => NormOf (prods p q) r ∧ (r.2 = true → MkP 32 r.1)) := by
  refine (hp.mul' hq (sortT_tot ?_ fun t ht => ?_) hk hk1 hm1).mono fun r hr => ⟨hr.1, fun h2 => ?_⟩
  · rw [prods_len]
    exact Nat.le_trans (Nat.mul_le_mul hp.len hq.len) hk
  · obtain ⟨x, h1, h2⟩ := List.mem_flatMap.1 ht
    obtain ⟨y, h3, h4⟩ := List.mem_map.1 h2
    rw [← h4]
    simp only [(srtC_perm _).length_eq, List.length_append]
    have := hp.vl x h1
    have := hq.vl y h3
    omega
  · have h3 := hr.2 h2
    exact ⟨h3.st, h3.fi, h3.so, h3.ce, h3.fi.1⟩
theorem EV_row (φ : List C → Int) (x : T) : ∀ (b : List T), EV φ (row1 x b) = x.n * EV (fun v => φ (srtC (x.v ++ v))) b
  | [] => by simp [row1, EV]
  | y :: b => by
    have ih := EV_row φ x b
    unfold row1 at ih ⊢
    simp only [List.map_cons, EV, ih, Int.mul_add, Int.mul_assoc]
theorem EV_prods (φ : List C → Int) : ∀ (a b : List T), EV φ (prods a b) = EV (fun v => EV (fun w => φ (srtC (v ++ w))) b) a
  | [], b => rfl
  | x :: a, b => by
    have ih := EV_prods φ a b
    unfold prods at ih ⊢
    rw [List.flatMap_cons, EV_append, ih, EV_row]
    rfl
theorem EV_lin (f g : List C → Int) (c : Int) : ∀ (b : List T), EV (fun w => c * f w + g w) b = c * EV f b + EV g b
  | [] => by simp [EV]
  | y :: b => by
    simp only [EV, EV_lin f g c b, Int.mul_add]
    have : y.n * (c * f y.v) = c * (y.n * f y.v) := by rw [← Int.mul_assoc, ← Int.mul_assoc, Int.mul_comm y.n]
    omega
theorem EV_zero : ∀ (b : List T), EV (fun _ => 0) b = 0
  | [] => rfl
  | y :: b => by simp [EV, EV_zero b]
theorem EV_swap (F : List C → List C → Int) : ∀ (a b : List T), EV (fun v => EV (fun w => F v w) b) a = EV (fun w => EV (fun v => F v w) a) b
  | [], b => by simp only [EV]; exact (EV_zero b).symm
  | x :: a, b => by
    simp only [EV, EV_swap F a b]
    exact (EV_lin (fun w => F x.v w) (fun w => EV (fun v => F v w) a) x.n b).symm
theorem EV_prods_comm (φ : List C → Int) (a b : List T) : EV φ (prods a b) = EV φ (prods b a) := by
  rw [EV_prods, EV_prods, EV_swap]
  have : (fun w => EV (fun v => φ (srtC (v ++ w))) a) = (fun w => EV (fun v => φ (srtC (w ++ v))) a) := by
    funext w
    congr 1
    funext v
    rw [srtC_eq List.perm_append_comm]
  rw [this]
theorem EV_prods_right (φ : List C → Int) (a : List T) {b c : List T} (h : ∀ ψ, EV ψ b = EV ψ c) : EV φ (prods a b) = EV φ (prods a c) := by
  rw [EV_prods, EV_prods]
  congr 1
  funext v
  exact h _
theorem EV_prods_app (φ : List C → Int) (a b c : List T) : EV φ (prods a (b ++ c)) = EV φ (prods a b) + EV φ (prods a c) := by
  rw [EV_prods_comm, EV_prods_comm φ a b, EV_prods_comm φ a c]
  unfold prods
  rw [List.flatMap_append, EV_append]
theorem same_ok {r : List T × Bool} (h : r.2 = true → MkP 32 r.1) {c : Bool} (hc : c = true → r.2 = true) : Ok (if c = true then reckonerlaw15_same r.1 r.1 else some default) (fun v => c = true → v = true) := by
  cases c with
  | true => rw [if_pos rfl]; exact Ok.of (same_self (h (hc rfl)) (by omega)) fun _ => rfl
  | false => exact Ok.sm fun h => by cases h
end Go.Sp
