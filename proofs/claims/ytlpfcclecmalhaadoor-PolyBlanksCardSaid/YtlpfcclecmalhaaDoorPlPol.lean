/- Polynomials: the order of their products; what a list of terms is, as a linear function of what its products are. -/
import Derived.Test.YtlpfcclecmalhaaDoorPolPlain
set_option linter.unusedSimpArgs false
set_option linter.unusedVariables false
set_option linter.unusedSectionVars false
namespace Go.Sp
open Go.Stp Go.ValP
/-! ### cells -/
def ltC (a b : C) : Bool := if a.s ≠ b.s then decide (a.s < b.s) else if a.r ≠ b.r then decide (a.r < b.r) else decide (a.c < b.c)
theorem ltC_iff {a b : C} : ltC a b = true ↔ a.s < b.s ∨ a.s = b.s ∧ (a.r < b.r ∨ a.r = b.r ∧ a.c < b.c) := by
  unfold ltC
  split
  · rw [decide_eq_true_eq]; omega
  · split
    · rw [decide_eq_true_eq]; omega
    · rw [decide_eq_true_eq]; omega
theorem ltC_f {a b : C} : ltC a b = false ↔ ¬ (a.s < b.s ∨ a.s = b.s ∧ (a.r < b.r ∨ a.r = b.r ∧ a.c < b.c)) := by
  rw [← ltC_iff]; simp
theorem C_ext {a b : C} (h1 : a.s = b.s) (h2 : a.c = b.c) (h3 : a.r = b.r) : a = b := by
  cases a; cases b; simp_all
def cmpC (x y : C) : Int := if ltC x y = true then -1 else if ltC y x = true then 1 else 0
theorem cmpC_cases (x y : C) : (cmpC x y = -1 ∧ ltC x y = true) ∨ (cmpC x y = 1 ∧ ltC y x = true) ∨ (cmpC x y = 0 ∧ x = y) := by
  unfold cmpC
  split
  · exact .inl ⟨rfl, by assumption⟩
  · split
    · exact .inr (.inl ⟨rfl, by assumption⟩)
    · rename_i h1 h2
      rw [ltC_iff] at h1 h2
      exact .inr (.inr ⟨rfl, C_ext (by omega) (by omega) (by omega)⟩)
theorem cmpC_anti (x y : C) : cmpC x y < 0 ↔ 0 < cmpC y x := by
  have h1 := cmpC_cases x y
  have h2 := cmpC_cases y x
  simp only [ltC_iff] at h1 h2
  rcases h1 with ⟨h1, h1'⟩ | ⟨h1, h1'⟩ | ⟨h1, rfl⟩ <;> rcases h2 with ⟨h2, h2'⟩ | ⟨h2, h2'⟩ | ⟨h2, h2'⟩
  all_goals first | (subst h2'; omega) | omega
theorem cmpC_le {x y : C} : cmpC x y ≤ 0 ↔ ¬ ltC y x = true := by
  have h1 := cmpC_cases x y
  simp only [ltC_iff] at h1 ⊢
  rcases h1 with ⟨h1, h1'⟩ | ⟨h1, h1'⟩ | ⟨h1, rfl⟩ <;> omega
theorem cmpC_trans (x y z : C) (h1 : cmpC x y ≤ 0) (h2 : cmpC y z ≤ 0) : cmpC x z ≤ 0 := by
  rw [cmpC_le, ltC_iff] at *
  omega
theorem cmpC_eq {x y : C} (h1 : cmpC x y ≤ 0) (h2 : cmpC y x ≤ 0) : x = y := by
  rw [cmpC_le, ltC_iff] at *
  exact C_ext (by omega) (by omega) (by omega)
theorem cmpC_self (x : C) : cmpC x x = 0 := by
  have := cmpC_cases x x
  simp only [ltC_iff] at this
  omega
/-! ### products -/
def lexC : List C → List C → Int
  | x :: a, y :: b => if ltC x y = true then -1 else if ltC y x = true then 1 else lexC a b
  | _, _ => 0
theorem lexC_cons (x y : C) (a b : List C) : lexC (x :: a) (y :: b) = if cmpC x y = 0 then lexC a b else cmpC x y := by
  rw [lexC]
  unfold cmpC
  by_cases h1 : ltC x y = true
  · simp [h1]
  · by_cases h2 : ltC y x = true <;> simp [h1, h2]
theorem lexC_anti : ∀ (a b : List C), lexC a b < 0 ↔ 0 < lexC b a
  | [], [] => by simp [lexC]
  | [], _ :: _ => by simp [lexC]
  | _ :: _, [] => by simp [lexC]
  | x :: a, y :: b => by
    rw [lexC_cons, lexC_cons]
    have h1 := cmpC_anti x y
    have h2 := cmpC_anti y x
    have ih := lexC_anti a b
    split <;> split <;> omega
theorem lexC_zero : ∀ {a b : List C}, a.length = b.length → (lexC a b = 0 ↔ a = b)
  | [], [], _ => by simp [lexC]
  | [], _ :: _, h => by simp at h
  | _ :: _, [], h => by simp at h
  | x :: a, y :: b, h => by
    rw [lexC_cons]
    have ih := lexC_zero (a := a) (b := b) (by simpa using h)
    have h1 := cmpC_cases x y
    split
    · rename_i h0
      obtain rfl : x = y := by
        rcases h1 with h1 | h1 | h1
        · omega
        · omega
        · exact h1.2
      simp [ih]
    · rename_i h0
      constructor
      · intro h; exact absurd h h0
      · intro e
        simp only [List.cons.injEq] at e
        rw [e.1, cmpC_self] at h0
        exact absurd rfl h0
theorem lexC_trans : ∀ (a b c : List C), a.length = b.length → b.length = c.length → lexC a b ≤ 0 → lexC b c ≤ 0 → lexC a c ≤ 0
  | [], [], [], _, _, _, _ => by simp [lexC]
  | x :: a, y :: b, z :: c, h1, h2, h3, h4 => by
    rw [lexC_cons] at *
    have ih := lexC_trans a b c (by simpa using h1) (by simpa using h2)
    have c1 := cmpC_cases x y
    have c2 := cmpC_cases y z
    have c3 := cmpC_cases x z
    simp only [ltC_iff] at c1 c2 c3
    rcases c1 with ⟨c1, d1⟩ | ⟨c1, d1⟩ | ⟨c1, rfl⟩
    · rcases c2 with ⟨c2, d2⟩ | ⟨c2, d2⟩ | ⟨c2, rfl⟩
      · rcases c3 with ⟨c3, d3⟩ | ⟨c3, d3⟩ | ⟨c3, rfl⟩
        · rw [if_neg (by omega)]; omega
        · omega
        · omega
      · rw [if_neg (by omega)] at h4; omega
      · rw [if_neg (by omega)]; omega
    · rw [if_neg (by omega)] at h3; omega
    · rw [if_pos c1] at h3
      rcases c2 with ⟨c2, d2⟩ | ⟨c2, d2⟩ | ⟨c2, rfl⟩
      · rw [if_neg (by omega)]; omega
      · rw [if_neg (by omega)] at h4; omega
      · rw [if_pos c2] at h4 ⊢
        exact ih h3 h4
  | [], _ :: _, _, h, _, _, _ => by simp at h
  | _ :: _, [], _, h, _, _, _ => by simp at h
  | _, [], _ :: _, _, h, _, _ => by simp at h
  | _, _ :: _, [], _, h, _, _ => by simp at h
/-- Of fewer cells first, then by the cells. -/
def lessL (a b : List C) : Int := if a.length = b.length then lexC a b else (a.length : Int) - b.length
theorem lessL_anti (a b : List C) : lessL a b < 0 ↔ 0 < lessL b a := by
  unfold lessL
  by_cases h : a.length = b.length
  · rw [if_pos h, if_pos h.symm]; exact lexC_anti a b
  · rw [if_neg h, if_neg (fun e => h e.symm)]; omega
theorem lessL_zero {a b : List C} : lessL a b = 0 ↔ a = b := by
  unfold lessL
  by_cases h : a.length = b.length
  · rw [if_pos h]; exact lexC_zero h
  · rw [if_neg h]
    constructor
    · intro e; omega
    · intro e; rw [e] at h; exact absurd rfl h
theorem lessL_trans (a b c : List C) (h1 : lessL a b ≤ 0) (h2 : lessL b c ≤ 0) : lessL a c ≤ 0 := by
  unfold lessL at *
  by_cases e1 : a.length = b.length <;> by_cases e2 : b.length = c.length
  · rw [if_pos e1] at h1; rw [if_pos e2] at h2; rw [if_pos (e1.trans e2)]; exact lexC_trans a b c e1 e2 h1 h2
  · rw [if_neg e2] at h2; rw [if_neg (by omega)]; omega
  · rw [if_neg e1] at h1; rw [if_neg (by omega)]; omega
  · rw [if_neg e1] at h1; rw [if_neg e2] at h2
    rw [if_neg (by omega)]; omega
theorem lessL_lt {a b c : List C} (h1 : lessL a b < 0) (h2 : lessL b c ≤ 0) : lessL a c < 0 := by
  have h3 := lessL_trans a b c (by omega) h2
  rcases Int.lt_or_eq_of_le h3 with h | h
  · exact h
  · have := lessL_zero.1 h
    subst this
    have := (lessL_anti a b).1 h1
    omega
theorem lessL_lt' {a b c : List C} (h1 : lessL a b ≤ 0) (h2 : lessL b c < 0) : lessL a c < 0 := by
  have h3 := lessL_trans a b c h1 (by omega)
  rcases Int.lt_or_eq_of_le h3 with h | h
  · exact h
  · have := lessL_zero.1 h
    subst this
    have := (lessL_anti b a).1 h2
    omega
theorem lessL_self (a : List C) : lessL a a = 0 := lessL_zero.2 rfl
/-- Terms, by their products. -/
def cfT (x y : T) : Int := lessL x.v y.v

/-! ### lists of terms as functions -/
def EV (φ : List C → Int) : List T → Int
  | [] => 0
  | t :: l => t.n * φ t.v + EV φ l
theorem EV_append (φ : List C → Int) : ∀ (a b : List T), EV φ (a ++ b) = EV φ a + EV φ b
  | [], b => by simp [EV]
  | t :: a, b => by simp only [List.cons_append, EV, EV_append φ a b]; omega
theorem EV_perm (φ : List C → Int) {a b : List T} (h : a.Perm b) : EV φ a = EV φ b := by
  induction h with
  | nil => rfl
  | cons x _ ih => simp only [EV, ih]
  | swap x y l => simp only [EV]; omega
  | trans _ _ h1 h2 => exact h1.trans h2
/-- In order, each product once, each term positive. -/
def StP (l : List T) : Prop := l.Pairwise (fun x y => lessL x.v y.v < 0) ∧ ∀ t ∈ l, 0 < t.n
theorem StP.tail {t : T} {l : List T} (h : StP (t :: l)) : StP l := ⟨(List.pairwise_cons.1 h.1).2, fun u hu => h.2 u (by simp [hu])⟩
theorem StP.nil : StP [] := ⟨List.Pairwise.nil, by simp⟩
def dlt (v : List C) : List C → Int := fun u => if u = v then 1 else 0
theorem EV_dlt_none {v : List C} : ∀ {l : List T}, (∀ t ∈ l, t.v ≠ v) → EV (dlt v) l = 0
  | [], _ => rfl
  | t :: l, h => by
    simp only [EV, dlt, if_neg (h t (by simp)), Int.mul_zero]
    rw [EV_dlt_none fun u hu => h u (by simp [hu])]
    rfl
theorem EV_dlt_head {t : T} {l : List T} (h : StP (t :: l)) : EV (dlt t.v) (t :: l) = t.n := by
  have : EV (dlt t.v) l = 0 := EV_dlt_none fun u hu e => by
    have := (List.pairwise_cons.1 h.1).1 u hu
    rw [e, lessL_self] at this
    omega
  simp only [EV, this]
  simp [dlt]
/-- Such lists are known by what they are as functions. -/
theorem StP.uniq : ∀ {l m : List T}, StP l → StP m → (∀ φ, EV φ l = EV φ m) → l = m
  | [], [], _, _, _ => rfl
  | [], u :: m, _, hm, h => by
    have := h (dlt u.v)
    rw [EV_dlt_head hm] at this
    have h2 := hm.2 u (by simp)
    simp only [EV] at this
    omega
  | t :: l, [], hl, _, h => by
    have := h (dlt t.v)
    rw [EV_dlt_head hl] at this
    have h2 := hl.2 t (by simp)
    simp only [EV] at this
    omega
  | t :: l, u :: m, hl, hm, h => by
    have key : ∀ {t u : T} {l m : List T}, StP (t :: l) → StP (u :: m) → (∀ φ, EV φ (t :: l) = EV φ (u :: m)) → ¬ lessL t.v u.v < 0 := by
      intro t u l m hl hm h hlt
      have h1 := h (dlt t.v)
      rw [EV_dlt_head hl, EV_dlt_none] at h1
      · have := hl.2 t (by simp); omega
      · intro w hw e
        rcases List.mem_cons.1 hw with rfl | hw
        · rw [e, lessL_self] at hlt; omega
        · have h3 := (List.pairwise_cons.1 hm.1).1 w hw
          rw [e] at h3
          have h4 := (lessL_anti _ _).1 h3
          omega
    have h1 := key hl hm h
    have h2 := key hm hl (fun φ => (h φ).symm)
    have hv : t.v = u.v := by
      refine lessL_zero.1 ?_
      have := (lessL_anti u.v t.v)
      omega
    have hn : t.n = u.n := by
      have := h (dlt t.v)
      rw [EV_dlt_head hl] at this
      rw [hv, EV_dlt_head hm] at this
      exact this
    have htu : t = u := by cases t; cases u; simp_all
    subst htu
    congr 1
    exact StP.uniq hl.tail hm.tail fun φ => by have := h φ; simp only [EV] at this; omega

/-! ### terms put together -/
def colS (out : List T) (t : T) : List T :=
  if t.n = 0 then out else match out.getLast? with
    | none => [t]
    | some u => if lessL u.v t.v = 0 then out.dropLast ++ [⟨u.n + t.n, u.v⟩] else out ++ [t]
def sumN : List T → Int
  | [] => 0
  | t :: l => t.n + sumN l
theorem sumN_append : ∀ (a b : List T), sumN (a ++ b) = sumN a + sumN b
  | [], b => by simp [sumN]
  | t :: a, b => by simp only [List.cons_append, sumN, sumN_append a b]; omega
theorem sumN_nonneg : ∀ {l : List T}, (∀ t ∈ l, 0 ≤ t.n) → 0 ≤ sumN l
  | [], _ => by simp [sumN]
  | t :: l, h => by
    have h1 := h t (by simp)
    have h2 := sumN_nonneg (l := l) fun u hu => h u (by simp [hu])
    simp only [sumN]; omega
theorem sumN_le {l : List T} (h : ∀ t ∈ l, 0 ≤ t.n) {t : T} (ht : t ∈ l) : t.n ≤ sumN l := by
  obtain ⟨a, b, rfl⟩ := List.append_of_mem ht
  rw [sumN_append]
  have h1 := sumN_nonneg (l := a) fun u hu => h u (by simp [hu])
  have h2 := sumN_nonneg (l := b) fun u hu => h u (by simp [hu])
  simp only [sumN]; omega
/-- On the way: what is put together is in order, and all that comes is not ahead of it. -/
structure ColI (l0 out l : List T) : Prop where
  st : StP out
  le : ∀ u ∈ out, ∀ t ∈ l, lessL u.v t.v ≤ 0
  so : l.Pairwise (fun x y => lessL x.v y.v ≤ 0)
  pos : ∀ t ∈ l, 0 ≤ t.n
  ev : ∀ φ, EV φ out + EV φ l = EV φ l0
  sub : ∀ u ∈ out, ∃ t ∈ l0, t.v = u.v
  len : out.length + l.length ≤ l0.length
  mem : ∀ t ∈ l, t ∈ l0
  sum : sumN out + sumN l = sumN l0
theorem ColI.start {l : List T} (so : l.Pairwise (fun x y => lessL x.v y.v ≤ 0)) (pos : ∀ t ∈ l, 0 ≤ t.n) : ColI l [] l :=
  ⟨StP.nil, by simp, so, pos, fun φ => by simp [EV], by simp, by simp, fun _ h => h, by simp [sumN]⟩
theorem ColI.step {l0 out l : List T} {t : T} (h : ColI l0 out (t :: l)) : ColI l0 (colS out t) l := by
  obtain ⟨st, le, so, pos, ev, sub, len, mem, sum⟩ := h
  have hso := List.pairwise_cons.1 so
  have hpos : ∀ u ∈ l, 0 ≤ u.n := fun u hu => pos u (by simp [hu])
  have hp := pos t (by simp)
  have hmem : ∀ u ∈ l, u ∈ l0 := fun u hu => mem u (by simp [hu])
  simp only [List.length_cons] at len
  simp only [EV] at ev
  simp only [sumN] at sum
  have base : ColI l0 (if t.n = 0 then out else out ++ [t]) l ∨ t.n ≠ 0 := by
    by_cases h0 : t.n = 0
    · rw [if_pos h0]
      exact .inl ⟨st, fun u hu w hw => le u hu w (by simp [hw]), hso.2, hpos, fun φ => by have := ev φ; rw [h0] at this; simpa using this, sub, by omega, hmem, by omega⟩
    · exact .inr h0
  unfold colS
  by_cases h0 : t.n = 0
  · rw [if_pos h0]
    rcases base with b | b
    · rw [if_pos h0] at b; exact b
    · exact absurd h0 b
  rw [if_neg h0]
  have app : (∀ u ∈ out, lessL u.v t.v < 0) → ColI l0 (out ++ [t]) l := fun hlt =>
    ⟨⟨List.pairwise_append.2 ⟨st.1, List.pairwise_singleton _ _, fun u hu w hw => by rw [List.mem_singleton.1 hw]; exact hlt u hu⟩, fun u hu => by
        rcases List.mem_append.1 hu with hu | hu
        · exact st.2 u hu
        · obtain rfl : u = t := by simpa using hu
          omega⟩,
      fun u hu w hw => by
        rcases List.mem_append.1 hu with hu | hu
        · exact le u hu w (by simp [hw])
        · obtain rfl : u = t := by simpa using hu
          exact hso.1 w hw, hso.2, hpos, fun φ => by have := ev φ; rw [EV_append]; simp only [EV]; omega,
      fun u hu => by
        rcases List.mem_append.1 hu with hu | hu
        · exact sub u hu
        · obtain rfl : u = t := by simpa using hu
          exact ⟨u, mem u (by simp), rfl⟩, by simp; omega, hmem, by rw [sumN_append]; simp only [sumN]; omega⟩
  rcases List.eq_nil_or_concat out with rfl | ⟨o, u, rfl⟩
  · exact app (by simp)
  · have e1 : (o ++ [u]).getLast? = some u := by simp
    have e2 : (o ++ [u]).dropLast = o := by simp
    simp only [List.concat_eq_append, e1, e2] at *
    by_cases hz : lessL u.v t.v = 0
    · rw [if_pos hz]
      have huv := lessL_zero.1 hz
      have hst := List.pairwise_append.1 st.1
      have hun := st.2 u (by simp)
      refine ⟨⟨List.pairwise_append.2 ⟨hst.1, List.pairwise_singleton _ _, fun x hx w hw => ?_⟩, fun x hx => ?_⟩, fun x hx w hw => ?_, hso.2, hpos, fun φ => ?_, fun x hx => ?_, ?_, hmem, ?_⟩
      · obtain rfl : w = ⟨u.n + t.n, u.v⟩ := by simpa using hw
        exact hst.2.2 x hx u (by simp)
      · rcases List.mem_append.1 hx with hx | hx
        · exact st.2 x (by simp [hx])
        · obtain rfl : x = ⟨u.n + t.n, u.v⟩ := by simpa using hx
          simp only; omega
      · rcases List.mem_append.1 hx with hx | hx
        · exact le x (by simp [hx]) w (by simp [hw])
        · obtain rfl : x = ⟨u.n + t.n, u.v⟩ := by simpa using hx
          exact le u (by simp) w (by simp [hw])
      · have := ev φ
        rw [EV_append] at this ⊢
        simp only [EV, ← huv] at this ⊢
        rw [Int.add_mul]
        omega
      · rcases List.mem_append.1 hx with hx | hx
        · exact sub x (by simp [hx])
        · obtain rfl : x = ⟨u.n + t.n, u.v⟩ := by simpa using hx
          exact sub u (by simp)
      · simp at len ⊢; omega
      · rw [sumN_append] at sum ⊢
        simp only [sumN] at sum ⊢
        omega
    · rw [if_neg hz]
      have hlast : lessL u.v t.v < 0 := by
        have := le u (by simp) t (by simp)
        omega
      refine app fun x hx => ?_
      rcases List.mem_append.1 hx with hx | hx
      · exact lessL_lt ((List.pairwise_append.1 st.1).2.2 x hx u (by simp)) (by omega)
      · obtain rfl : x = u := by simpa using hx
        exact hlast
/-- Not too many, nor too long, nor too often. -/
def fine (r : List T) : Prop := r.length ≤ 32 ∧ ∀ t ∈ r, t.v.length ≤ 4 ∧ t.n ≤ 1000000
instance (r : List T) : Decidable (fine r) := by unfold fine; exact inferInstance
/-- What is left of a list of terms. -/
def NormOf (l : List T) (res : List T × Bool) : Prop :=
  ∃ r, StP r ∧ (∀ φ, EV φ r = EV φ l) ∧ (∀ u ∈ r, ∃ t ∈ l, t.v = u.v) ∧ r.length ≤ l.length ∧ res = if fine r then (r, true) else ([], false)
theorem NormOf.same {l m : List T} {a b : List T × Bool} (h : NormOf l a) (k : NormOf m b) (e : ∀ φ, EV φ l = EV φ m) : a = b := by
  obtain ⟨r, h1, h2, _, _, h3⟩ := h
  obtain ⟨q, k1, k2, _, _, k3⟩ := k
  have : r = q := h1.uniq k1 fun φ => (h2 φ).trans ((e φ).trans (k2 φ).symm)
  subst this
  rw [h3, k3]
theorem NormOf.ok {l : List T} {a : List T × Bool} (h : NormOf l a) (ha : a.2 = true) : StP a.1 ∧ fine a.1 ∧ (∀ φ, EV φ a.1 = EV φ l) ∧ (∀ u ∈ a.1, ∃ t ∈ l, t.v = u.v) ∧ a.1.length ≤ l.length := by
  obtain ⟨r, h1, h2, h4, h5, h3⟩ := h
  by_cases hf : fine r
  · rw [if_pos hf] at h3
    subst h3
    exact ⟨h1, hf, h2, h4, h5⟩
  · rw [if_neg hf] at h3
    subst h3
    cases ha
theorem NormOf.not {l : List T} {a : List T × Bool} (h : NormOf l a) (ha : a.2 = false) : a.1 = [] := by
  obtain ⟨r, h1, h2, h4, h5, h3⟩ := h
  by_cases hf : fine r
  · rw [if_pos hf] at h3
    subst h3
    cases ha
  · rw [if_neg hf] at h3
    subst h3
    rfl
/-- What is in that form stays. -/
theorem NormOf.stay {l : List T} {a : List T × Bool} (h : NormOf l a) {p : List T} (h1 : StP p) (h2 : fine p) (e : ∀ φ, EV φ l = EV φ p) : a = (p, true) := by
  obtain ⟨r, k1, k2, _, _, k3⟩ := h
  have : r = p := k1.uniq h1 fun φ => (k2 φ).trans (e φ)
  subst this
  rw [k3, if_pos h2]
end Go.Sp
