/- Joined texts. -/
import Derived.Lib.ItoaNum
import Derived.Laws.Bits64b
import Derived.Laws.MathBits
import Derived.Test.YtcecjdnkcbfhlaaGreatDoorQL0
import Derived.Test.YtcecjdnkcbfhlaaGreatDoorQS0
import Derived.Test.YtcecjdnkcbfhlaaGreatDoorQU0
set_option linter.unusedSimpArgs false
set_option linter.unusedVariables false
set_option linter.unusedSectionVars false
section
namespace Go.Sp
open Go.Stp Go.ValP
def ltC (a b : C) : Bool := if a.s ≠ b.s then decide (a.s < b.s) else if a.r ≠ b.r then decide (a.r < b.r) else decide (a.c < b.c)
theorem ltC_iff {a b : C} : ltC a b = true ↔ a.s < b.s ∨ a.s = b.s ∧ (a.r < b.r ∨ a.r = b.r ∧ a.c < b.c) := by
 unfold ltC
 split
 · rw [decide_eq_true_eq]; omega
 · split
   · rw [decide_eq_true_eq]; omega
   · rw [decide_eq_true_eq]; omega
theorem C_ext {a b : C} (h1 : a.s = b.s) (h2 : a.c = b.c) (h3 : a.r = b.r) : a = b := by
 cases a; cases b; simp_all
def cmpC (x y : C) : Int := if ltC x y = true then -1 else if ltC y x = true then 1 else 0
theorem cmpC_cases (x y : C) : (cmpC x y = -1 ∧ ltC x y = true) ∨ (cmpC x y = 1 ∧ ltC y x = true) ∨ (cmpC x y = 0 ∧ x = y) := by
 unfold cmpC
 split
 · exact .inl ⟨rfl, by assumption⟩
 · split
   · exact .inr (.inl ⟨rfl, by assumption⟩)
   · rename_i h1 h2
     rw [ltC_iff] at h1 h2
     exact .inr (.inr ⟨rfl, C_ext (by omega) (by omega) (by omega)⟩)
theorem cmpC_anti (x y : C) : cmpC x y < 0 ↔ 0 < cmpC y x := by
 have h1 := cmpC_cases x y
 have h2 := cmpC_cases y x
 simp only [ltC_iff] at h1 h2
 rcases h1 with ⟨h1, h1'⟩ | ⟨h1, h1'⟩ | ⟨h1, rfl⟩ <;> rcases h2 with ⟨h2, h2'⟩ | ⟨h2, h2'⟩ | ⟨h2, h2'⟩
 all_goals first | (subst h2'; omega) | omega
theorem cmpC_le {x y : C} : cmpC x y ≤ 0 ↔ ¬ ltC y x = true := by
 have h1 := cmpC_cases x y
 simp only [ltC_iff] at h1 ⊢
 rcases h1 with ⟨h1, h1'⟩ | ⟨h1, h1'⟩ | ⟨h1, rfl⟩ <;> omega
theorem cmpC_trans (x y z : C) (h1 : cmpC x y ≤ 0) (h2 : cmpC y z ≤ 0) : cmpC x z ≤ 0 := by
 rw [cmpC_le, ltC_iff] at *
 omega
theorem cmpC_eq {x y : C} (h1 : cmpC x y ≤ 0) (h2 : cmpC y x ≤ 0) : x = y := by
 rw [cmpC_le, ltC_iff] at *
 exact C_ext (by omega) (by omega) (by omega)
theorem cmpC_self (x : C) : cmpC x x = 0 := by
 have := cmpC_cases x x
 simp only [ltC_iff] at this
 omega
def lexC : List C → List C → Int
 | x :: a, y :: b => if ltC x y = true then -1 else if ltC y x = true then 1 else lexC a b
 | _, _ => 0
theorem lexC_cons (x y : C) (a b : List C) : lexC (x :: a) (y :: b) = if cmpC x y = 0 then lexC a b else cmpC x y := by
 rw [lexC]
 unfold cmpC
 by_cases h1 : ltC x y = true
 · simp [h1]
 · by_cases h2 : ltC y x = true <;> simp [h1, h2]
theorem lexC_anti : ∀ (a b : List C), lexC a b < 0 ↔ 0 < lexC b a
 | [], [] => by simp [lexC]
 | [], _ :: _ => by simp [lexC]
 | _ :: _, [] => by simp [lexC]
 | x :: a, y :: b => by
  rw [lexC_cons, lexC_cons]
  have h1 := cmpC_anti x y
  have h2 := cmpC_anti y x
  have ih := lexC_anti a b
  split <;> split <;> omega
theorem lexC_zero : ∀ {a b : List C}, a.length = b.length → (lexC a b = 0 ↔ a = b)
 | [], [], _ => by simp [lexC]
 | [], _ :: _, h => by simp at h
 | _ :: _, [], h => by simp at h
 | x :: a, y :: b, h => by
  rw [lexC_cons]
  have ih := lexC_zero (a := a) (b := b) (by simpa using h)
  have h1 := cmpC_cases x y
  split
  · rename_i h0
    obtain rfl : x = y := by
     rcases h1 with h1 | h1 | h1
     · omega
     · omega
     · exact h1.2
    simp [ih]
  · rename_i h0
    constructor
    · intro h; exact absurd h h0
    · intro e
      simp only [List.cons.injEq] at e
      rw [e.1, cmpC_self] at h0
      exact absurd rfl h0
theorem lexC_trans : ∀ (a b c : List C), a.length = b.length → b.length = c.length → lexC a b ≤ 0 → lexC b c ≤ 0 → lexC a c ≤ 0
 | [], [], [], _, _, _, _ => by simp [lexC]
 | x :: a, y :: b, z :: c, h1, h2, h3, h4 => by
  rw [lexC_cons] at *
  have ih := lexC_trans a b c (by simpa using h1) (by simpa using h2)
  have c1 := cmpC_cases x y
  have c2 := cmpC_cases y z
  have c3 := cmpC_cases x z
  simp only [ltC_iff] at c1 c2 c3
  rcases c1 with ⟨c1, d1⟩ | ⟨c1, d1⟩ | ⟨c1, rfl⟩
  · rcases c2 with ⟨c2, d2⟩ | ⟨c2, d2⟩ | ⟨c2, rfl⟩
    · rcases c3 with ⟨c3, d3⟩ | ⟨c3, d3⟩ | ⟨c3, rfl⟩
      · rw [if_neg (by omega)]; omega
      · omega
      · omega
    · rw [if_neg (by omega)] at h4; omega
    · rw [if_neg (by omega)]; omega
  · rw [if_neg (by omega)] at h3; omega
  · rw [if_pos c1] at h3
    rcases c2 with ⟨c2, d2⟩ | ⟨c2, d2⟩ | ⟨c2, rfl⟩
    · rw [if_neg (by omega)]; omega
    · rw [if_neg (by omega)] at h4; omega
    · rw [if_pos c2] at h4 ⊢
      exact ih h3 h4
 | [], _ :: _, _, h, _, _, _ => by simp at h
 | _ :: _, [], _, h, _, _, _ => by simp at h
 | _, [], _ :: _, _, h, _, _ => by simp at h
 | _, _ :: _, [], _, h, _, _ => by simp at h
def lessL (a b : List C) : Int := if a.length = b.length then lexC a b else (a.length : Int) - b.length
theorem lessL_anti (a b : List C) : lessL a b < 0 ↔ 0 < lessL b a := by
 unfold lessL
 by_cases h : a.length = b.length
 · rw [if_pos h, if_pos h.symm]; exact lexC_anti a b
 · rw [if_neg h, if_neg (fun e => h e.symm)]; omega
theorem lessL_zero {a b : List C} : lessL a b = 0 ↔ a = b := by
 unfold lessL
 by_cases h : a.length = b.length
 · rw [if_pos h]; exact lexC_zero h
 · rw [if_neg h]
   constructor
   · intro e; omega
   · intro e; rw [e] at h; exact absurd rfl h
theorem lessL_trans (a b c : List C) (h1 : lessL a b ≤ 0) (h2 : lessL b c ≤ 0) : lessL a c ≤ 0 := by
 unfold lessL at *
 by_cases e1 : a.length = b.length <;> by_cases e2 : b.length = c.length
 · rw [if_pos e1] at h1; rw [if_pos e2] at h2; rw [if_pos (e1.trans e2)]; exact lexC_trans a b c e1 e2 h1 h2
 · rw [if_neg e2] at h2; rw [if_neg (by omega)]; omega
 · rw [if_neg e1] at h1; rw [if_neg (by omega)]; omega
 · rw [if_neg e1] at h1; rw [if_neg e2] at h2
   rw [if_neg (by omega)]; omega
theorem lessL_lt {a b c : List C} (h1 : lessL a b < 0) (h2 : lessL b c ≤ 0) : lessL a c < 0 := by
 have h3 := lessL_trans a b c (by omega) h2
 rcases Int.lt_or_eq_of_le h3 with h | h
 · exact h
 · have := lessL_zero.1 h
   subst this
   have := (lessL_anti a b).1 h1
   omega
theorem lessL_self (a : List C) : lessL a a = 0 := lessL_zero.2 rfl
def cfT (x y : T) : Int := lessL x.v y.v
def EV (φ : List C → Int) : List T → Int
 | [] => 0
 | t :: l => t.n * φ t.v + EV φ l
theorem EV_append (φ : List C → Int) : ∀ (a b : List T), EV φ (a ++ b) = EV φ a + EV φ b
 | [], b => by simp [EV]
 | t :: a, b => by simp only [List.cons_append, EV, EV_append φ a b]; omega
theorem EV_perm (φ : List C → Int) {a b : List T} (h : a.Perm b) : EV φ a = EV φ b := by
 induction h with
 | nil => rfl
 | cons x _ ih => simp only [EV, ih]
 | swap x y l => simp only [EV]; omega
 | trans _ _ h1 h2 => exact h1.trans h2
def StP (l : List T) : Prop := l.Pairwise (fun x y => lessL x.v y.v < 0) ∧ ∀ t ∈ l, 0 < t.n
theorem StP.tail {t : T} {l : List T} (h : StP (t :: l)) : StP l := ⟨(List.pairwise_cons.1 h.1).2, fun u hu => h.2 u (by simp [hu])⟩
theorem StP.nil : StP [] := ⟨List.Pairwise.nil, by simp⟩
def dlt (v : List C) : List C → Int := fun u => if u = v then 1 else 0
theorem EV_dlt_none {v : List C} : ∀ {l : List T}, (∀ t ∈ l, t.v ≠ v) → EV (dlt v) l = 0
 | [], _ => rfl
 | t :: l, h => by
  simp only [EV, dlt, if_neg (h t (by simp)), Int.mul_zero]
  rw [EV_dlt_none fun u hu => h u (by simp [hu])]
  rfl
theorem EV_dlt_head {t : T} {l : List T} (h : StP (t :: l)) : EV (dlt t.v) (t :: l) = t.n := by
 have : EV (dlt t.v) l = 0 := EV_dlt_none fun u hu e => by
  have := (List.pairwise_cons.1 h.1).1 u hu
  rw [e, lessL_self] at this
  omega
 simp only [EV, this]
 simp [dlt]
theorem StP.uniq : ∀ {l m : List T}, StP l → StP m → (∀ φ, EV φ l = EV φ m) → l = m
 | [], [], _, _, _ => rfl
 | [], u :: m, _, hm, h => by
  have := h (dlt u.v)
  rw [EV_dlt_head hm] at this
  have h2 := hm.2 u (by simp)
  simp only [EV] at this
  omega
 | t :: l, [], hl, _, h => by
  have := h (dlt t.v)
  rw [EV_dlt_head hl] at this
  have h2 := hl.2 t (by simp)
  simp only [EV] at this
  omega
 | t :: l, u :: m, hl, hm, h => by
  have key : ∀ {t u : T} {l m : List T}, StP (t :: l) → StP (u :: m) → (∀ φ, EV φ (t :: l) = EV φ (u :: m)) → ¬ lessL t.v u.v < 0 := by
   intro t u l m hl hm h hlt
   have h1 := h (dlt t.v)
   rw [EV_dlt_head hl, EV_dlt_none] at h1
   · have := hl.2 t (by simp); omega
   · intro w hw e
     rcases List.mem_cons.1 hw with rfl | hw
     · rw [e, lessL_self] at hlt; omega
     · have h3 := (List.pairwise_cons.1 hm.1).1 w hw
       rw [e] at h3
       have h4 := (lessL_anti _ _).1 h3
       omega
  have h1 := key hl hm h
  have h2 := key hm hl (fun φ => (h φ).symm)
  have hv : t.v = u.v := by
   refine lessL_zero.1 ?_
   have := (lessL_anti u.v t.v)
   omega
  have hn : t.n = u.n := by
   have := h (dlt t.v)
   rw [EV_dlt_head hl] at this
   rw [hv, EV_dlt_head hm] at this
   exact this
  have htu : t = u := by cases t; cases u; simp_all
  subst htu
  congr 1
  exact StP.uniq hl.tail hm.tail fun φ => by have := h φ; simp only [EV] at this; omega
def colS (out : List T) (t : T) : List T :=
 if t.n = 0 then out else match out.getLast? with
  | none => [t]
  | some u => if lessL u.v t.v = 0 then out.dropLast ++ [⟨u.n + t.n, u.v⟩] else out ++ [t]
def sumN : List T → Int
 | [] => 0
 | t :: l => t.n + sumN l
theorem sumN_append : ∀ (a b : List T), sumN (a ++ b) = sumN a + sumN b
 | [], b => by simp [sumN]
 | t :: a, b => by simp only [List.cons_append, sumN, sumN_append a b]; omega
theorem sumN_nonneg : ∀ {l : List T}, (∀ t ∈ l, 0 ≤ t.n) → 0 ≤ sumN l
 | [], _ => by simp [sumN]
 | t :: l, h => by
  have h1 := h t (by simp)
  have h2 := sumN_nonneg (l := l) fun u hu => h u (by simp [hu])
  simp only [sumN]; omega
theorem sumN_le {l : List T} (h : ∀ t ∈ l, 0 ≤ t.n) {t : T} (ht : t ∈ l) : t.n ≤ sumN l := by
 obtain ⟨a, b, rfl⟩ := List.append_of_mem ht
 rw [sumN_append]
 have h1 := sumN_nonneg (l := a) fun u hu => h u (by simp [hu])
 have h2 := sumN_nonneg (l := b) fun u hu => h u (by simp [hu])
 simp only [sumN]; omega
structure ColI (l0 out l : List T) : Prop where
 st : StP out
 le : ∀ u ∈ out, ∀ t ∈ l, lessL u.v t.v ≤ 0
 so : l.Pairwise (fun x y => lessL x.v y.v ≤ 0)
 pos : ∀ t ∈ l, 0 ≤ t.n
 ev : ∀ φ, EV φ out + EV φ l = EV φ l0
 sub : ∀ u ∈ out, ∃ t ∈ l0, t.v = u.v
 len : out.length + l.length ≤ l0.length
 mem : ∀ t ∈ l, t ∈ l0
 sum : sumN out + sumN l = sumN l0
theorem ColI.start {l : List T} (so : l.Pairwise (fun x y => lessL x.v y.v ≤ 0)) (pos : ∀ t ∈ l, 0 ≤ t.n) : ColI l [] l :=
 ⟨StP.nil, by simp, so, pos, fun φ => by simp [EV], by simp, by simp, fun _ h => h, by simp [sumN]⟩
theorem ColI.step {l0 out l : List T} {t : T} (h : ColI l0 out (t :: l)) : ColI l0 (colS out t) l := by
 obtain ⟨st, le, so, pos, ev, sub, len, mem, sum⟩ := h
 have hso := List.pairwise_cons.1 so
 have hpos : ∀ u ∈ l, 0 ≤ u.n := fun u hu => pos u (by simp [hu])
 have hp := pos t (by simp)
 have hmem : ∀ u ∈ l, u ∈ l0 := fun u hu => mem u (by simp [hu])
 simp only [List.length_cons] at len
 simp only [EV] at ev
 simp only [sumN] at sum
 have base : ColI l0 (if t.n = 0 then out else out ++ [t]) l ∨ t.n ≠ 0 := by
  by_cases h0 : t.n = 0
  · rw [if_pos h0]
    exact .inl ⟨st, fun u hu w hw => le u hu w (by simp [hw]), hso.2, hpos, fun φ => by have := ev φ; rw [h0] at this; simpa using this, sub, by omega, hmem, by omega⟩
  · exact .inr h0
 unfold colS
 by_cases h0 : t.n = 0
 · rw [if_pos h0]
   rcases base with b | b
   · rw [if_pos h0] at b; exact b
   · exact absurd h0 b
 rw [if_neg h0]
 have app : (∀ u ∈ out, lessL u.v t.v < 0) → ColI l0 (out ++ [t]) l := fun hlt =>
  ⟨⟨List.pairwise_append.2 ⟨st.1, List.pairwise_singleton _ _, fun u hu w hw => by rw [List.mem_singleton.1 hw]; exact hlt u hu⟩, fun u hu => by
   rcases List.mem_append.1 hu with hu | hu
   · exact st.2 u hu
   · obtain rfl : u = t := by simpa using hu
     omega⟩,
   fun u hu w hw => by
    rcases List.mem_append.1 hu with hu | hu
    · exact le u hu w (by simp [hw])
    · obtain rfl : u = t := by simpa using hu
      exact hso.1 w hw, hso.2, hpos, fun φ => by have := ev φ; rw [EV_append]; simp only [EV]; omega,
   fun u hu => by
    rcases List.mem_append.1 hu with hu | hu
    · exact sub u hu
    · obtain rfl : u = t := by simpa using hu
      exact ⟨u, mem u (by simp), rfl⟩, by simp; omega, hmem, by rw [sumN_append]; simp only [sumN]; omega⟩
 rcases List.eq_nil_or_concat out with rfl | ⟨o, u, rfl⟩
 · exact app (by simp)
 · have e1 : (o ++ [u]).getLast? = some u := by simp
   have e2 : (o ++ [u]).dropLast = o := by simp
   simp only [List.concat_eq_append, e1, e2] at *
   by_cases hz : lessL u.v t.v = 0
   · rw [if_pos hz]
     have huv := lessL_zero.1 hz
     have hst := List.pairwise_append.1 st.1
     have hun := st.2 u (by simp)
     refine ⟨⟨List.pairwise_append.2 ⟨hst.1, List.pairwise_singleton _ _, fun x hx w hw => ?_⟩, fun x hx => ?_⟩, fun x hx w hw => ?_, hso.2, hpos, fun φ => ?_, fun x hx => ?_, ?_, hmem, ?_⟩
     · obtain rfl : w = ⟨u.n + t.n, u.v⟩ := by simpa using hw
       exact hst.2.2 x hx u (by simp)
     · rcases List.mem_append.1 hx with hx | hx
       · exact st.2 x (by simp [hx])
       · obtain rfl : x = ⟨u.n + t.n, u.v⟩ := by simpa using hx
         simp only; omega
     · rcases List.mem_append.1 hx with hx | hx
       · exact le x (by simp [hx]) w (by simp [hw])
       · obtain rfl : x = ⟨u.n + t.n, u.v⟩ := by simpa using hx
         exact le u (by simp) w (by simp [hw])
     · have := ev φ
       rw [EV_append] at this ⊢
       simp only [EV, ← huv] at this ⊢
       rw [Int.add_mul]
       omega
     · rcases List.mem_append.1 hx with hx | hx
       · exact sub x (by simp [hx])
       · obtain rfl : x = ⟨u.n + t.n, u.v⟩ := by simpa using hx
         exact sub u (by simp)
     · simp at len ⊢; omega
     · rw [sumN_append] at sum ⊢
       simp only [sumN] at sum ⊢
       omega
   · rw [if_neg hz]
     have hlast : lessL u.v t.v < 0 := by
      have := le u (by simp) t (by simp)
      omega
     refine app fun x hx => ?_
     rcases List.mem_append.1 hx with hx | hx
     · exact lessL_lt ((List.pairwise_append.1 st.1).2.2 x hx u (by simp)) (by omega)
     · obtain rfl : x = u := by simpa using hx
       exact hlast
def fine (r : List T) : Prop := r.length ≤ 32 ∧ ∀ t ∈ r, t.v.length ≤ 4 ∧ t.n ≤ 1000000
instance (r : List T) : Decidable (fine r) := by unfold fine; exact inferInstance
def NormOf (l : List T) (res : List T × Bool) : Prop :=
 ∃ r, StP r ∧ (∀ φ, EV φ r = EV φ l) ∧ (∀ u ∈ r, ∃ t ∈ l, t.v = u.v) ∧ r.length ≤ l.length ∧ res = if fine r then (r, true) else ([], false)
theorem NormOf.ok {l : List T} {a : List T × Bool} (h : NormOf l a) (ha : a.2 = true) : StP a.1 ∧ fine a.1 ∧ (∀ φ, EV φ a.1 = EV φ l) ∧ (∀ u ∈ a.1, ∃ t ∈ l, t.v = u.v) ∧ a.1.length ≤ l.length := by
 obtain ⟨r, h1, h2, h4, h5, h3⟩ := h
 by_cases hf : fine r
 · rw [if_pos hf] at h3
   subst h3
   exact ⟨h1, hf, h2, h4, h5⟩
 · rw [if_neg hf] at h3
   subst h3
   cases ha
theorem NormOf.stay {l : List T} {a : List T × Bool} (h : NormOf l a) {p : List T} (h1 : StP p) (h2 : fine p) (e : ∀ φ, EV φ l = EV φ p) : a = (p, true) := by
 obtain ⟨r, k1, k2, _, _, k3⟩ := h
 have : r = p := k1.uniq h1 fun φ => (k2 φ).trans (e φ)
 subst this
 rw [k3, if_pos h2]
end Go.Sp
end
section
namespace Go.Sp
theorem BL : (∀ (p : Prop) [Decidable p], (decide p = true) = p) ∧ (∀ (p : Prop) [Decidable p], (decide p = false) ↔ ¬p) ∧ (∀ a b : Bool, ((a || b) = true) = (a = true ∨ b = true)) ∧ (∀ a b : Bool, ((a && b) = true) = (a = true ∧ b = true)) ∧ (∀ a b : Bool, ((a || b) = false) ↔ a = false ∧ b = false) ∧ (∀ a b : Bool, ((a && b) = false) ↔ a = false ∨ b = false) ∧ (∀ b : Bool, ((!b) = true) ↔ b = false) ∧ (∀ b : Bool, ((!b) = false) ↔ b = true) ∧ (∀ a b : Bool, ((!a) = b) ↔ a = !b) ∧ ((!true) = false) ∧ ((!false) = true) ∧ (∀ (α : Type) (a b : α), (a ≠ b) = ¬ (a = b)) ∧ (∀ (p : Prop) [Decidable p] [Decidable (¬ p)], decide (¬ p) = !decide p) :=
  ⟨fun p _ => decide_eq_true_eq, fun p _ => decide_eq_false_iff_not, fun a b => by cases a <;> cases b <;> simp, fun a b => by cases a <;> cases b <;> simp, fun a b => by cases a <;> cases b <;> simp, fun a b => by cases a <;> cases b <;> simp, fun b => by cases b <;> simp, fun b => by cases b <;> simp, fun a b => by cases a <;> cases b <;> simp, rfl, rfl, fun _ _ _ => rfl, fun p _ _ => decide_not⟩
theorem dT {p : Prop} [Decidable p] : (decide p = true) = p := decide_eq_true_eq
theorem dF {p : Prop} [Decidable p] : (decide p = false) ↔ ¬ p := decide_eq_false_iff_not
theorem bA (a b : Bool) : ((a && b) = true) = (a = true ∧ b = true) := Bool.and_eq_true a b
open Go.Stp
section
variable {α β σ ρ : Type}
def Ok (x : Option α) (P : α → Prop) : Prop := ∃ v, x = some v ∧ P v
theorem Ok.bv {x : α} {f : α → Option β} {P : β → Prop} (h : ∀ z, z = x → Ok (f z) P) : Ok (bindv x f) P := h x rfl
theorem Ok.ck {p : Prop} [Decidable p] {A : Option β} {P : β → Prop} (hp : p) (h : Ok A P) : Ok (chk p A) P := by
 unfold chk
 rw [if_pos hp]
 exact h
theorem Ok.ckf {p : Prop} [Decidable p] {A : Option β} {P : β → Prop} (hp : p) (h : p → Ok A P) : Ok (chk p A) P := Ok.ck hp (h hp)
theorem Ok.ob {x : Option α} {f : α → Option β} {P : β → Prop} {R : α → Prop} (h : Ok x R) (k : ∀ y, x = some y → R y → Ok (f y) P) : Ok (obind x f) P := by
 obtain ⟨y, hy, hr⟩ := h
 have := k y hy hr
 rw [hy]
 exact this
theorem Ok.os {v : α} {f : α → Option β} {P : β → Prop} (k : ∀ y, y = v → Ok (f y) P) : Ok (obind (some v) f) P := k v rfl
theorem Ok.it {b : Bool} {A B : Option β} {P : β → Prop} (h1 : b = true → Ok A P) (h2 : b = false → Ok B P) : Ok (if b = true then A else B) P := by
 cases b with
 | true => rw [if_pos rfl]; exact h1 rfl
 | false => rw [if_neg Bool.false_ne_true]; exact h2 rfl
theorem Ok.sm {v : β} {P : β → Prop} (h : P v) : Ok (some v) P := ⟨v, rfl, h⟩
theorem Ok.mono {x : Option α} {P R : α → Prop} (h : Ok x P) (k : ∀ v, P v → R v) : Ok x R := by
 obtain ⟨v, h1, h2⟩ := h
 exact ⟨v, h1, k v h2⟩
theorem Ok.lpk {B : (σ → Option ρ) → σ → Option ρ} {P : ρ → Prop} (I : σ → Prop) (μ : σ → Nat) (step : ∀ s, I s → ∀ next : σ → Option ρ, (∀ s', I s' → μ s' < μ s → Ok (next s') P) → Ok (B next s) P) : ∀ (K : Nat) (s : σ), I s → μ s < K → Ok (loopF B K s) P
 | 0, s, _, h => by omega
 | K + 1, s, hI, h => step s hI (loopF B K) fun s' hI' hm => Ok.lpk I μ step K s' hI' (by omega)
theorem Ok.lp {B : (σ → Option ρ) → σ → Option ρ} {P : ρ → Prop} (I : σ → Prop) (μ : σ → Nat) {s : σ} (h0 : I s) (hm : μ s < 1208925819614629174706176) (step : ∀ s, I s → ∀ next : σ → Option ρ, (∀ s', I s' → μ s' < μ s → Ok (next s') P) → Ok (B next s) P) : Ok (loopF B KK s) P :=
 Ok.lpk I μ step KK s h0 (by unfold KK; omega)
end
theorem wI64 {z E : Int} (e : z = IntKind.wrap .i64 E) : (-9223372036854775808 ≤ z ∧ z ≤ 9223372036854775807) ∧ (-9223372036854775808 ≤ E ∧ E ≤ 9223372036854775807 → z = E) := by
 simp [IntKind.wrap, IntKind.bits, IntKind.signed] at e
 split at e <;> omega
theorem wU64 {z E : Int} (e : z = IntKind.wrap .u64 E) : (0 ≤ z ∧ z ≤ 18446744073709551615) ∧ (0 ≤ E ∧ E ≤ 18446744073709551615 → z = E) := by
 simp [IntKind.wrap, IntKind.bits, IntKind.signed] at e
 omega
theorem tmod_bd (a : Int) {c : Int} (hc : 0 < c) : -c < a.tmod c ∧ a.tmod c < c ∧ a = c * a.tdiv c + a.tmod c ∧ (0 ≤ a → 0 ≤ a.tmod c) ∧ (a ≤ 0 → a.tmod c ≤ 0) := by
 refine ⟨?_, Int.tmod_lt_of_pos a hc, (Int.mul_tdiv_add_tmod a c).symm, fun h => Int.tmod_nonneg c h, fun h => ?_⟩
 · have := Int.lt_tmod_of_pos a hc
   omega
 · have := Int.tmod_nonneg c (show 0 ≤ -a by omega)
   rw [Int.neg_tmod] at this
   omega
theorem gel_mem {α : Type} [Inhabited α] {l : List α} {i : Int} (h : 0 ≤ i ∧ i < (l.length : Int)) : gel l i ∈ l := List.mem_of_getElem? (gel_some h)
theorem gelP {α : Type} [Inhabited α] {l : List α} {i : Int} {z : α} {P : α → Prop} (h : ∀ x ∈ l, P x) (e : z = gel l i) (hi : 0 ≤ i ∧ i < (l.length : Int)) : P z := by
 rw [e]
 exact h _ (gel_mem hi)
end Go.Sp
end
section
namespace Go.Sp
open Go.Stp Go.ValP
namespace InsT
structure Cmp (cf : T → T → Int) : Prop where
 anti : ∀ x y, cf x y < 0 ↔ 0 < cf y x
 trans : ∀ x y z, cf x y ≤ 0 → cf y z ≤ 0 → cf x z ≤ 0
theorem gel_mid {P R : List T} {x : T} {i : Int} (hi : i = P.length) : gel (P ++ x :: R) i = x := by
 subst hi
 unfold gel
 rw [List.getD_eq_getElem?_getD]
 simp
theorem swap_mid {A B : List T} {y x : T} {j : Int} (hj : j = A.length + 1) :
 ((A ++ y :: x :: B).set (Int.toNat j) (gel (A ++ y :: x :: B) (j - 1))).set (Int.toNat (j - 1)) (gel (A ++ y :: x :: B) j) = A ++ x :: y :: B := by
 have h1 : gel (A ++ y :: x :: B) (j - 1) = y := gel_mid (by omega)
 have h2 : gel (A ++ y :: x :: B) j = x := by
  have := gel_mid (P := A ++ [y]) (R := B) (x := x) (i := j) (by simp; omega)
  simpa using this
 rw [h1, h2]
 have e1 : Int.toNat j = A.length + 1 := by omega
 have e2 : Int.toNat (j - 1) = A.length := by omega
 rw [e1, e2]
 rw [List.set_append_right _ _ (by omega), List.set_append_right _ _ (by omega)]
 simp
theorem ins_ok {cmp : T → T → Option Int} {cf : T → T → Int} (K : Cmp cf) (P M R : List T) (hc : ∀ x ∈ M, ∀ y ∈ M, cmp x y = some (cf x y)) (hlen : P.length + M.length + R.length ≤ 2000) {a b : Int} (ha : a = P.length) (hb : b = P.length + M.length) :
 Ok (slices_insertionSortCmpFunc_Term (P ++ M ++ R) a b cmp) (fun r => ∃ M', r = P ++ M' ++ R ∧ M'.Perm M ∧ M'.Pairwise (fun x y => cf x y ≤ 0)) := by
 unfold slices_insertionSortCmpFunc_Term
 refine Ok.bv fun z1 e1 => ?_
 have e1' : z1 = a + 1 := (wI64 e1).2 (by omega)
 refine Ok.bv fun B hB => ?_
 subst hB
 refine Ok.lp (fun s : Int × List T => (M = [] ∧ s.2 = P ++ M ++ R ∧ b ≤ s.1) ∨ ∃ S U, s.2 = P ++ S ++ U ++ R ∧ s.1 = P.length + S.length ∧ (S ++ U).Perm M ∧ S.Pairwise (fun x y => cf x y ≤ 0)) (fun s => (b - s.1).toNat) ?_ (by simp only; omega) ?_
 · cases M with
   | nil => exact .inl ⟨rfl, rfl, by simp at hb; simp only; omega⟩
   | cons m M => exact .inr ⟨[m], M, by simp, by simp; omega, by simp, List.pairwise_singleton _ _⟩
 intro s hs next ih
 refine Ok.bv fun z2 e2 => ?_
 refine Ok.it (fun ht => ?_) fun hf => ?_
 ·
  rw [e2, decide_eq_true_eq] at ht
  obtain ⟨S, U, h1, h2, h3, h4⟩ : ∃ S U, s.2 = P ++ S ++ U ++ R ∧ s.1 = P.length + S.length ∧ (S ++ U).Perm M ∧ S.Pairwise (fun x y => cf x y ≤ 0) := by
   rcases hs with ⟨_, _, h⟩ | h
   · omega
   · exact h
  have hl := h3.length_eq
  rw [List.length_append] at hl
  obtain ⟨x, U, rfl⟩ : ∃ x U', U = x :: U' := by
   cases U with
   | nil => simp at hl; omega
   | cons x U => exact ⟨x, U, rfl⟩
  have hmem : ∀ z ∈ S ++ x :: U, z ∈ M := fun z hz => h3.mem_iff.1 hz
  refine Ok.bv fun J hJ => ?_
  have hJ' : ∀ S', S'.Perm (S ++ [x]) → S'.Pairwise (fun x y => cf x y ≤ 0) → Ok (J (P ++ S' ++ U ++ R)) (fun r => ∃ M', r = P ++ M' ++ R ∧ M'.Perm M ∧ M'.Pairwise (fun x y => cf x y ≤ 0)) := by
   intro S' p1 p2
   rw [hJ]
   have hl2 := p1.length_eq
   simp only [List.length_append, List.length_cons, List.length_nil] at hl2 hl
   refine Ok.bv fun z4 e4 => ?_
   have e4' : z4 = s.1 + 1 := (wI64 e4).2 (by omega)
   refine ih _ (.inr ⟨S', U, rfl, by simp only; omega, ?_, p2⟩) (by simp only; omega)
   refine (p1.append_right U).trans ?_
   rw [List.append_assoc]
   exact h3
  clear hJ
  refine Ok.bv fun B hB => ?_
  subst hB
  refine Ok.lp (fun t : Int × List T => ∃ S1 S2, t.2 = P ++ S1 ++ x :: S2 ++ U ++ R ∧ t.1 = P.length + S1.length ∧ S1 ++ S2 = S ∧ ∀ y ∈ S2, cf x y < 0) (fun t => (t.1 - a).toNat) ⟨S, [], by simp only [h1]; simp, by simp only; omega, by simp, by simp⟩ (by simp only; simp only [List.length_cons] at hl; omega) ?_
  rintro t ⟨S1, S2, t1, t2, t3, t4⟩ next2 ih2
  have hS : S1.length + S2.length = S.length := by rw [← t3, List.length_append]
  simp only [List.length_cons] at hl
  have hlt : t.2.length = P.length + M.length + R.length := by
   rw [t1]
   simp only [List.length_append, List.length_cons]
   omega
  refine Ok.bv fun z5 e5 => ?_
  refine Ok.ckf (fun hz => by rw [e5, decide_eq_true_eq] at hz; omega) fun c1 => ?_
  refine Ok.bv fun z6 e6 => ?_
  refine Ok.bv fun z7 e7 => ?_
  have e7' : z7 = t.1 - 1 := (wI64 e7).2 (by omega)
  refine Ok.ckf (fun hz => by rw [e5, decide_eq_true_eq] at hz; omega) fun c2 => ?_
  refine Ok.bv fun z8 e8 => ?_
  have g6 : z6 = x := by
   rw [e6, t1]
   have := gel_mid (P := P ++ S1) (R := S2 ++ U ++ R) (x := x) (i := t.1) (by simp; omega)
   simpa using this
  have fin : (S1 = [] ∨ ∃ S0 y, S1 = S0 ++ [y] ∧ 0 ≤ cf x y) → Ok (J t.2) (fun r => ∃ M', r = P ++ M' ++ R ∧ M'.Perm M ∧ M'.Pairwise (fun x y => cf x y ≤ 0)) := by
   intro hcase
   have e : t.2 = P ++ (S1 ++ x :: S2) ++ U ++ R := by rw [t1]; simp
   rw [e]
   refine hJ' _ ?_ ?_
   · rw [← t3]
     refine List.perm_middle.trans ?_
     rw [List.append_assoc]
     exact (List.perm_append_comm (l₁ := [x]) (l₂ := S1 ++ S2)).trans (by rw [List.append_assoc])
   · rw [← t3] at h4
     obtain ⟨q1, q2, q3⟩ := List.pairwise_append.1 h4
     refine List.pairwise_append.2 ⟨q1, List.pairwise_cons.2 ⟨fun y hy => by have := t4 y hy; omega, q2⟩, fun u hu v hv => ?_⟩
     rcases List.mem_cons.1 hv with rfl | hv
     · rcases hcase with rfl | ⟨S0, y, rfl, hy⟩
       · cases hu
       · have hyx : cf y v ≤ 0 := by
          by_cases h : 0 < cf y v
          · have := (K.anti v y).2 h
            omega
          · omega
         rcases List.mem_append.1 hu with hu | hu
         · exact K.trans _ _ _ ((List.pairwise_append.1 q1).2.2 u hu y (by simp)) hyx
         · obtain rfl : u = y := by simpa using hu
           exact hyx
     · exact q3 u hu v hv
  by_cases hj : a < t.1
  ·
   obtain ⟨S0, y, rfl⟩ : ∃ S0 y, S1 = S0 ++ [y] := by
    rcases List.eq_nil_or_concat S1 with rfl | ⟨S0, y, h⟩
    · simp at t2; omega
    · exact ⟨S0, y, by simpa using h⟩
   have g8 : z8 = y := by
    rw [e8, t1]
    have := gel_mid (P := P ++ S0) (R := x :: S2 ++ U ++ R) (x := y) (i := z7) (by simp at t2 ⊢; omega)
    simpa using this
   have hz5 : z5 = true := by rw [e5]; simpa using hj
   have hcm : cmp z6 z8 = some (cf x y) := by
    rw [g6, g8]
    exact hc x (hmem x (by simp)) y (hmem y (by rw [← t3]; simp))
   rw [hz5]
   simp only [if_true, hcm]
   refine Ok.os fun y9 e9 => ?_
   refine Ok.bv fun z10 e10 => ?_
   refine Ok.bv fun z11 e11 => ?_
   refine Ok.it (fun hlt2 => ?_) fun hge => ?_
   · have hxy : cf x y < 0 := by
      rw [e11, e10, e9] at hlt2
      simpa using hlt2
     refine Ok.bv fun z12 e12 => ?_
     have e12' : z12 = t.1 - 1 := (wI64 e12).2 (by omega)
     have hlen3 : t.1 < (t.2.length : Int) := by omega
     refine Ok.ck (by omega) ?_
     refine Ok.ck (by omega) ?_
     refine Ok.bv fun z13 e13 => ?_
     refine Ok.bv fun z14 e14 => ?_
     have e14' : z14 = t.1 - 1 := (wI64 e14).2 (by omega)
     refine ih2 _ ⟨S0, y :: S2, ?_, by simp at t2 ⊢; omega, by rw [← t3]; simp, fun u hu => ?_⟩ (by simp only; omega)
     · simp only
       rw [e13, e12', t1]
       have := swap_mid (A := P ++ S0) (B := S2 ++ U ++ R) (y := y) (x := x) (j := t.1) (by simp at t2 ⊢; omega)
       simpa using this
     · rcases List.mem_cons.1 hu with rfl | hu
       · exact hxy
       · exact t4 u hu
   · have hxy : 0 ≤ cf x y := by
      rw [e11, e10, e9] at hge
      simpa using hge
     exact fin (.inr ⟨S0, y, rfl, hxy⟩)
  · have hz5 : z5 = false := by rw [e5]; simpa using hj
    rw [hz5]
    simp only [Bool.false_eq_true, if_false]
    refine Ok.os fun y9 e9 => ?_
    refine Ok.bv fun z10 e10 => ?_
    refine Ok.bv fun z11 e11 => ?_
    rw [e11]
    simp only [Bool.false_and, Bool.false_eq_true, if_false]
    refine fin (.inl ?_)
    cases S1 with
    | nil => rfl
    | cons y S1 => simp at t2; omega
 ·
  rw [e2, decide_eq_false_iff_not] at hf
  refine Ok.sm ?_
  rcases hs with ⟨rfl, h, _⟩ | ⟨S, U, h1, h2, h3, h4⟩
  · exact ⟨[], by simpa using h, .refl _, List.Pairwise.nil⟩
  · have hl := h3.length_eq
    rw [List.length_append] at hl
    have : U = [] := List.eq_nil_of_length_eq_zero (by omega)
    subst this
    exact ⟨S, by simpa using h1, by simpa using h3, h4⟩
end InsT
end Go.Sp
end
section
namespace Go.Sp
open Go.Stp Go.ValP
namespace InsC
structure Cmp (cf : C → C → Int) : Prop where
 anti : ∀ x y, cf x y < 0 ↔ 0 < cf y x
 trans : ∀ x y z, cf x y ≤ 0 → cf y z ≤ 0 → cf x z ≤ 0
theorem gel_mid {P R : List C} {x : C} {i : Int} (hi : i = P.length) : gel (P ++ x :: R) i = x := by
 subst hi
 unfold gel
 rw [List.getD_eq_getElem?_getD]
 simp
theorem swap_mid {A B : List C} {y x : C} {j : Int} (hj : j = A.length + 1) :
 ((A ++ y :: x :: B).set (Int.toNat j) (gel (A ++ y :: x :: B) (j - 1))).set (Int.toNat (j - 1)) (gel (A ++ y :: x :: B) j) = A ++ x :: y :: B := by
 have h1 : gel (A ++ y :: x :: B) (j - 1) = y := gel_mid (by omega)
 have h2 : gel (A ++ y :: x :: B) j = x := by
  have := gel_mid (P := A ++ [y]) (R := B) (x := x) (i := j) (by simp; omega)
  simpa using this
 rw [h1, h2]
 have e1 : Int.toNat j = A.length + 1 := by omega
 have e2 : Int.toNat (j - 1) = A.length := by omega
 rw [e1, e2]
 rw [List.set_append_right _ _ (by omega), List.set_append_right _ _ (by omega)]
 simp
theorem ins_ok {cmp : C → C → Option Int} {cf : C → C → Int} (K : Cmp cf) (P M R : List C) (hc : ∀ x ∈ M, ∀ y ∈ M, cmp x y = some (cf x y)) (hlen : P.length + M.length + R.length ≤ 2000) {a b : Int} (ha : a = P.length) (hb : b = P.length + M.length) :
 Ok (slices_insertionSortCmpFunc_Cell (P ++ M ++ R) a b cmp) (fun r => ∃ M', r = P ++ M' ++ R ∧ M'.Perm M ∧ M'.Pairwise (fun x y => cf x y ≤ 0)) := by
 unfold slices_insertionSortCmpFunc_Cell
 refine Ok.bv fun z1 e1 => ?_
 have e1' : z1 = a + 1 := (wI64 e1).2 (by omega)
 refine Ok.bv fun B hB => ?_
 subst hB
 refine Ok.lp (fun s : Int × List C => (M = [] ∧ s.2 = P ++ M ++ R ∧ b ≤ s.1) ∨ ∃ S U, s.2 = P ++ S ++ U ++ R ∧ s.1 = P.length + S.length ∧ (S ++ U).Perm M ∧ S.Pairwise (fun x y => cf x y ≤ 0)) (fun s => (b - s.1).toNat) ?_ (by simp only; omega) ?_
 · cases M with
   | nil => exact .inl ⟨rfl, rfl, by simp at hb; simp only; omega⟩
   | cons m M => exact .inr ⟨[m], M, by simp, by simp; omega, by simp, List.pairwise_singleton _ _⟩
 intro s hs next ih
 refine Ok.bv fun z2 e2 => ?_
 refine Ok.it (fun ht => ?_) fun hf => ?_
 ·
  rw [e2, decide_eq_true_eq] at ht
  obtain ⟨S, U, h1, h2, h3, h4⟩ : ∃ S U, s.2 = P ++ S ++ U ++ R ∧ s.1 = P.length + S.length ∧ (S ++ U).Perm M ∧ S.Pairwise (fun x y => cf x y ≤ 0) := by
   rcases hs with ⟨_, _, h⟩ | h
   · omega
   · exact h
  have hl := h3.length_eq
  rw [List.length_append] at hl
  obtain ⟨x, U, rfl⟩ : ∃ x U', U = x :: U' := by
   cases U with
   | nil => simp at hl; omega
   | cons x U => exact ⟨x, U, rfl⟩
  have hmem : ∀ z ∈ S ++ x :: U, z ∈ M := fun z hz => h3.mem_iff.1 hz
  refine Ok.bv fun J hJ => ?_
  have hJ' : ∀ S', S'.Perm (S ++ [x]) → S'.Pairwise (fun x y => cf x y ≤ 0) → Ok (J (P ++ S' ++ U ++ R)) (fun r => ∃ M', r = P ++ M' ++ R ∧ M'.Perm M ∧ M'.Pairwise (fun x y => cf x y ≤ 0)) := by
   intro S' p1 p2
   rw [hJ]
   have hl2 := p1.length_eq
   simp only [List.length_append, List.length_cons, List.length_nil] at hl2 hl
   refine Ok.bv fun z4 e4 => ?_
   have e4' : z4 = s.1 + 1 := (wI64 e4).2 (by omega)
   refine ih _ (.inr ⟨S', U, rfl, by simp only; omega, ?_, p2⟩) (by simp only; omega)
   refine (p1.append_right U).trans ?_
   rw [List.append_assoc]
   exact h3
  clear hJ
  refine Ok.bv fun B hB => ?_
  subst hB
  refine Ok.lp (fun t : Int × List C => ∃ S1 S2, t.2 = P ++ S1 ++ x :: S2 ++ U ++ R ∧ t.1 = P.length + S1.length ∧ S1 ++ S2 = S ∧ ∀ y ∈ S2, cf x y < 0) (fun t => (t.1 - a).toNat) ⟨S, [], by simp only [h1]; simp, by simp only; omega, by simp, by simp⟩ (by simp only; simp only [List.length_cons] at hl; omega) ?_
  rintro t ⟨S1, S2, t1, t2, t3, t4⟩ next2 ih2
  have hS : S1.length + S2.length = S.length := by rw [← t3, List.length_append]
  simp only [List.length_cons] at hl
  have hlt : t.2.length = P.length + M.length + R.length := by
   rw [t1]
   simp only [List.length_append, List.length_cons]
   omega
  refine Ok.bv fun z5 e5 => ?_
  refine Ok.ckf (fun hz => by rw [e5, decide_eq_true_eq] at hz; omega) fun c1 => ?_
  refine Ok.bv fun z6 e6 => ?_
  refine Ok.bv fun z7 e7 => ?_
  have e7' : z7 = t.1 - 1 := (wI64 e7).2 (by omega)
  refine Ok.ckf (fun hz => by rw [e5, decide_eq_true_eq] at hz; omega) fun c2 => ?_
  refine Ok.bv fun z8 e8 => ?_
  have g6 : z6 = x := by
   rw [e6, t1]
   have := gel_mid (P := P ++ S1) (R := S2 ++ U ++ R) (x := x) (i := t.1) (by simp; omega)
   simpa using this
  have fin : (S1 = [] ∨ ∃ S0 y, S1 = S0 ++ [y] ∧ 0 ≤ cf x y) → Ok (J t.2) (fun r => ∃ M', r = P ++ M' ++ R ∧ M'.Perm M ∧ M'.Pairwise (fun x y => cf x y ≤ 0)) := by
   intro hcase
   have e : t.2 = P ++ (S1 ++ x :: S2) ++ U ++ R := by rw [t1]; simp
   rw [e]
   refine hJ' _ ?_ ?_
   · rw [← t3]
     refine List.perm_middle.trans ?_
     rw [List.append_assoc]
     exact (List.perm_append_comm (l₁ := [x]) (l₂ := S1 ++ S2)).trans (by rw [List.append_assoc])
   · rw [← t3] at h4
     obtain ⟨q1, q2, q3⟩ := List.pairwise_append.1 h4
     refine List.pairwise_append.2 ⟨q1, List.pairwise_cons.2 ⟨fun y hy => by have := t4 y hy; omega, q2⟩, fun u hu v hv => ?_⟩
     rcases List.mem_cons.1 hv with rfl | hv
     · rcases hcase with rfl | ⟨S0, y, rfl, hy⟩
       · cases hu
       · have hyx : cf y v ≤ 0 := by
          by_cases h : 0 < cf y v
          · have := (K.anti v y).2 h
            omega
          · omega
         rcases List.mem_append.1 hu with hu | hu
         · exact K.trans _ _ _ ((List.pairwise_append.1 q1).2.2 u hu y (by simp)) hyx
         · obtain rfl : u = y := by simpa using hu
           exact hyx
     · exact q3 u hu v hv
  by_cases hj : a < t.1
  ·
   obtain ⟨S0, y, rfl⟩ : ∃ S0 y, S1 = S0 ++ [y] := by
    rcases List.eq_nil_or_concat S1 with rfl | ⟨S0, y, h⟩
    · simp at t2; omega
    · exact ⟨S0, y, by simpa using h⟩
   have g8 : z8 = y := by
    rw [e8, t1]
    have := gel_mid (P := P ++ S0) (R := x :: S2 ++ U ++ R) (x := y) (i := z7) (by simp at t2 ⊢; omega)
    simpa using this
   have hz5 : z5 = true := by rw [e5]; simpa using hj
   have hcm : cmp z6 z8 = some (cf x y) := by
    rw [g6, g8]
    exact hc x (hmem x (by simp)) y (hmem y (by rw [← t3]; simp))
   rw [hz5]
   simp only [if_true, hcm]
   refine Ok.os fun y9 e9 => ?_
   refine Ok.bv fun z10 e10 => ?_
   refine Ok.bv fun z11 e11 => ?_
   refine Ok.it (fun hlt2 => ?_) fun hge => ?_
   · have hxy : cf x y < 0 := by
      rw [e11, e10, e9] at hlt2
      simpa using hlt2
     refine Ok.bv fun z12 e12 => ?_
     have e12' : z12 = t.1 - 1 := (wI64 e12).2 (by omega)
     have hlen3 : t.1 < (t.2.length : Int) := by omega
     refine Ok.ck (by omega) ?_
     refine Ok.ck (by omega) ?_
     refine Ok.bv fun z13 e13 => ?_
     refine Ok.bv fun z14 e14 => ?_
     have e14' : z14 = t.1 - 1 := (wI64 e14).2 (by omega)
     refine ih2 _ ⟨S0, y :: S2, ?_, by simp at t2 ⊢; omega, by rw [← t3]; simp, fun u hu => ?_⟩ (by simp only; omega)
     · simp only
       rw [e13, e12', t1]
       have := swap_mid (A := P ++ S0) (B := S2 ++ U ++ R) (y := y) (x := x) (j := t.1) (by simp at t2 ⊢; omega)
       simpa using this
     · rcases List.mem_cons.1 hu with rfl | hu
       · exact hxy
       · exact t4 u hu
   · have hxy : 0 ≤ cf x y := by
      rw [e11, e10, e9] at hge
      simpa using hge
     exact fin (.inr ⟨S0, y, rfl, hxy⟩)
  · have hz5 : z5 = false := by rw [e5]; simpa using hj
    rw [hz5]
    simp only [Bool.false_eq_true, if_false]
    refine Ok.os fun y9 e9 => ?_
    refine Ok.bv fun z10 e10 => ?_
    refine Ok.bv fun z11 e11 => ?_
    rw [e11]
    simp only [Bool.false_and, Bool.false_eq_true, if_false]
    refine fin (.inl ?_)
    cases S1 with
    | nil => rfl
    | cons y S1 => simp at t2; omega
 ·
  rw [e2, decide_eq_false_iff_not] at hf
  refine Ok.sm ?_
  rcases hs with ⟨rfl, h, _⟩ | ⟨S, U, h1, h2, h3, h4⟩
  · exact ⟨[], by simpa using h, .refl _, List.Pairwise.nil⟩
  · have hl := h3.length_eq
    rw [List.length_append] at hl
    have : U = [] := List.eq_nil_of_length_eq_zero (by omega)
    subst this
    exact ⟨S, by simpa using h1, by simpa using h3, h4⟩
end InsC
end Go.Sp
end
section
namespace Go.Sp
open Go.Stp Go.ValP
theorem addr_Less_tot {a b : C} : Ok (addr_Less a b) (fun r => r = ltC a b) := by
 unfold addr_Less ltC
 refine Ok.bv fun z1 e1 => Ok.it (fun h1 => ?_) fun h1 => ?_
 · refine Ok.bv fun z2 e2 => Ok.sm ?_
   have : ¬ a.s = b.s := by rw [e1] at h1; simpa using h1
   rw [if_pos this, e2]
 · have : a.s = b.s := by rw [e1] at h1; simpa using h1
   rw [if_neg (fun h => h this)]
   refine Ok.bv fun z3 e3 => Ok.it (fun h3 => ?_) fun h3 => ?_
   · refine Ok.bv fun z4 e4 => Ok.sm ?_
     have : ¬ a.r = b.r := by rw [e3] at h3; simpa using h3
     rw [if_pos this, e4]
   · refine Ok.bv fun z4 e4 => Ok.sm ?_
     have : a.r = b.r := by rw [e3] at h3; simpa using h3
     rw [if_neg (fun h => h this), e4]
theorem addr_Less_eq (a b : C) : addr_Less a b = some (ltC a b) := by
 obtain ⟨v, h, rfl⟩ := addr_Less_tot (a := a) (b := b)
 exact h
theorem drop_gel {α : Type} [Inhabited α] {l : List α} {i : Int} (h0 : 0 ≤ i) (h1 : i < (l.length : Int)) : l.drop i.toNat = gel l i :: l.drop (i + 1).toNat := by
 have e : (i + 1).toNat = i.toNat + 1 := by omega
 have hlt : i.toNat < l.length := by omega
 rw [e, List.drop_eq_getElem_cons hlt]
 congr 1
 have := gel_some (l := l) (i := i) ⟨h0, h1⟩
 rw [List.getElem?_eq_getElem hlt] at this
 exact Option.some.inj this
theorem take_gel {α : Type} [Inhabited α] {l : List α} {i : Int} (h0 : 0 ≤ i) (h1 : i < (l.length : Int)) : l.take (i + 1).toNat = l.take i.toNat ++ [gel l i] := by
 have e : (i + 1).toNat = i.toNat + 1 := by omega
 rw [e, List.take_add_one, gel_some ⟨h0, h1⟩]
 rfl
theorem poly_less_tot {a b : List C} (ha : a.length ≤ 2000) (hb : b.length ≤ 2000) : Ok (poly_less a b) (fun r => r = lessL a b) := by
 unfold poly_less lessL
 refine Ok.bv fun z1 e1 => Ok.it (fun h1 => ?_) fun h1 => ?_
 · have hne : ¬ a.length = b.length := by rw [e1] at h1; simp at h1; omega
   refine Ok.bv fun z2 e2 => Ok.sm ?_
   rw [if_neg hne]
   exact (wI64 e2).2 (by omega)
 · have he : a.length = b.length := by rw [e1] at h1; simp at h1; omega
   rw [if_pos he]
   refine Ok.bv fun J hJ => ?_
   refine Ok.bv fun B hB => ?_
   subst hB
   refine Ok.lp (fun s : Int => 0 ≤ s ∧ s ≤ a.length ∧ lexC (a.drop s.toNat) (b.drop s.toNat) = lexC a b) (fun s => (a.length - s).toNat) ⟨by omega, by omega, by simp⟩ (by omega) ?_
   rintro s ⟨s0, s1, s2⟩ next ih
   refine Ok.bv fun z3 e3 => Ok.it (fun h3 => ?_) fun h3 => ?_
   · have hlt : s < a.length := by rw [e3] at h3; simpa using h3
     rw [drop_gel s0 hlt, drop_gel s0 (by omega : s < (b.length : Int)), lexC_cons] at s2
     refine Ok.ck ⟨s0, hlt⟩ ?_
     refine Ok.bv fun x ex => ?_
     refine Ok.ck ⟨s0, by omega⟩ ?_
     refine Ok.bv fun y ey => ?_
     rw [← ex, ← ey] at s2
     have hc := cmpC_cases x y
     rw [addr_Less_eq]
     refine Ok.os fun y1 e4 => Ok.it (fun h4 => ?_) fun h4 => ?_
     · refine Ok.sm ?_
       rw [e4] at h4
       have hcm : cmpC x y = -1 := by unfold cmpC; rw [if_pos h4]
       rw [← s2, if_neg (by omega), hcm]
     · refine Ok.ck ⟨s0, by omega⟩ ?_
       refine Ok.bv fun y' ey' => ?_
       refine Ok.ck ⟨s0, hlt⟩ ?_
       refine Ok.bv fun x' ex' => ?_
       have exx : x' = x := by rw [ex', ex]
       have eyy : y' = y := by rw [ey', ey]
       subst exx eyy
       rw [addr_Less_eq]
       rw [e4] at h4
       refine Ok.os fun y2 e5 => Ok.it (fun h5 => ?_) fun h5 => ?_
       · refine Ok.sm ?_
         rw [e5] at h5
         have hcm : cmpC x' y' = 1 := by unfold cmpC; rw [if_neg (by rw [h4]; simp), if_pos h5]
         rw [← s2, if_neg (by omega), hcm]
       · refine Ok.bv fun z6 e6 => ?_
         have e6' : z6 = s + 1 := (wI64 e6).2 (by omega)
         rw [e5] at h5
         have h0 : cmpC x' y' = 0 := by
          rcases hc with hc | hc | hc
          · rw [hc.2] at h4; cases h4
          · rw [hc.2] at h5; cases h5
          · exact hc.1
         rw [if_pos h0, ← e6'] at s2
         exact ih _ ⟨by omega, by omega, s2⟩ (by omega)
   · have hge : ¬ s < a.length := by rw [e3] at h3; simpa using h3
     rw [hJ]
     refine Ok.sm ?_
     rw [← s2, List.drop_eq_nil_of_le (by omega), List.drop_eq_nil_of_le (by omega)]
     rfl
theorem poly_less_eq {a b : List C} (ha : a.length ≤ 2000) (hb : b.length ≤ 2000) : poly_less a b = some (lessL a b) := by
 obtain ⟨v, h, rfl⟩ := poly_less_tot ha hb
 exact h
theorem norm1_eq {x y : T} (ha : x.v.length ≤ 2000) (hb : y.v.length ≤ 2000) : poly_norm_1 x y = some (cfT x y) := by
 unfold poly_norm_1
 rw [poly_less_eq ha hb]
 rfl
theorem mul1_eq (x y : C) : poly_Mul_1 x y = some (cmpC x y) := by
 unfold poly_Mul_1 cmpC
 rw [addr_Less_eq, addr_Less_eq]
 simp only [obind]
 by_cases h1 : ltC x y = true
 · simp [h1]
 · by_cases h2 : ltC y x = true <;> simp [h1, h2]
theorem cmpT : InsT.Cmp cfT := ⟨fun x y => lessL_anti x.v y.v, fun x y z => lessL_trans x.v y.v z.v⟩
theorem cmpCC : InsC.Cmp cmpC := ⟨cmpC_anti, cmpC_trans⟩
def SrtC (l : List C) : Prop := l.Pairwise (fun x y => cmpC x y ≤ 0)
theorem SrtC.uniq : ∀ {a b : List C}, SrtC a → SrtC b → a.Perm b → a = b
 | [], b, _, _, h => h.symm.eq_nil.symm ▸ rfl
 | x :: a, b, ha, hb, h => by
  cases b with
  | nil => exact h.eq_nil
  | cons y b =>
   have hxy : x = y := by
    have h1 : cmpC x y ≤ 0 := by
     rcases List.mem_cons.1 (h.mem_iff.2 (List.mem_cons_self (a := y))) with e | e
     · rw [e, cmpC_self]; omega
     · exact (List.pairwise_cons.1 ha).1 y e
    have h2 : cmpC y x ≤ 0 := by
     rcases List.mem_cons.1 (h.mem_iff.1 (List.mem_cons_self (a := x))) with e | e
     · rw [e, cmpC_self]; omega
     · exact (List.pairwise_cons.1 hb).1 x e
    exact cmpC_eq h1 h2
   subst hxy
   congr 1
   exact SrtC.uniq (List.pairwise_cons.1 ha).2 (List.pairwise_cons.1 hb).2 (h.cons_inv)
theorem sortC_tot {l : List C} (hl : l.length ≤ 12) : Ok (slices_SortFunc_Cell l poly_Mul_1) (fun r => r.Perm l ∧ SrtC r) := by
 unfold slices_SortFunc_Cell
 refine Ok.bv fun z1 e1 => ?_
 have e1' : z1 = l.length := (wU64 e1).2 (by omega)
 refine Ok.ck (by omega) ?_
 refine Ok.bv fun z2 e2 => ?_
 unfold slices_pdqsortCmpFunc_Cell
 refine Ok.ob (R := fun r => r.Perm l ∧ SrtC r) ?_ fun y _ hy => Ok.sm hy
 refine Ok.bv fun B hB => ?_
 subst hB
 refine Ok.lp (fun s : Int × Int × Int × Bool × Bool × List C => s.1 = 0 ∧ s.2.1 = l.length ∧ s.2.2.2.2.2 = l) (fun _ => 0) ⟨rfl, rfl, rfl⟩ (by omega) ?_
 rintro ⟨a, b, c, d, e, s⟩ ⟨q1, q2, q3⟩ next ih
 simp only at q1 q2 q3 ⊢
 subst q1
 subst q3
 subst q2
 refine Ok.bv fun z3 e3 => ?_
 have e3' : z3 = s.length := by have := (wI64 e3).2 (by omega); omega
 refine Ok.bv fun z4 e4 => Ok.it (fun h4 => ?_) fun h4 => ?_
 · have := InsC.ins_ok cmpCC [] s [] (cmp := poly_Mul_1) (fun x _ y _ => mul1_eq x y) (by simp; omega) (a := 0) (b := s.length) (by simp) (by simp)
   simp only [List.nil_append, List.append_nil] at this
   refine Ok.ob (this.mono ?_) fun y _ hy => Ok.sm hy
   rintro v ⟨M', rfl, h1, h2⟩
   exact ⟨h1, h2⟩
 · rw [e4] at h4
   simp at h4
   omega
theorem sortT_small {l : List T} (hl : l.length ≤ 19) (hv : ∀ t ∈ l, t.v.length ≤ 2000) : Ok (slices_SortStableFunc_Term l poly_norm_1) (fun r => r.Perm l ∧ r.Pairwise (fun x y => lessL x.v y.v ≤ 0)) := by
 unfold slices_SortStableFunc_Term slices_stableCmpFunc_Term
 refine Ok.ob (R := fun r => r.Perm l ∧ r.Pairwise (fun x y => lessL x.v y.v ≤ 0)) ?_ fun y _ hy => Ok.sm hy
 refine Ok.bv fun J hJ => ?_
 refine Ok.bv fun B hB => ?_
 subst hB
 refine Ok.lp (fun s : Int × Int × List T => s = (0, 20, l)) (fun _ => 0) rfl (by omega) ?_
 rintro s rfl next ih
 refine Ok.bv fun z1 e1 => Ok.it (fun h1 => ?_) fun h1 => ?_
 · rw [e1] at h1
   simp at h1
   omega
 rw [hJ]
 have := InsT.ins_ok cmpT [] l [] (cmp := poly_norm_1) (fun x hx y hy => norm1_eq (hv x hx) (hv y hy)) (by simp; omega) (a := 0) (b := l.length) (by simp) (by simp)
 simp only [List.nil_append, List.append_nil] at this
 refine Ok.ob (this.mono (R := fun r => r.Perm l ∧ r.Pairwise (fun x y => lessL x.v y.v ≤ 0)) ?_) fun y _ hy => ?_
 · rintro v ⟨M', rfl, h1, h2⟩
   exact ⟨h1, h2⟩
 refine Ok.bv fun B hB => ?_
 subst hB
 refine Ok.lp (fun s : Int × List T => s = (20, y)) (fun _ => 0) rfl (by omega) ?_
 rintro s rfl next ih
 refine Ok.bv fun z2 e2 => Ok.it (fun h2 => ?_) fun h2 => ?_
 · rw [e2] at h2
   simp at h2
   omega
 · exact Ok.sm hy
theorem num_Add_eq {a b : Int} (ha : 0 ≤ a) (hb : 0 ≤ b) (hs : a + b ≤ 9223372036854775807) : num_Add a b = some (a + b, true) := by
 have : Ok (num_Add a b) (fun r => r = (a + b, true)) := by
  unfold num_Add num_fits
  refine Ok.bv fun z1 e1 => ?_
  have e1' : z1 = a + b := (wI64 e1).2 (by omega)
  refine Ok.ob (R := fun r => r = true) ?_ fun y _ hy => ?_
  · refine Ok.bv fun z2 e2 => Ok.sm ?_
    rw [e2]
    simp
    omega
  · refine Ok.bv fun z2 e2 => Ok.bv fun z3 e3 => Ok.bv fun z4 e4 => Ok.bv fun z5 e5 => Ok.sm ?_
    have : z2 = z3 := by
     rw [e2, e3, e1']
     by_cases h : 0 < b
     · simp [h]; omega
     · simp [h]; omega
    rw [e5, hy, e4, this, e1']
    simp
 obtain ⟨v, h, rfl⟩ := this
 exact h
def SortsT (l : List T) : Prop := Ok (slices_SortStableFunc_Term l poly_norm_1) (fun r => r.Perm l ∧ r.Pairwise (fun x y => lessL x.v y.v ≤ 0))
theorem poly_norm_tot {l : List T} (hs : SortsT l) (hl : l.length ≤ 2000) (hv : ∀ t ∈ l, 0 ≤ t.n ∧ t.v.length ≤ 2000) (hn : sumN l ≤ 9223372036854775807) : Ok (poly_norm l) (NormOf l) := by
 unfold poly_norm
 refine Ok.ob hs fun y _ hy => ?_
 obtain ⟨hp, hso⟩ := hy
 have hpn : ∀ t ∈ y, 0 ≤ t.n ∧ t.v.length ≤ 2000 := fun t ht => hv t (hp.mem_iff.1 ht)
 have hyl := hp.length_eq
 have hsum : sumN y = sumN l := by
  have key : ∀ {a b : List T}, a.Perm b → sumN a = sumN b := by
   intro a b h
   induction h with
   | nil => rfl
   | cons x _ ih => simp only [sumN, ih]
   | swap x y l => simp only [sumN]; omega
   | trans _ _ h1 h2 => exact h1.trans h2
  exact key hp
 refine Ok.bv fun J hJ => ?_
 have hJ' : ∀ out : List T, ColI y out [] → Ok (J out) (NormOf l) := by
  intro out hc
  have hlen : out.length ≤ y.length := by have := hc.len; simpa using this
  have hnorm : ∀ res, res = (if fine out then (out, true) else ([], false)) → NormOf l res := fun res e =>
   ⟨out, hc.st, fun φ => by have := hc.ev φ; simp only [EV] at this; rw [← EV_perm φ hp]; omega, fun u hu => by
    obtain ⟨t, h1, h2⟩ := hc.sub u hu
    exact ⟨t, hp.mem_iff.1 h1, h2⟩, by omega, e⟩
  rw [hJ]
  refine Ok.bv fun z1 e1 => Ok.it (fun h1 => ?_) fun h1 => ?_
  · refine Ok.sm (hnorm _ ?_)
    rw [if_neg]
    intro hf
    have := hf.1
    rw [e1] at h1
    simp at h1
    omega
  · have h32 : out.length ≤ 32 := by rw [e1] at h1; simp at h1; omega
    refine Ok.bv fun J2 hJ2 => ?_
    refine Ok.bv fun B hB => ?_
    subst hB
    refine Ok.lp (fun s : Int => 0 ≤ s ∧ s ≤ out.length ∧ ∀ t ∈ out.take s.toNat, t.v.length ≤ 4 ∧ t.n ≤ 1000000) (fun s => (out.length - s).toNat) ⟨by omega, by omega, by simp⟩ (by omega) ?_
    rintro s ⟨s0, s1, s2⟩ next ih
    refine Ok.bv fun z2 e2 => Ok.it (fun h2 => ?_) fun h2 => ?_
    · have hlt : s < out.length := by rw [e2] at h2; simpa using h2
      refine Ok.ck ⟨s0, hlt⟩ ?_
      refine Ok.bv fun t et => ?_
      have htm : t ∈ out := by rw [et]; exact gel_mem ⟨s0, hlt⟩
      refine Ok.bv fun z3 e3 => Ok.bv fun z4 e4 => Ok.bv fun z5 e5 => Ok.it (fun h5 => ?_) fun h5 => ?_
      · refine Ok.sm (hnorm _ ?_)
        rw [if_neg]
        intro hf
        have := hf.2 t htm
        rw [e5, e3, e4] at h5
        simp at h5
        omega
      · refine Ok.bv fun z6 e6 => ?_
        have e6' : z6 = s + 1 := (wI64 e6).2 (by omega)
        refine ih _ ⟨by omega, by omega, fun u hu => ?_⟩ (by omega)
        rw [e6', take_gel s0 hlt, ← et] at hu
        rcases List.mem_append.1 hu with hu | hu
        · exact s2 u hu
        · obtain rfl : u = t := by simpa using hu
          rw [e5, e3, e4] at h5
          simp at h5
          omega
    · rw [hJ2]
      refine Ok.sm (hnorm _ ?_)
      rw [if_pos]
      have hge : ¬ s < out.length := by rw [e2] at h2; simpa using h2
      rw [List.take_of_length_le (by omega)] at s2
      exact ⟨h32, s2⟩
 clear hJ
 refine Ok.bv fun B hB => ?_
 subst hB
 refine Ok.lp (fun s : Int × List T => 0 ≤ s.1 ∧ s.1 ≤ y.length ∧ ColI y s.2 (y.drop s.1.toNat)) (fun s => (y.length - s.1).toNat) ⟨by simp, by simp, by simpa using ColI.start hso fun t ht => (hpn t ht).1⟩ (by simp only; omega) ?_
 rintro ⟨i, out⟩ ⟨s0, s1, s2⟩ next ih
 simp only at s0 s1 s2 ⊢
 refine Ok.bv fun z1 e1 => Ok.it (fun h1 => ?_) fun h1 => ?_
 · have hlt : i < y.length := by rw [e1] at h1; simpa using h1
   rw [drop_gel s0 hlt] at s2
   refine Ok.ck ⟨s0, hlt⟩ ?_
   refine Ok.bv fun t et => ?_
   rw [← et] at s2
   have htm : t ∈ y := by rw [et]; exact gel_mem ⟨s0, hlt⟩
   have ht := hpn t htm
   have hst := s2.step
   have hol : out.length ≤ y.length := by have := s2.len; omega
   have hos : ∀ u ∈ out, u.n ≤ sumN out := fun u hu => sumN_le (fun w hw => by have := s2.st.2 w hw; omega) hu
   have hrest := sumN_nonneg (l := y.drop (i + 1).toNat) fun u hu => (hpn u (List.mem_of_mem_drop hu)).1
   have hsm := s2.sum
   simp only [sumN] at hsm
   refine Ok.bv fun k ek => ?_
   have ek' : k = out.length - 1 := (wI64 ek).2 (by omega)
   refine Ok.bv fun z2 e2 => Ok.it (fun h2 => ?_) fun h2 => ?_
   · have h0 : t.n = 0 := by rw [e2] at h2; simpa using h2
     refine Ok.bv fun z3 e3 => ?_
     have e3' : z3 = i + 1 := (wI64 e3).2 (by omega)
     refine ih _ ⟨by simp only; omega, by simp only; omega, ?_⟩ (by simp only; omega)
     simp only [e3']
     unfold colS at hst
     rwa [if_pos h0] at hst
   · have h0 : ¬ t.n = 0 := by rw [e2] at h2; simpa using h2
     unfold colS at hst
     rw [if_neg h0] at hst
     refine Ok.bv fun z3 e3 => ?_
     refine Ok.ckf (fun hz => by rw [e3] at hz; simp at hz; omega) fun c1 => ?_
     refine Ok.bv fun u eu => ?_
     have hlast : out = [] ∨ out.getLast? = some u ∧ u ∈ out ∧ 0 ≤ k ∧ out.dropLast = out.take k.toNat := by
      rcases List.eq_nil_or_concat out with rfl | ⟨o, v, rfl⟩
      · exact .inl rfl
      · right
        have hk : k = o.length := by rw [ek']; simp
        have : u = v := by
         rw [eu, hk]
         unfold gel
         rw [List.getD_eq_getElem?_getD]
         simp
        subst this
        exact ⟨by simp, by simp, by omega, by simp [hk]⟩
     have hul : u.v.length ≤ 2000 ∧ (out ≠ [] → u ∈ out) := by
      rcases hlast with rfl | ⟨_, hm, _⟩
      · refine ⟨?_, fun h => absurd rfl h⟩
        have : gel ([] : List T) k = default := by
         unfold gel
         rw [List.getD_eq_getElem?_getD]
         simp
        rw [eu, this]
        exact (Nat.zero_le _ : ([] : List C).length ≤ 2000)
      · obtain ⟨w, h1, h2⟩ := s2.sub u hm
        rw [← h2]
        exact ⟨(hpn w h1).2, fun _ => hm⟩
     have hcall : Ok (if (!z3) = true then poly_less u.v t.v else some default) (fun r => z3 = false → r = lessL u.v t.v) := by
      cases z3 with
      | true => exact Ok.sm (fun h => by cases h)
      | false => exact (poly_less_tot hul.1 ht.2).mono fun v hv _ => hv
     refine Ok.ob hcall fun c _ hc => ?_
     refine Ok.bv fun z4 e4 => Ok.bv fun z5 e5 => Ok.it (fun h5 => ?_) fun h5 => ?_
     ·
      refine Ok.ck (by simp; omega) ?_
      refine Ok.bv fun o2 eo2 => ?_
      refine Ok.bv fun z6 e6 => ?_
      have e6' : z6 = i + 1 := (wI64 e6).2 (by omega)
      refine ih _ ⟨by simp only; omega, by simp only; omega, ?_⟩ (by simp only; omega)
      simp only [e6', eo2]
      rcases hlast with rfl | ⟨hl, hm, hk, _⟩
      · simpa using hst
      · rw [hl] at hst
        simp only at hst
        rw [if_neg] at hst
        · exact hst
        · have hz3 : z3 = false := by rw [e3]; simpa using hk
          rw [hz3] at e5
          have hc' := hc hz3
          rw [e5, e4, hc'] at h5
          simpa using h5
     ·
      rw [e5] at h5
      have hz3 : z3 = false := by
       cases z3 with
       | true => simp at h5
       | false => rfl
      have hc' := hc hz3
      rw [hz3, e4, hc'] at h5
      have hz : lessL u.v t.v = 0 := by simpa using h5
      have hk : 0 ≤ k := by rw [e3] at hz3; simpa using hz3
      rcases hlast with rfl | ⟨hl, hm, _, hd⟩
      · simp at ek'; omega
      rw [hl] at hst
      simp only at hst
      rw [if_pos hz] at hst
      refine Ok.ck ⟨hk, by omega⟩ ?_
      refine Ok.bv fun u2 eu2 => ?_
      have : u2 = u := by rw [eu2, eu]
      subst this
      have hun := s2.st.2 u2 hm
      have hus := hos u2 hm
      rw [num_Add_eq (by omega) (by omega) (by omega)]
      refine Ok.os fun p ep => ?_
      subst ep
      refine Ok.bv fun z6 e6 => ?_
      rw [e6]
      simp only [Bool.not_true, Bool.false_eq_true, if_false]
      refine Ok.ck ⟨hk, by omega⟩ ?_
      refine Ok.bv fun u3 eu3 => ?_
      have : u3 = u2 := by rw [eu3, eu2]
      subst this
      refine Ok.bv fun o2 eo2 => ?_
      refine Ok.bv fun z7 e7 => ?_
      have e7' : z7 = i + 1 := (wI64 e7).2 (by omega)
      refine ih _ ⟨by simp only; omega, by simp only; omega, ?_⟩ (by simp only; omega)
      simp only [e7', eo2]
      have hset : out.set k.toNat ⟨u3.n + t.n, u3.v⟩ = out.dropLast ++ [⟨u3.n + t.n, u3.v⟩] := by
       have hkl : k.toNat + 1 = out.length := by omega
       rw [hd, List.set_eq_take_append_cons_drop, if_pos (by omega), List.drop_eq_nil_of_le (by omega)]
      rw [hset]
      exact hst
 · have hge : ¬ i < y.length := by rw [e1] at h1; simpa using h1
   rw [List.drop_eq_nil_of_le (by omega)] at s2
   exact hJ' out s2
end Go.Sp
end
section
namespace Go.Sp
open Go.Stp Go.ValP
namespace Sym
variable {P Q R : List T}
theorem gel_at {L P R : List T} {x : T} {i : Int} (e : L = P ++ x :: R) (hi : i = P.length) : gel L i = x := by
 subst e
 exact InsT.gel_mid hi
theorem swap_two {L P M R : List T} {x y : T} {i j : Int} (e : L = P ++ x :: (M ++ y :: R)) (hi : i = P.length) (hj : j = P.length + M.length + 1) :
 (L.set (Int.toNat i) (gel L j)).set (Int.toNat j) (gel L i) = P ++ y :: (M ++ x :: R) := by
 have h1 : gel L i = x := gel_at e hi
 have h2 : gel L j = y := gel_at (P := P ++ x :: M) (R := R) (by rw [e]; simp) (by simp; omega)
 rw [h1, h2, e]
 have e1 : Int.toNat i = P.length := by omega
 have e2 : Int.toNat j = P.length + (M.length + 1) := by omega
 rw [e1, e2]
 rw [List.set_append_right _ _ (by omega), List.set_append_right _ _ (by omega)]
 simp
theorem swap_two' {L P M R : List T} {x y : T} {i j : Int} (e : L = P ++ x :: (M ++ y :: R)) (hi : i = P.length) (hj : j = P.length + M.length + 1) :
 (L.set (Int.toNat j) (gel L i)).set (Int.toNat i) (gel L j) = P ++ y :: (M ++ x :: R) := by
 rw [← swap_two e hi hj, List.set_comm]
 omega
theorem swapRange_ok {cmp : T → T → Option Int} {P U M V R : List T} {a b n : Int} (hl : (P ++ U ++ M ++ V ++ R).length ≤ 2000) (ha : a = P.length) (hb : b = P.length + U.length + M.length) (hu : n = U.length) (hv : V.length = U.length) :
 Ok (slices_swapRangeCmpFunc_Term (P ++ U ++ M ++ V ++ R) a b n cmp) (fun r => r = P ++ V ++ M ++ U ++ R) := by
 unfold slices_swapRangeCmpFunc_Term
 simp only [List.length_append] at hl
 refine Ok.bv fun B hB => ?_
 subst hB
 refine Ok.lp (fun s : Int × List T => 0 ≤ s.1 ∧ s.1 ≤ n ∧ s.2 = P ++ (V.take s.1.toNat ++ U.drop s.1.toNat) ++ M ++ (U.take s.1.toNat ++ V.drop s.1.toNat) ++ R) (fun s => (n - s.1).toNat) ⟨by simp, by simp only; omega, by simp⟩ (by simp only; omega) ?_
 rintro ⟨i, l⟩ ⟨s0, s1, s2⟩ next ih
 simp only at s0 s1 s2 ⊢
 have hll : l.length = P.length + U.length + M.length + V.length + R.length := by
  rw [s2]
  simp only [List.length_append, List.length_take, List.length_drop]
  omega
 refine Ok.bv fun z1 e1 => Ok.it (fun h => ?_) fun h => ?_
 · have hlt : i < n := by rw [e1] at h; simpa using h
   refine Ok.bv fun z2 e2 => Ok.bv fun z3 e3 => ?_
   have e2' : z2 = a + i := (wI64 e2).2 (by omega)
   have e3' : z3 = b + i := (wI64 e3).2 (by omega)
   refine Ok.ck (by omega) (Ok.ck (by omega) (Ok.bv fun l2 el => Ok.bv fun z4 e4 => ?_))
   have e4' : z4 = i + 1 := (wI64 e4).2 (by omega)
   have hu' : i < (U.length : Int) := by omega
   have hv' : i < (V.length : Int) := by omega
   refine ih _ ⟨by simp only; omega, by simp only; omega, ?_⟩ (by simp only; omega)
   simp only [e4', take_gel s0 hu', take_gel s0 hv']
   rw [el, e2', e3']
   rw [drop_gel s0 hu', drop_gel s0 hv'] at s2
   generalize gel U i = x at *
   generalize gel V i = y at *
   have s3 : l = (P ++ V.take i.toNat) ++ x :: ((U.drop (i + 1).toNat ++ M ++ U.take i.toNat) ++ y :: (V.drop (i + 1).toNat ++ R)) := by rw [s2]; simp
   rw [swap_two s3 (by simp; omega) (by simp; omega)]
   simp
 · have hge : ¬ i < n := by rw [e1] at h; simpa using h
   refine Ok.sm ?_
   rw [s2, List.take_of_length_le (by omega), List.take_of_length_le (by omega), List.drop_eq_nil_of_le (by omega), List.drop_eq_nil_of_le (by omega)]
   simp
theorem rotate_ok {cmp : T → T → Option Int} {P X Y R : List T} {a m b : Int} (hl : (P ++ X ++ Y ++ R).length ≤ 2000) (ha : a = P.length) (hm : m = P.length + X.length) (hb : b = P.length + X.length + Y.length) (hx : X ≠ []) (hy : Y ≠ []) :
 Ok (slices_rotateCmpFunc_Term (P ++ X ++ Y ++ R) a m b cmp) (fun r => r = P ++ Y ++ X ++ R) := by
 have hxl := List.length_pos_iff.2 hx
 have hyl := List.length_pos_iff.2 hy
 unfold slices_rotateCmpFunc_Term
 simp only [List.length_append] at hl
 refine Ok.bv fun z1 e1 => Ok.bv fun z2 e2 => Ok.bv fun J hJ => ?_
 have e1' : z1 = X.length := by have := (wI64 e1).2 (by omega); omega
 have e2' : z2 = Y.length := by have := (wI64 e2).2 (by omega); omega
 refine Ok.bv fun B hB => ?_
 subst hB
 refine Ok.lp (fun s : Int × Int × List T => ∃ P' X' Y' R' : List T, X' ≠ [] ∧ Y' ≠ [] ∧ s.1 = X'.length ∧ s.2.1 = Y'.length ∧ m = P'.length + X'.length ∧ s.2.2 = P' ++ X' ++ Y' ++ R' ∧ P' ++ Y' ++ X' ++ R' = P ++ Y ++ X ++ R ∧ s.2.2.length = P.length + X.length + Y.length + R.length) (fun s => (s.1 + s.2.1).toNat) ⟨P, X, Y, R, hx, hy, e1', e2', hm, rfl, rfl, by simp only [List.length_append]⟩ (by simp only; omega) ?_
 rintro ⟨i, j, l⟩ ⟨P', X', Y', R', q1, q2, q3, q4, q5, q6, q7, q8⟩ next ih
 simp only at q3 q4 q6 q8 ⊢
 have q1' := List.length_pos_iff.2 q1
 have q2' := List.length_pos_iff.2 q2
 have hlen : P'.length + X'.length + Y'.length + R'.length ≤ 2000 := by
  have := congrArg List.length q6
  simp only [List.length_append] at this
  omega
 refine Ok.bv fun z3 e3 => Ok.it (fun h => ?_) fun h => ?_
 · have hne : ¬ i = j := by rw [e3] at h; simpa using h
   refine Ok.bv fun z4 e4 => Ok.it (fun h4 => ?_) fun h4 => ?_
   · have hlt : j < i := by rw [e4] at h4; simpa using h4
     refine Ok.bv fun z5 e5 => ?_
     have e5' : z5 = m - i := (wI64 e5).2 (by omega)
     have hX : X' = X'.take Y'.length ++ X'.drop Y'.length := (List.take_append_drop _ _).symm
     have hX1 : (X'.take Y'.length).length = Y'.length := by rw [List.length_take]; omega
     have hX2 : (X'.drop Y'.length).length = X'.length - Y'.length := List.length_drop
     generalize X'.take Y'.length = X1 at *
     generalize X'.drop Y'.length = X2 at *
     subst hX
     simp only [List.length_append] at q1' q3 q5 hlen q8 hX2
     have hin : l = P' ++ X1 ++ X2 ++ Y' ++ R' := by rw [q6]; simp
     rw [hin]
     refine Ok.ob (swapRange_ok (by simp only [List.length_append]; omega) (by omega) (by omega) (by omega) (by omega)) fun y _ hy => Ok.bv fun z6 e6 => ?_
     have e6' : z6 = i - j := (wI64 e6).2 (by omega)
     refine ih _ ⟨P' ++ Y', X2, X1, R', ?_, ?_, by simp only; omega, by simp only; omega, by simp only [List.length_append]; omega, by simp only; rw [hy], ?_, ?_⟩ (by simp only; omega)
     · intro e; rw [e] at q3; simp only [List.length_nil] at q3; omega
     · intro e; rw [e] at hX1; simp only [List.length_nil] at hX1; omega
     · rw [← q7]; simp
     · simp only [hy]
       rw [hin] at q8
       simp only [List.length_append] at q8 ⊢
       omega
   · have hlt : i < j := by rw [e4] at h4; simp at h4; omega
     refine Ok.bv fun z5 e5 => Ok.bv fun z6 e6 => Ok.bv fun z7 e7 => ?_
     have e5' : z5 = m - i := (wI64 e5).2 (by omega)
     have e6' : z6 = m + j := (wI64 e6).2 (by omega)
     have e7' : z7 = m + j - i := by have := (wI64 e7).2 (by omega); omega
     have hY : Y' = Y'.take (Y'.length - X'.length) ++ Y'.drop (Y'.length - X'.length) := (List.take_append_drop _ _).symm
     have hY1 : (Y'.take (Y'.length - X'.length)).length = Y'.length - X'.length := by rw [List.length_take]; omega
     have hY2 : (Y'.drop (Y'.length - X'.length)).length = X'.length := by rw [List.length_drop]; omega
     generalize Y'.take (Y'.length - X'.length) = Y1 at *
     generalize Y'.drop (Y'.length - X'.length) = Y2 at *
     subst hY
     simp only [List.length_append] at q2' q4 hlen q8 hY1 hY2
     have hin : l = P' ++ X' ++ Y1 ++ Y2 ++ R' := by rw [q6]; simp
     rw [hin]
     refine Ok.ob (swapRange_ok (by simp only [List.length_append]; omega) (by omega) (by omega) (by omega) (by omega)) fun y _ hy => Ok.bv fun z8 e8 => ?_
     have e8' : z8 = j - i := (wI64 e8).2 (by omega)
     refine ih _ ⟨P', Y2, Y1, X' ++ R', ?_, ?_, by simp only; omega, by simp only; omega, by omega, by simp only; rw [hy]; simp, ?_, ?_⟩ (by simp only; omega)
     · intro e; rw [e] at hY2; simp only [List.length_nil] at hY2; omega
     · intro e; rw [e] at q4; simp only [List.length_nil] at q4; omega
     · rw [← q7]; simp
     · simp only [hy]
       rw [hin] at q8
       simp only [List.length_append] at q8 ⊢
       omega
 · have he : i = j := by rw [e3] at h; simpa using h
   rw [hJ]
   refine Ok.bv fun z5 e5 => ?_
   simp only at e5 ⊢
   have e5' : z5 = m - i := (wI64 e5).2 (by omega)
   have hin : l = P' ++ X' ++ [] ++ Y' ++ R' := by rw [q6]; simp
   rw [hin]
   refine Ok.ob (swapRange_ok (by simp only [List.length_append, List.length_nil]; omega) (by omega) (by simp; omega) (by omega) (by omega)) fun y _ hy => Ok.sm ?_
   rw [hy, ← q7]
   simp
theorem shr1 {z x : Int} (h : 0 ≤ x) (e : z = shrI .u64 x 1) : z = x / 2 := by
 subst e
 unfold shrI
 have : min (1 : Int).toNat (IntKind.u64.bits) = 1 := rfl
 rw [this, Int.fdiv_eq_ediv_of_nonneg _ (by decide)]
 rfl
theorem carryL {P A : List T} {x : T} {R : List T} {i : Int} (hi : i = P.length) (hl : (P ++ A ++ x :: R).length ≤ 2000) {ρ : Type} {K : List T → Option ρ} {Q : ρ → Prop} (hK : Ok (K (P ++ x :: A ++ R)) Q) {k : Int} (hk : k = P.length + A.length) {B : ((Int × List T) → Option ρ) → (Int × List T) → Option ρ}
 (hB : B = fun (n76 : (Int × (List T)) → Option ρ) (s76 : Int × (List T)) =>
  bindv (decide (i < s76.1) : Bool) fun z110_80 =>
  if z110_80 = true then (
   bindv (IntKind.wrap .i64 (s76.1 - 1) : Int) fun z117_83 =>
   chk ((0 : Int) ≤ z117_83 ∧ z117_83 < (s76.2.length : Int)) <|
   chk ((0 : Int) ≤ s76.1 ∧ s76.1 < (s76.2.length : Int)) <|
   bindv ((s76.2.set (Int.toNat s76.1) (gel s76.2 z117_83)).set (Int.toNat z117_83) (gel s76.2 s76.1) : List (T)) fun zrow_87 =>
   bindv (IntKind.wrap .i64 (s76.1 - 1) : Int) fun z112_89 =>
   n76 (z112_89, zrow_87)
  ) else K s76.2) : Ok (loopF B KK (k, P ++ A ++ x :: R)) Q := by
 subst hB
 simp only [List.length_append, List.length_cons] at hl
 refine Ok.lp (fun s : Int × List T => ∃ A1 A2, A = A1 ++ A2 ∧ s.1 = P.length + A1.length ∧ s.2 = P ++ A1 ++ x :: A2 ++ R) (fun s => (s.1 - i).toNat) ⟨A, [], by simp, by simp only; omega, by simp⟩ (by simp only; omega) ?_
 rintro ⟨k, l⟩ ⟨A1, A2, rfl, q1, q2⟩ next ih
 simp only at q1 q2 ⊢
 rw [List.length_append] at hl
 have hll : l.length = P.length + A1.length + A2.length + 1 + R.length := by
  rw [q2]; simp only [List.length_append, List.length_cons]; omega
 refine Ok.bv fun z1 e1 => Ok.it (fun h => ?_) fun h => ?_
 · have hlt : i < k := by rw [e1] at h; simpa using h
   obtain ⟨A0, y, rfl⟩ : ∃ S0 y, A1 = S0 ++ [y] := by
    rcases List.eq_nil_or_concat A1 with rfl | ⟨S0, y, h⟩
    · simp at q1; omega
    · exact ⟨S0, y, by simpa using h⟩
   simp only [List.length_append, List.length_cons, List.length_nil] at *
   refine Ok.bv fun z2 e2 => ?_
   have e2' : z2 = k - 1 := (wI64 e2).2 (by omega)
   refine Ok.ck (by omega) (Ok.ck (by omega) (Ok.bv fun l2 el => Ok.bv fun z3 e3 => ?_))
   have e3' : z3 = k - 1 := (wI64 e3).2 (by omega)
   refine ih _ ⟨A0, y :: A2, by simp, by simp only; omega, ?_⟩ (by simp only; omega)
   simp only
   have q3 : l = (P ++ A0) ++ y :: ([] ++ x :: (A2 ++ R)) := by rw [q2]; simp
   rw [el, swap_two' q3 (by simp; omega) (by simp; omega)]
   simp
 · have hge : ¬ i < k := by rw [e1] at h; simpa using h
   have : A1 = [] := List.eq_nil_of_length_eq_zero (by omega)
   subst this
   rw [q2]
   simpa using hK
theorem carryR {P A : List T} {x : T} {R : List T} {i : Int} (hi : i = P.length + A.length + 1) (hl : (P ++ x :: A ++ R).length ≤ 2000) {ρ : Type} {K : List T → Option ρ} {Q : ρ → Prop} (hK : Ok (K (P ++ A ++ x :: R)) Q) {k : Int} (hk : k = P.length) {B : ((Int × List T) → Option ρ) → (Int × List T) → Option ρ}
 (hB : B = fun (n119 : (Int × (List T)) → Option ρ) (s119 : Int × (List T)) =>
 bindv (IntKind.wrap .i64 (i - 1) : Int) fun z57_123 =>
 bindv (decide (s119.1 < z57_123) : Bool) fun z58_124 =>
 if z58_124 = true then (
  bindv (IntKind.wrap .i64 (s119.1 + 1) : Int) fun z65_127 =>
  chk ((0 : Int) ≤ z65_127 ∧ z65_127 < (s119.2.length : Int)) <|
  chk ((0 : Int) ≤ s119.1 ∧ s119.1 < (s119.2.length : Int)) <|
  bindv ((s119.2.set (Int.toNat s119.1) (gel s119.2 z65_127)).set (Int.toNat z65_127) (gel s119.2 s119.1) : List (T)) fun zrow_131 =>
  bindv (IntKind.wrap .i64 (s119.1 + 1) : Int) fun z60_133 =>
  n119 (z60_133, zrow_131)
 ) else K s119.2) : Ok (loopF B KK (k, P ++ x :: A ++ R)) Q := by
 subst hB
 simp only [List.length_append, List.length_cons] at hl
 refine Ok.lp (fun s : Int × List T => ∃ A1 A2, A = A1 ++ A2 ∧ s.1 = P.length + A1.length ∧ s.2 = P ++ A1 ++ x :: A2 ++ R) (fun s => (i - s.1).toNat) ⟨[], A, by simp, by simp only [List.length_nil]; omega, by simp⟩ (by simp only; omega) ?_
 rintro ⟨k, l⟩ ⟨A1, A2, rfl, q1, q2⟩ next ih
 simp only at q1 q2 ⊢
 rw [List.length_append] at hl hi
 have hll : l.length = P.length + A1.length + A2.length + 1 + R.length := by
  rw [q2]; simp only [List.length_append, List.length_cons]; omega
 refine Ok.bv fun z0 e0 => Ok.bv fun z1 e1 => Ok.it (fun h => ?_) fun h => ?_
 · have e0' : z0 = i - 1 := (wI64 e0).2 (by omega)
   have hlt : k < i - 1 := by rw [e1, e0'] at h; simpa using h
   obtain ⟨y, A2, rfl⟩ : ∃ y A2', A2 = y :: A2' := by
    cases A2 with
    | nil => simp at hi; omega
    | cons y A2 => exact ⟨y, A2, rfl⟩
   simp only [List.length_cons] at *
   refine Ok.bv fun z2 e2 => ?_
   have e2' : z2 = k + 1 := (wI64 e2).2 (by omega)
   refine Ok.ck (by omega) (Ok.ck (by omega) (Ok.bv fun l2 el => Ok.bv fun z3 e3 => ?_))
   have e3' : z3 = k + 1 := (wI64 e3).2 (by omega)
   refine ih _ ⟨A1 ++ [y], A2, by simp, by simp; omega, ?_⟩ (by simp only; omega)
   simp only
   have q3 : l = (P ++ A1) ++ x :: ([] ++ y :: (A2 ++ R)) := by rw [q2]; simp
   rw [el, swap_two q3 (by simp; omega) (by simp; omega)]
   simp
 · have e0' : z0 = i - 1 := (wI64 e0).2 (by omega)
   have hge : ¬ k < i - 1 := by rw [e1, e0'] at h; simpa using h
   have : A2 = [] := List.eq_nil_of_length_eq_zero (by omega)
   subst this
   rw [q2]
   simpa using hK
theorem bsearch {ρ : Type} {K : Int → Option ρ} {Q : ρ → Prop} {lo hi : Int} (f : Int → Bool) {S : Int → (Int × Int → Option ρ) → Int × Int → Option ρ} (h0 : 0 ≤ lo ∧ lo ≤ hi ∧ hi ≤ 100000) {B : (Int × Int → Option ρ) → Int × Int → Option ρ}
 (hB : B = fun (n90 : (Int × Int) → Option ρ) (s90 : Int × Int) =>
 bindv (decide (s90.1 < s90.2) : Bool) fun z85_93 =>
 if z85_93 = true then (
  bindv (IntKind.wrap .i64 (s90.1 + s90.2) : Int) fun z88_96 =>
  bindv (IntKind.wrap .u64 z88_96 : Int) fun z89_97 =>
  chk ((0 : Int) ≤ 1) <|
  bindv (shrI .u64 z89_97 1 : Int) fun z90_99 =>
  bindv (IntKind.wrap .i64 z90_99 : Int) fun z91_100 =>
  S z91_100 n90 s90
 ) else K s90.1)
 (st : ∀ c, lo ≤ c → c < hi → ∀ (n : Int × Int → Option ρ) (s : Int × Int), (f c = true → Ok (n (c + 1, s.2)) Q → Ok (S c n s) Q) ∧ (f c = false → Ok (n (s.1, c)) Q → Ok (S c n s) Q))
 (hK : ∀ r, lo ≤ r → r ≤ hi → (r = lo ∨ f (r - 1) = true) → (r = hi ∨ f r = false) → Ok (K r) Q) : Ok (loopF B KK (lo, hi)) Q := by
 subst hB
 refine Ok.lp (fun s : Int × Int => lo ≤ s.1 ∧ s.1 ≤ s.2 ∧ s.2 ≤ hi ∧ (s.1 = lo ∨ f (s.1 - 1) = true) ∧ (s.2 = hi ∨ f s.2 = false)) (fun s => (s.2 - s.1).toNat) ⟨by simp, by simp only; omega, by simp, .inl rfl, .inl rfl⟩ (by simp only; omega) ?_
 rintro ⟨i, j⟩ ⟨s0, s1, s2, s3, s4⟩ next ih
 simp only at s0 s1 s2 s3 s4 ⊢
 refine Ok.bv fun z1 e1 => Ok.it (fun h => ?_) fun h => ?_
 · have hlt : i < j := by rw [e1] at h; simpa using h
   refine Ok.bv fun z2 e2 => Ok.bv fun z3 e3 => Ok.ck (by omega) (Ok.bv fun z4 e4 => Ok.bv fun c ec => ?_)
   have e2' : z2 = i + j := (wI64 e2).2 (by omega)
   have e3' : z3 = i + j := by have := (wU64 e3).2 (by omega); omega
   have e4' := shr1 (by omega) e4
   have ec' : c = (i + j) / 2 := by have := (wI64 ec).2 (by omega); omega
   have hst := st c (by omega) (by omega) next (i, j)
   cases hf : f c with
   | true => exact hst.1 hf (ih _ ⟨by simp only; omega, by simp only; omega, s2, .inr (by simp only; rw [show c + 1 - 1 = c by omega]; exact hf), s4⟩ (by simp only; omega))
   | false => exact hst.2 hf (ih _ ⟨s0, by simp only; omega, by simp only; omega, s3, .inr hf⟩ (by simp only; omega))
 · have hge : ¬ i < j := by rw [e1] at h; simpa using h
   obtain rfl : i = j := by omega
   exact hK i s0 s2 s3 s4
section
variable {cf : T → T → Int} (C : InsT.Cmp cf)
include C
theorem self (x : T) : cf x x = 0 := by have := C.anti x x; omega
theorem le_of {x y : T} (h : ¬ cf y x < 0) : cf x y ≤ 0 := by have := C.anti y x; omega
end
def Srt (cf : T → T → Int) (l : List T) : Prop := l.Pairwise (fun x y => cf x y ≤ 0)
theorem srt_left {cf : T → T → Int} (C : InsT.Cmp cf) {l : List T} (h : Srt cf l) {k : Int} (h0 : 0 < k) (h1 : k ≤ l.length) : ∀ y ∈ l.take k.toNat, cf y (gel l (k - 1)) ≤ 0 := by
 intro y hy
 have e := take_gel (l := l) (i := k - 1) (by omega) (by omega)
 rw [show k - 1 + 1 = k by omega] at e
 have hs : Srt cf (l.take k.toNat) := List.Pairwise.sublist (List.take_sublist _ _) h
 rw [e] at hy hs
 rcases List.mem_append.1 hy with hy | hy
 · exact (List.pairwise_append.1 hs).2.2 y hy _ (by simp)
 · rw [List.mem_singleton.1 hy, self C]
   omega
theorem srt_right {cf : T → T → Int} (C : InsT.Cmp cf) {l : List T} (h : Srt cf l) {k : Int} (h0 : 0 ≤ k) (h1 : k < l.length) : ∀ y ∈ l.drop k.toNat, cf (gel l k) y ≤ 0 := by
 intro y hy
 have hs : Srt cf (l.drop k.toNat) := List.Pairwise.sublist (List.drop_sublist _ _) h
 rw [drop_gel h0 h1] at hy hs
 rcases List.mem_cons.1 hy with rfl | hy
 · rw [self C]
   omega
 · exact (List.pairwise_cons.1 hs).1 y hy
theorem gel_X {P X R : List T} {c : Int} (h0 : (P.length : Int) ≤ c) (h1 : c < P.length + X.length) : gel (P ++ X ++ R) c = gel X (c - P.length) := by
 unfold gel
 rw [List.getD_eq_getElem?_getD, List.getD_eq_getElem?_getD, List.append_assoc, List.getElem?_append_right (by omega), List.getElem?_append_left (by omega)]
 congr 2
 omega
theorem symMerge_ok {cmp : T → T → Option Int} {cf : T → T → Int} (C : InsT.Cmp cf) : ∀ (k : Nat) (P X Y R : List T) (a m b : Int), X ≠ [] → Y ≠ [] → Srt cf X → Srt cf Y → (∀ x ∈ X ++ Y, ∀ y ∈ X ++ Y, cmp x y = some (cf x y)) →
 P.length + X.length + Y.length + R.length ≤ 2000 → a = P.length → m = P.length + X.length → b = P.length + X.length + Y.length → X.length + Y.length ≤ k →
 Ok (slices_symMergeCmpFunc_Term k (P ++ X ++ Y ++ R) a m b cmp) (fun r => ∃ M, r = P ++ M ++ R ∧ M.Perm (X ++ Y) ∧ Srt cf M) := by
 intro k
 induction k with
 | zero =>
  intro P X Y R a m b hx _ _ _ _ _ _ _ _ hk
  have := List.length_pos_iff.2 hx
  omega
 | succ k IH =>
 intro P X Y R a m b hx hy sx sy hc hl ha hm hb hk
 have hxl := List.length_pos_iff.2 hx
 have hyl := List.length_pos_iff.2 hy
 have hL : (P ++ X ++ Y ++ R).length = P.length + X.length + Y.length + R.length := by simp only [List.length_append]
 have gX : ∀ c, a ≤ c → c < m → gel (P ++ X ++ Y ++ R) c = gel X (c - a) ∧ gel X (c - a) ∈ X := fun c h1 h2 => by
  refine ⟨?_, gel_mem (by omega)⟩
  rw [List.append_assoc (P ++ X), gel_X (by omega) (by omega), ha]
 have gY : ∀ c, m ≤ c → c < b → gel (P ++ X ++ Y ++ R) c = gel Y (c - m) ∧ gel Y (c - m) ∈ Y := fun c h1 h2 => by
  refine ⟨?_, gel_mem (by omega)⟩
  rw [gel_X (P := P ++ X) (by simp only [List.length_append]; omega) (by simp only [List.length_append]; omega), hm]
  simp only [List.length_append]
  congr 1
  try omega
 unfold slices_symMergeCmpFunc_Term slices_symMergeCmpFunc_Term_B
 refine Ok.bv fun J2 hJ2 => Ok.bv fun z27 e27 => Ok.bv fun z28 e28 => ?_
 have e27' : z27 = X.length := by have := (wI64 e27).2 (by omega); omega
 refine Ok.it (fun h => ?_) fun h => ?_
 ·
  have hx1 : X.length = 1 := by rw [e28, e27'] at h; simp at h; omega
  obtain ⟨x, rfl⟩ : ∃ x, X = [x] := List.length_eq_one_iff.1 hx1
  clear hJ2 e28 e27 e27' h
  refine Ok.bv fun J116 hJ => Ok.bv fun B hB => ?_
  have g2 := gX a (by omega) (by omega)
  have g3 : gel [x] (a - a) = x := by rw [Int.sub_self]; rfl
  rw [g3] at g2
  refine bsearch (K := J116) (fun c => decide (cf (gel Y (c - m)) x < 0)) (by omega) hB (fun c c0 c1 n s => ?_) fun r r0 r1 r2 r3 => ?_
  · have g1 := gY c c0 c1
    have hcc := hc _ (List.mem_append_right [x] g1.2) x (by simp)
    constructor
    all_goals
     intro hf hn
     refine Ok.ck (by omega) (Ok.bv fun u eu => Ok.ck (by omega) (Ok.bv fun v ev => ?_))
     rw [eu, ev, g1.1, g2.1, hcc]
     refine Ok.os fun q eq => Ok.bv fun z ez => ?_
     rw [ez, eq]
     rw [hf]
    · rw [if_pos rfl]
      refine Ok.bv fun z' ez' => ?_
      have ez2 := (wI64 ez').2 (by omega)
      rw [ez2]
      exact hn
    · rw [if_neg Bool.false_ne_true]
      exact hn
  · rw [hJ]
    clear hB
    refine Ok.bv fun B2 hB2 => ?_
    have hxl1 : [x].length = 1 := rfl
    have hY : Y = Y.take (r - m).toNat ++ Y.drop (r - m).toNat := (List.take_append_drop _ _).symm
    have hY1 : (Y.take (r - m).toNat).length = (r - m).toNat := by rw [List.length_take]; omega
    have f1 : ∀ u ∈ Y.take (r - m).toNat, cf u x ≤ 0 := by
     intro u hu
     by_cases hr : r = m
     · rw [hr, Int.sub_self] at hu; simp at hu
     · have h1 := r2.resolve_left hr
       rw [decide_eq_true_eq] at h1
       have h2 := srt_left C sy (k := r - m) (by omega) (by omega) u hu
       rw [show r - 1 - m = r - m - 1 by omega] at h1
       exact C.trans _ _ _ h2 (by omega)
    have f2 : ∀ u ∈ Y.drop (r - m).toNat, cf x u ≤ 0 := by
     intro u hu
     by_cases hr : r = b
     · rw [List.drop_eq_nil_of_le (by omega)] at hu; cases hu
     · have h1 := r3.resolve_left hr
       rw [decide_eq_false_iff_not] at h1
       have h2 := srt_right C sy (k := r - m) (by omega) (by omega) u hu
       exact C.trans _ _ _ (le_of C h1) h2
    generalize Y.take (r - m).toNat = Y1 at *
    generalize Y.drop (r - m).toNat = Y2 at *
    subst hY
    simp only [List.length_append] at hl
    have hin : P ++ [x] ++ (Y1 ++ Y2) ++ R = P ++ x :: Y1 ++ (Y2 ++ R) := by simp
    rw [hin]
    refine carryR (K := some) (by omega) (by simp only [List.length_append, List.length_cons]; omega) (Ok.sm ⟨Y1 ++ x :: Y2, by simp, ?_, ?_⟩) (by omega) hB2
    · exact List.perm_middle.trans (by simp)
    · obtain ⟨s1, s2, s3⟩ := List.pairwise_append.1 sy
      refine List.pairwise_append.2 ⟨s1, List.pairwise_cons.2 ⟨f2, s2⟩, fun u hu v hv => ?_⟩
      rcases List.mem_cons.1 hv with rfl | hv
      · exact f1 u hu
      · exact s3 u hu v hv
 have hxn : ¬ X.length = 1 := by rw [e28, e27'] at h; simp at h; omega
 rw [hJ2]
 clear hJ2 e28 e27 e27' h
 refine Ok.bv fun J5 hJ5 => Ok.bv fun z79 e79 => Ok.bv fun z80 e80 => ?_
 have e79' : z79 = Y.length := by have := (wI64 e79).2 (by omega); omega
 refine Ok.it (fun h => ?_) fun h => ?_
 ·
  have hy1 : Y.length = 1 := by rw [e80, e79'] at h; simp at h; omega
  obtain ⟨y, rfl⟩ : ∃ y, Y = [y] := List.length_eq_one_iff.1 hy1
  clear hJ5 e80 e79 e79' h
  refine Ok.bv fun J73 hJ => Ok.bv fun B hB => ?_
  have g2 := gY m (by omega) (by omega)
  have g3 : gel [y] (m - m) = y := by rw [Int.sub_self]; rfl
  rw [g3] at g2
  refine bsearch (K := J73) (fun c => !decide (cf y (gel X (c - a)) < 0)) (by omega) hB (fun c c0 c1 n s => ?_) fun r r0 r1 r2 r3 => ?_
  · have g1 := gX c c0 c1
    have hcc := hc y (by simp) _ (List.mem_append_left [y] g1.2)
    constructor
    all_goals
     intro hf hn
     refine Ok.ck (by omega) (Ok.bv fun u eu => Ok.ck (by omega) (Ok.bv fun v ev => ?_))
     rw [eu, ev, g1.1, g2.1, hcc]
     refine Ok.os fun q eq => Ok.bv fun z ez => Ok.bv fun z2 ez2 => ?_
     rw [ez2, ez, eq]
     rw [hf]
    · rw [if_pos rfl]
      refine Ok.bv fun z' ez' => ?_
      have ez2 := (wI64 ez').2 (by omega)
      rw [ez2]
      exact hn
    · rw [if_neg Bool.false_ne_true]
      exact hn
  · rw [hJ]
    clear hB
    refine Ok.bv fun B2 hB2 => ?_
    have hyl1 : [y].length = 1 := rfl
    have hX : X = X.take (r - a).toNat ++ X.drop (r - a).toNat := (List.take_append_drop _ _).symm
    have hX1 : (X.take (r - a).toNat).length = (r - a).toNat := by rw [List.length_take]; omega
    have f1 : ∀ u ∈ X.take (r - a).toNat, cf u y ≤ 0 := by
     intro u hu
     by_cases hr : r = a
     · rw [hr, Int.sub_self] at hu; simp at hu
     · have h1 := r2.resolve_left hr
       simp only [Bool.not_eq_true', decide_eq_false_iff_not] at h1
       have h2 := srt_left C sx (k := r - a) (by omega) (by omega) u hu
       rw [show r - 1 - a = r - a - 1 by omega] at h1
       exact C.trans _ _ _ h2 (le_of C h1)
    have f2 : ∀ u ∈ X.drop (r - a).toNat, cf y u ≤ 0 := by
     intro u hu
     by_cases hr : r = m
     · rw [List.drop_eq_nil_of_le (by omega)] at hu; cases hu
     · have h1 := r3.resolve_left hr
       simp only [Bool.not_eq_false', decide_eq_true_eq] at h1
       have h2 := srt_right C sx (k := r - a) (by omega) (by omega) u hu
       exact C.trans _ _ _ (by omega) h2
    generalize X.take (r - a).toNat = X1 at *
    generalize X.drop (r - a).toNat = X2 at *
    subst hX
    simp only [List.length_append] at hl hm
    have hin : P ++ (X1 ++ X2) ++ [y] ++ R = (P ++ X1) ++ X2 ++ y :: R := by simp
    rw [hin]
    refine carryL (K := some) (by rw [List.length_append]; omega) (by simp only [List.length_append, List.length_cons]; omega) (Ok.sm ⟨X1 ++ y :: X2, by simp, ?_, ?_⟩) (by rw [List.length_append]; omega) hB2
    · exact List.perm_middle.trans (List.perm_append_comm (l₁ := [y]) (l₂ := X1 ++ X2))
    · obtain ⟨s1, s2, s3⟩ := List.pairwise_append.1 sx
      refine List.pairwise_append.2 ⟨s1, List.pairwise_cons.2 ⟨f2, s2⟩, fun u hu v hv => ?_⟩
      rcases List.mem_cons.1 hv with rfl | hv
      · exact f1 u hu
      · exact s3 u hu v hv
 have hyn : ¬ Y.length = 1 := by rw [e80, e79'] at h; simp at h; omega
 rw [hJ5]
 clear hJ5 e80 e79 e79' h
 refine Ok.bv fun z131 e131 => Ok.bv fun z132 e132 => Ok.ck (by omega) (Ok.bv fun z133 e133 => Ok.bv fun mid emid => Ok.bv fun n en => ?_)
 have e131' : z131 = a + b := (wI64 e131).2 (by omega)
 have e132' : z132 = a + b := by have := (wU64 e132).2 (by omega); omega
 have e133' := shr1 (by omega) e133
 have emid' : mid = (a + b) / 2 := by have := (wI64 emid).2 (by omega); omega
 have en' : n = mid + m := (wI64 en).2 (by omega)
 clear e131 e132 e133 emid en
 refine Ok.bv fun J14 hJ14 => ?_
 have h14 : ∀ lo hi, a ≤ lo → lo ≤ hi → hi ≤ m → (∀ c, lo ≤ c → c < hi → m ≤ n - 1 - c ∧ n - 1 - c < b) → ((lo = a ∧ n - a ≤ b) ∨ lo = n - b) → ((hi = m ∧ m ≤ n - m) ∨ hi = n - m) →
  Ok (J14 (lo, hi)) (fun r => ∃ M, r = P ++ M ++ R ∧ M.Perm (X ++ Y) ∧ Srt cf M) := by
  intro lo hi l0 l1 l2 l3 l4 l5
  rw [hJ14]
  clear hJ14
  refine Ok.bv fun p ep => Ok.bv fun J17 hJ17 => Ok.bv fun B hB => ?_
  have ep' : p = n - 1 := (wI64 ep).2 (by omega)
  refine bsearch (K := J17) (fun c => !decide (cf (gel Y (n - 1 - c - m)) (gel X (c - a)) < 0)) (by omega) hB (fun c c0 c1 nx s => ?_) fun r r0 r1 r2 r3 => ?_
  · have hcb := l3 c c0 c1
    have g1 := gX c (by omega) (by omega)
    have g2 := gY (n - 1 - c) hcb.1 hcb.2
    have hcc := hc _ (List.mem_append_right X g2.2) _ (List.mem_append_left Y g1.2)
    constructor
    all_goals
     intro hf hn
     refine Ok.bv fun pc epc => ?_
     have epc' : pc = n - 1 - c := by have := (wI64 epc).2 (by omega); omega
     refine Ok.ck (by omega) (Ok.bv fun u eu => Ok.ck (by omega) (Ok.bv fun v ev => ?_))
     rw [eu, ev, epc', g1.1, g2.1, hcc]
     refine Ok.os fun q eq => Ok.bv fun z ez => Ok.bv fun z2 ez2 => ?_
     rw [ez2, ez, eq]
     rw [hf]
    · rw [if_pos rfl]
      refine Ok.bv fun z' ez' => ?_
      have ez2 := (wI64 ez').2 (by omega)
      rw [ez2]
      exact hn
    · rw [if_neg Bool.false_ne_true]
      exact hn
  clear hB
  rw [hJ17]
  clear hJ17
  refine Ok.bv fun en2 een => ?_
  have een' : en2 = n - r := (wI64 een).2 (by omega)
  have hen : m ≤ en2 ∧ en2 ≤ b := by
   constructor
   · by_cases hr : r = hi
     · rcases l5 with ⟨h, _⟩ | h <;> omega
     · have := (l3 r (by omega) (by omega)).1
       omega
   · by_cases hr : r = lo
     · rcases l4 with ⟨h, _⟩ | h <;> omega
     · have := (l3 (r - 1) (by omega) (by omega)).2
       omega
  have hX : X = X.take (r - a).toNat ++ X.drop (r - a).toNat := (List.take_append_drop _ _).symm
  have hX1 : (X.take (r - a).toNat).length = (r - a).toNat := by rw [List.length_take]; omega
  have hX2 : (X.drop (r - a).toNat).length = X.length - (r - a).toNat := List.length_drop
  have hY : Y = Y.take (en2 - m).toNat ++ Y.drop (en2 - m).toNat := (List.take_append_drop _ _).symm
  have hY1 : (Y.take (en2 - m).toNat).length = (en2 - m).toNat := by rw [List.length_take]; omega
  have hY2 : (Y.drop (en2 - m).toNat).length = Y.length - (en2 - m).toNat := List.length_drop
  have fA : ∀ u ∈ X.take (r - a).toNat, ∀ v ∈ Y.drop (en2 - m).toNat, cf u v ≤ 0 := by
   intro u hu v hv
   have k1 : 0 < r - a := by
    by_cases h : r = a
    · rw [h, Int.sub_self] at hu; simp at hu
    · omega
   have k2 : en2 < b := by
    by_cases h : en2 = b
    · rw [List.drop_eq_nil_of_le (by omega)] at hv; cases hv
    · omega
   have h1 := r2.resolve_left (by rcases l4 with ⟨h, _⟩ | h <;> omega)
   simp only [Bool.not_eq_true', decide_eq_false_iff_not] at h1
   rw [show n - 1 - (r - 1) - m = en2 - m by omega, show r - 1 - a = r - a - 1 by omega] at h1
   have h2 := srt_left C sx (k := r - a) k1 (by omega) u hu
   have h3 := srt_right C sy (k := en2 - m) (by omega) (by omega) v hv
   exact C.trans _ _ _ h2 (C.trans _ _ _ (le_of C h1) h3)
  have fB : ∀ u ∈ Y.take (en2 - m).toNat, ∀ v ∈ X.drop (r - a).toNat, cf u v ≤ 0 := by
   intro u hu v hv
   have k1 : 0 < en2 - m := by
    by_cases h : en2 = m
    · rw [h, Int.sub_self] at hu; simp at hu
    · omega
   have k2 : r < m := by
    by_cases h : r = m
    · rw [List.drop_eq_nil_of_le (by omega)] at hv; cases hv
    · omega
   have h1 := r3.resolve_left (by rcases l5 with ⟨h, _⟩ | h <;> omega)
   simp only [Bool.not_eq_false', decide_eq_true_eq] at h1
   rw [show n - 1 - r - m = en2 - m - 1 by omega] at h1
   have h2 := srt_left C sy (k := en2 - m) k1 (by omega) u hu
   have h3 := srt_right C sx (k := r - a) (by omega) (by omega) v hv
   exact C.trans _ _ _ h2 (C.trans _ _ _ (by omega) h3)
  clear r2 r3 l3
  have iX1 : ((X.take (r - a).toNat).length : Int) = r - a := by omega
  have iX2 : ((X.drop (r - a).toNat).length : Int) = m - r := by omega
  have iY1 : ((Y.take (en2 - m).toNat).length : Int) = en2 - m := by omega
  have iY2 : ((Y.drop (en2 - m).toNat).length : Int) = b - en2 := by omega
  clear hX1 hX2 hY1 hY2
  generalize X.take (r - a).toNat = X1 at *
  generalize X.drop (r - a).toNat = X2 at *
  generalize Y.take (en2 - m).toNat = Y1 at *
  generalize Y.drop (en2 - m).toNat = Y2 at *
  subst hX hY
  simp only [List.length_append] at hxl hyl hxn hyn hl hm hb hk
  obtain ⟨sx1, sx2, sx3⟩ := List.pairwise_append.1 sx
  obtain ⟨sy1, sy2, sy3⟩ := List.pairwise_append.1 sy
  have hmem : ∀ u ∈ (X1 ++ Y1) ++ (X2 ++ Y2), u ∈ (X1 ++ X2) ++ (Y1 ++ Y2) := fun u hu => by
   simp only [List.mem_append] at hu ⊢
   rcases hu with (h | h) | (h | h) <;> simp [h]
  refine Ok.bv fun J20 hJ20 => ?_
  have h20 : Ok (J20 (P ++ X1 ++ Y1 ++ (X2 ++ Y2 ++ R))) (fun r => ∃ M, r = P ++ M ++ R ∧ M.Perm (X1 ++ X2 ++ (Y1 ++ Y2)) ∧ Srt cf M) := by
   rw [hJ20]
   refine Ok.bv fun J23 hJ23 => ?_
   have h23 : ∀ M1 : List T, M1.Perm (X1 ++ Y1) → Srt cf M1 → Ok (J23 (P ++ M1 ++ (X2 ++ Y2 ++ R))) (fun r => ∃ M, r = P ++ M ++ R ∧ M.Perm (X1 ++ X2 ++ (Y1 ++ Y2)) ∧ Srt cf M) := by
    intro M1 p1 q1
    rw [hJ23]
    have hp1 := p1.length_eq
    rw [List.length_append] at hp1
    have fin : ∀ M2 : List T, M2.Perm (X2 ++ Y2) → Srt cf M2 → ∃ M, P ++ M1 ++ (M2 ++ R) = P ++ M ++ R ∧ M.Perm (X1 ++ X2 ++ (Y1 ++ Y2)) ∧ Srt cf M := by
     intro M2 p2 q2
     refine ⟨M1 ++ M2, by simp, (p1.append p2).trans ?_, List.pairwise_append.2 ⟨q1, q2, fun u hu v hv => ?_⟩⟩
     · rw [List.append_assoc, List.append_assoc]
       refine List.Perm.append_left X1 ?_
       rw [← List.append_assoc, ← List.append_assoc]
       exact List.Perm.append_right Y2 List.perm_append_comm
     · rcases List.mem_append.1 (p1.mem_iff.1 hu) with hu | hu <;> rcases List.mem_append.1 (p2.mem_iff.1 hv) with hv | hv
       · exact sx3 u hu v hv
       · exact fA u hu v hv
       · exact fB u hu v hv
       · exact sy3 u hu v hv
    refine Ok.bv fun z1 e1 => Ok.bv fun z2 e2 => Ok.bv fun z3 e3 => Ok.it (fun h => ?_) fun h => Ok.sm ?_
    · rw [e3, e1, e2] at h
      simp only [Bool.and_eq_true, decide_eq_true_eq] at h
      have hin : P ++ M1 ++ (X2 ++ Y2 ++ R) = (P ++ M1) ++ X2 ++ Y2 ++ R := by simp
      rw [hin]
      refine Ok.ob (IH (P ++ M1) X2 Y2 R mid en2 b ?_ ?_ sx2 sy2 (fun u hu v hv => hc u (hmem u (List.mem_append_right _ hu)) v (hmem v (List.mem_append_right _ hv))) ?_ ?_ ?_ ?_ ?_) fun q _ hq => Ok.sm ?_
      · intro e; rw [e] at iX2; simp only [List.length_nil] at iX2; omega
      · intro e; rw [e] at iY2; simp only [List.length_nil] at iY2; omega
      all_goals try first | omega | (simp only [List.length_append]; omega)
      · obtain ⟨M2, rfl, p2, q2⟩ := hq
        obtain ⟨M, h1, h2, h3⟩ := fin M2 p2 q2
        exact ⟨M, by rw [← h1]; simp, h2, h3⟩
    · have : X2 = [] ∨ Y2 = [] := by
       rw [e3, e1, e2] at h
       simp only [Bool.and_eq_false_iff, decide_eq_false_iff_not] at h
       rcases h with h | h
       · left; exact List.eq_nil_of_length_eq_zero (by omega)
       · right; exact List.eq_nil_of_length_eq_zero (by omega)
      refine fin (X2 ++ Y2) (.refl _) ?_
      rcases this with rfl | rfl
      · rw [List.nil_append]; exact sy2
      · rw [List.append_nil]; exact sx2
   clear hJ23
   refine Ok.bv fun z1 e1 => Ok.bv fun z2 e2 => Ok.bv fun z3 e3 => Ok.it (fun h => ?_) fun h => ?_
   · rw [e3, e1, e2] at h
     simp only [Bool.and_eq_true, decide_eq_true_eq] at h
     refine Ok.ob (IH P X1 Y1 (X2 ++ Y2 ++ R) a r mid ?_ ?_ sx1 sy1 (fun u hu v hv => hc u (hmem u (List.mem_append_left _ hu)) v (hmem v (List.mem_append_left _ hv))) ?_ ?_ ?_ ?_ ?_) fun q _ hq => ?_
     · intro e; rw [e] at iX1; simp only [List.length_nil] at iX1; omega
     · intro e; rw [e] at iY1; simp only [List.length_nil] at iY1; omega
     all_goals try first | omega | (simp only [List.length_append]; omega)
     · obtain ⟨M1, rfl, p1, q1⟩ := hq
       exact h23 M1 p1 q1
   · have : X1 = [] ∨ Y1 = [] := by
      rw [e3, e1, e2] at h
      simp only [Bool.and_eq_false_iff, decide_eq_false_iff_not] at h
      rcases h with h | h
      · left; exact List.eq_nil_of_length_eq_zero (by omega)
      · right; exact List.eq_nil_of_length_eq_zero (by omega)
     have := h23 (X1 ++ Y1) (.refl _) (by
      rcases this with rfl | rfl
      · rw [List.nil_append]; exact sy1
      · rw [List.append_nil]; exact sx1)
     simpa using this
  clear hJ20
  refine Ok.bv fun z1 e1 => Ok.bv fun z2 e2 => Ok.bv fun z3 e3 => Ok.it (fun h => ?_) fun h => ?_
  · rw [e3, e1, e2] at h
    simp only [Bool.and_eq_true, decide_eq_true_eq] at h
    have hin : P ++ (X1 ++ X2) ++ (Y1 ++ Y2) ++ R = (P ++ X1) ++ X2 ++ Y1 ++ (Y2 ++ R) := by simp
    rw [hin]
    refine Ok.ob (rotate_ok (P := P ++ X1) (X := X2) (Y := Y1) (R := Y2 ++ R) ?_ ?_ ?_ ?_ ?_ ?_) fun q _ hq => ?_
    all_goals try first | omega | (simp only [List.length_append]; omega)
    · intro e; rw [e] at iX2; simp only [List.length_nil] at iX2; omega
    · intro e; rw [e] at iY1; simp only [List.length_nil] at iY1; omega
    · rw [hq]
      simpa using h20
  · have : X2 = [] ∨ Y1 = [] := by
     rw [e3, e1, e2] at h
     simp only [Bool.and_eq_false_iff, decide_eq_false_iff_not] at h
     rcases h with h | h
     · left; exact List.eq_nil_of_length_eq_zero (by omega)
     · right; exact List.eq_nil_of_length_eq_zero (by omega)
    rcases this with rfl | rfl
    · simpa using h20
    · simpa using h20
 clear hJ14
 refine Ok.bv fun z1 e1 => Ok.it (fun h => ?_) fun h => ?_
 · have hlt : mid < m := by rw [e1] at h; simpa using h
   refine Ok.bv fun z2 e2 => ?_
   have e2' : z2 = n - b := (wI64 e2).2 (by omega)
   rw [e2']
   exact h14 _ _ (by omega) (by omega) (by omega) (fun c c0 c1 => by omega) (.inr rfl) (.inr (by omega))
 · have hge : ¬ mid < m := by rw [e1] at h; simpa using h
   exact h14 _ _ (by omega) (by omega) (by omega) (fun c c0 c1 => by omega) (.inl ⟨rfl, by omega⟩) (.inl ⟨rfl, by omega⟩)
theorem stable_ok {cmp : T → T → Option Int} {cf : T → T → Int} (C : InsT.Cmp cf) {l : List T} {n : Int} (hn : n = l.length) (hl : l.length ≤ 2000) (hc : ∀ x ∈ l, ∀ y ∈ l, cmp x y = some (cf x y)) :
 Ok (slices_stableCmpFunc_Term l n cmp) (fun r => r.Perm l ∧ Srt cf r) := by
 unfold slices_stableCmpFunc_Term
 refine Ok.bv fun J2 hJ2 => ?_
 have h2 : ∀ (Bs : List (List T)) (U : List T) (a : Int), (∀ B ∈ Bs, B.length = 20 ∧ Srt cf B) → a = Bs.flatten.length → U.length < 20 → (Bs.flatten ++ U).Perm l → Ok (J2 (a, Bs.flatten ++ U)) (fun r => r.Perm l ∧ Srt cf r) := by
  intro Bs U a hB ha hU hp
  have hpl := hp.length_eq
  rw [List.length_append] at hpl
  rw [hJ2]
  have hin := InsT.ins_ok C Bs.flatten U [] (cmp := cmp) (fun x hx y hy => hc x (hp.mem_iff.1 (List.mem_append_right _ hx)) y (hp.mem_iff.1 (List.mem_append_right _ hy))) (by simp only [List.length_nil]; omega) (a := a) (b := n) ha (by omega)
  simp only [List.append_nil] at hin
  refine Ok.ob hin fun y _ hy => Ok.bv fun B hB' => ?_
  obtain ⟨V, rfl, p1, s1⟩ := hy
  subst hB'
  have hVl := p1.length_eq
  refine Ok.lp (fun s : Int × List T => ∃ (b : Nat) (Bs : List (List T)) (V : List T), s.1 = b ∧ 20 ≤ b ∧ b ≤ 4000 ∧ (∀ B ∈ Bs, B.length = b ∧ Srt cf B) ∧ Srt cf V ∧ V.length < b ∧ s.2 = Bs.flatten ++ V ∧ s.2.Perm l) (fun s => (4000 - s.1).toNat) ⟨20, Bs, V, rfl, by omega, by omega, hB, s1, by omega, rfl, (p1.append_left _).trans hp⟩ (by simp only; omega) ?_
  clear hpl
  rintro ⟨bI, d⟩ ⟨b, B0, V0, hbI, b0, b1, q1, q2, q3, hd, q5⟩ next ih
  simp only at hbI hd q5 ⊢
  subst hbI hd
  have hpl := q5.length_eq
  rw [List.length_append] at hpl
  have hfl : ∀ {k : Nat} {B0 : List (List T)}, (∀ B ∈ B0, B.length = k ∧ Srt cf B) → B0.flatten.length = B0.length * k := by
   intro k B0
   induction B0 with
   | nil => simp
   | cons B B0 ih =>
    intro h
    rw [List.flatten_cons, List.length_append, ih fun D hD => h D (by simp [hD]), (h B (by simp)).1, List.length_cons, Nat.add_mul]
    omega
  refine Ok.bv fun z1 e1 => Ok.it (fun h => ?_) fun h => ?_
  · have hlt : (b : Int) < n := by rw [e1] at h; simpa using h
    refine Ok.bv fun z2 e2 => ?_
    have e2' : z2 = 2 * b := (wI64 e2).2 (by omega)
    refine Ok.bv fun J16 hJ16 => ?_
    have h16 : ∀ (Ds Cs : List (List T)) (a : Int), (∀ B ∈ Ds, B.length = 2 * b ∧ Srt cf B) → (∀ B ∈ Cs, B.length = b ∧ Srt cf B) → a = Ds.flatten.length → n < a + 2 * b → (Ds.flatten ++ (Cs.flatten ++ V0)).Perm l → Ok (J16 (a, Ds.flatten ++ (Cs.flatten ++ V0))) (fun r => r.Perm l ∧ Srt cf r) := by
     intro Ds Cs a k1 k2 k3 k4 k5
     have kl := k5.length_eq
     simp only [List.length_append] at kl
     rw [hJ16]
     refine Ok.bv fun J19 hJ19 => ?_
     have h19 : ∀ W : List T, Srt cf W → W.length < 2 * b → (Ds.flatten ++ W).Perm l → Ok (J19 (Ds.flatten ++ W)) (fun r => r.Perm l ∧ Srt cf r) := by
      intro W w1 w2 w3
      rw [hJ19]
      refine Ok.bv fun z3 e3 => ?_
      have e3' : z3 = ((2 * b : Nat) : Int) := by have := (wI64 e3).2 (by omega); omega
      exact ih _ ⟨2 * b, Ds, W, e3', by omega, by omega, k1, w1, w2, rfl, w3⟩ (by simp only; omega)
     clear hJ19
     refine Ok.bv fun z3 e3 => Ok.bv fun z4 e4 => ?_
     simp only at e3 e4 ⊢
     have e3' : z3 = a + b := (wI64 e3).2 (by omega)
     have kcl := hfl k2
     have hCs : Cs = [] ∨ ∃ B, Cs = [B] := by
      match Cs with
      | [] => exact .inl rfl
      | [B] => exact .inr ⟨B, rfl⟩
      | B :: B' :: Cs =>
       simp only [List.length_cons] at kcl
       have : b * 2 ≤ (Cs.length + 1 + 1) * b := by rw [Nat.add_mul, Nat.add_mul]; omega
       omega
     refine Ok.it (fun h4 => ?_) fun h4 => ?_
     · have hm : a + b < n := by rw [e4, e3'] at h4; simpa using h4
       rcases hCs with rfl | ⟨B, rfl⟩
       · simp only [List.flatten_nil, List.length_nil] at kl; omega
       · have kB := k2 B (by simp)
         simp only [List.flatten_cons, List.flatten_nil, List.append_nil] at kl k5 ⊢
         have hV : V0 ≠ [] := by intro e; rw [e] at kl; simp only [List.length_nil] at kl; omega
         have hB : B ≠ [] := by intro e; rw [e] at kB; simp at kB; omega
         have hmg := symMerge_ok C ((Ds.flatten ++ (B ++ V0)).length + 1) Ds.flatten B V0 [] a z3 n hB hV kB.2 q2 (fun x hx y hy => hc x (k5.mem_iff.1 (List.mem_append_right _ hx)) y (k5.mem_iff.1 (List.mem_append_right _ hy))) (by simp only [List.length_nil]; omega) k3 (by omega) (by omega) (by simp only [List.length_append]; omega)
         simp only [List.append_nil, List.append_assoc] at hmg
         refine Ok.ob hmg fun y _ hy => ?_
         obtain ⟨M, rfl, m1, m2⟩ := hy
         have := m1.length_eq
         rw [List.length_append] at this
         exact h19 M m2 (by omega) ((m1.append_left _).trans k5)
     · have hm : ¬ a + b < n := by rw [e4, e3'] at h4; simpa using h4
       rcases hCs with rfl | ⟨B, rfl⟩
       · simp only [List.flatten_nil, List.nil_append] at k5 ⊢
         exact h19 V0 q2 (by omega) k5
       · have kB := k2 B (by simp)
         simp only [List.flatten_cons, List.flatten_nil, List.append_nil] at kl k5 ⊢
         have hV : V0 = [] := List.eq_nil_of_length_eq_zero (by omega)
         subst hV
         simp only [List.append_nil] at k5 ⊢
         exact h19 B kB.2 (by omega) k5
    clear hJ16
    refine Ok.bv fun B hB' => ?_
    subst hB'
    refine Ok.lp (fun s : Int × Int × List T => ∃ Ds Cs : List (List T), (∀ B ∈ Ds, B.length = 2 * b ∧ Srt cf B) ∧ (∀ B ∈ Cs, B.length = b ∧ Srt cf B) ∧ s.1 = Ds.flatten.length ∧ s.2.1 = s.1 + 2 * b ∧ s.2.2 = Ds.flatten ++ (Cs.flatten ++ V0) ∧ s.2.2.Perm l) (fun s => (5000 - s.1).toNat) ⟨[], B0, by simp, q1, by simp, by simp only; omega, by simp, q5⟩ (by simp only; omega) ?_
    rintro ⟨a, c, d⟩ ⟨Ds, Cs, k1, k2, k3, k4, hd, k5⟩ next2 ih2
    simp only at k3 k4 k5 hd ⊢
    subst hd
    have kl := k5.length_eq
    simp only [List.length_append] at kl
    refine Ok.bv fun z3 e3 => Ok.it (fun h3 => ?_) fun h3 => ?_
    · have hle : c ≤ n := by rw [e3] at h3; simpa using h3
      refine Ok.bv fun z4 e4 => ?_
      have e4' : z4 = a + b := (wI64 e4).2 (by omega)
      have kcl := hfl k2
      obtain ⟨B, B', Cs, rfl⟩ : ∃ B B' Cs', Cs = B :: B' :: Cs' := by
       match Cs with
       | [] => simp only [List.flatten_nil, List.length_nil] at kl; omega
       | [B] => simp only [List.length_cons, List.length_nil] at kcl; omega
       | B :: B' :: Cs => exact ⟨B, B', Cs, rfl⟩
      have kB := k2 B (by simp)
      have kB' := k2 B' (by simp)
      have hB : B ≠ [] := by intro e; rw [e] at kB; simp at kB; omega
      have hB' : B' ≠ [] := by intro e; rw [e] at kB'; simp at kB'; omega
      simp only [List.flatten_cons, List.length_append] at kl k5 ⊢
      have hin : Ds.flatten ++ (B ++ (B' ++ Cs.flatten) ++ V0) = Ds.flatten ++ B ++ B' ++ (Cs.flatten ++ V0) := by simp
      have hmm : ∀ x ∈ B ++ B', x ∈ l := fun x hx => k5.mem_iff.1 (by
       simp only [List.mem_append] at hx ⊢
       rcases hx with h | h <;> simp [h])
      have hmg := symMerge_ok C ((Ds.flatten ++ (B ++ (B' ++ Cs.flatten) ++ V0)).length + 1) Ds.flatten B B' (Cs.flatten ++ V0) a z4 c hB hB' kB.2 kB'.2 (fun x hx y hy => hc x (hmm x hx) y (hmm y hy)) (by simp only [List.length_append]; omega) k3 (by omega) (by omega) (by simp only [List.length_append]; omega)
      rw [← hin] at hmg
      simp only [List.length_append] at hmg ⊢
      refine Ok.ob hmg fun y _ hy => Ok.bv fun z5 e5 => Ok.bv fun z6 e6 => ?_
      obtain ⟨M, rfl, m1, m2⟩ := hy
      have e5' : z5 = 2 * b := (wI64 e5).2 (by omega)
      have e6' : z6 = c + 2 * b := by have := (wI64 e6).2 (by omega); omega
      have hM := m1.length_eq
      rw [List.length_append] at hM
      refine ih2 _ ⟨Ds ++ [M], Cs, fun D hD => ?_, fun D hD => k2 D (by simp [hD]), ?_, by simp only; omega, by simp, ?_⟩ (by simp only; omega)
      · rcases List.mem_append.1 hD with hD | hD
        · exact k1 D hD
        · rw [List.mem_singleton.1 hD]
          exact ⟨by omega, m2⟩
      · simp only [List.flatten_append, List.flatten_cons, List.flatten_nil, List.append_nil, List.length_append]; omega
      · refine List.Perm.trans ?_ k5
        simp only [List.append_assoc]
        refine List.Perm.append_left _ ?_
        rw [← List.append_assoc B]
        exact m1.append_right _
    · have hgt : ¬ c ≤ n := by rw [e3] at h3; simpa using h3
      exact h16 Ds Cs a k1 k2 k3 (by omega) k5
  · have hge : ¬ (b : Int) < n := by rw [e1] at h; simpa using h
    refine Ok.sm ⟨q5, ?_⟩
    match B0 with
    | [] => simpa using q2
    | B :: B0 =>
     have kB := q1 B (by simp)
     simp only [List.flatten_cons, List.length_append] at hpl
     have h1 : B0.flatten = [] := List.eq_nil_of_length_eq_zero (by omega)
     have h2 : V0 = [] := List.eq_nil_of_length_eq_zero (by omega)
     rw [List.flatten_cons, h1, h2]
     simpa using kB.2
 clear hJ2
 refine Ok.bv fun B hB' => ?_
 subst hB'
 refine Ok.lp (fun s : Int × Int × List T => ∃ (Bs : List (List T)) (U : List T), (∀ B ∈ Bs, B.length = 20 ∧ Srt cf B) ∧ s.1 = Bs.flatten.length ∧ s.2.1 = s.1 + 20 ∧ s.2.2 = Bs.flatten ++ U ∧ s.2.2.Perm l) (fun s => (5000 - s.1).toNat) ⟨[], l, by simp, by simp, by simp, by simp, by simp⟩ (by simp only; omega) ?_
 rintro ⟨a, c, d⟩ ⟨Bs, U, k1, k3, k4, hd, k5⟩ next2 ih2
 simp only at k3 k4 k5 hd ⊢
 subst hd
 have kl := k5.length_eq
 simp only [List.length_append] at kl
 refine Ok.bv fun z3 e3 => Ok.it (fun h3 => ?_) fun h3 => ?_
 · have hle : c ≤ n := by rw [e3] at h3; simpa using h3
   have hU : U = U.take 20 ++ U.drop 20 := (List.take_append_drop _ _).symm
   have hU1 : (U.take 20).length = 20 := by rw [List.length_take]; omega
   generalize U.take 20 = U1 at *
   generalize U.drop 20 = U2 at *
   subst hU
   rw [List.length_append] at kl
   have hmm : ∀ x ∈ U1, x ∈ l := fun x hx => k5.mem_iff.1 (by simp [hx])
   have hin := InsT.ins_ok C Bs.flatten U1 U2 (cmp := cmp) (fun x hx y hy => hc x (hmm x hx) y (hmm y hy)) (by omega) (a := a) (b := c) k3 (by omega)
   rw [List.append_assoc] at hin
   refine Ok.ob hin fun y _ hy => Ok.bv fun z4 e4 => ?_
   obtain ⟨V, rfl, p1, s1⟩ := hy
   have e4' : z4 = c + 20 := (wI64 e4).2 (by omega)
   have hVl := p1.length_eq
   refine ih2 _ ⟨Bs ++ [V], U2, fun D hD => ?_, ?_, by simp only; omega, by simp, ?_⟩ (by simp only; omega)
   · rcases List.mem_append.1 hD with hD | hD
     · exact k1 D hD
     · rw [List.mem_singleton.1 hD]
       exact ⟨by omega, s1⟩
   · simp only [List.flatten_append, List.flatten_cons, List.flatten_nil, List.append_nil, List.length_append]; omega
   · refine List.Perm.trans ?_ k5
     simp only [List.append_assoc]
     exact List.Perm.append_left _ (p1.append_right _)
 · have hgt : ¬ c ≤ n := by rw [e3] at h3; simpa using h3
   exact h2 Bs U a k1 k3 (by omega) k5
end Sym
theorem sortT_tot {l : List T} (hl : l.length ≤ 2000) (hv : ∀ t ∈ l, t.v.length ≤ 2000) : SortsT l := by
 unfold SortsT slices_SortStableFunc_Term
 exact Ok.ob (Sym.stable_ok cmpT (cmp := poly_norm_1) rfl hl fun x hx y hy => norm1_eq (hv x hx) (hv y hy)) fun y _ hy => Ok.sm hy
end Go.Sp
end
section
namespace Go.Sp
open Go.Stp Go.ValP
theorem NormOf.cst {c : Int} (h : 0 ≤ c ∧ c ≤ 1000000) {a : List T × Bool} (k : NormOf [⟨c, []⟩] a) : a = (if c = 0 then [] else [⟨c, []⟩], true) := by
 by_cases h0 : c = 0
 · rw [if_pos h0]
   subst h0
   exact k.stay StP.nil ⟨by simp, by simp⟩ fun φ => by simp [EV]
 · rw [if_neg h0]
   refine k.stay ⟨List.pairwise_singleton _ _, fun t ht => ?_⟩ ⟨by simp, fun t ht => ?_⟩ fun φ => rfl
   · obtain rfl : t = ⟨c, []⟩ := by simpa using ht
     simp only; omega
   · obtain rfl : t = ⟨c, []⟩ := by simpa using ht
     exact ⟨by simp, h.2⟩
theorem poly_Const_tot {c : Int} : Ok (poly_Const c) (fun r => (0 ≤ c ∧ c ≤ 1000000 → r = (if c = 0 then [] else [⟨c, []⟩], true)) ∧ (¬ (0 ≤ c ∧ c ≤ 1000000) → r = ([], false))) := by
 unfold poly_Const
 refine Ok.bv fun z1 e1 => Ok.bv fun z2 e2 => Ok.bv fun z3 e3 => Ok.it (fun h => ?_) fun h => ?_
 · rw [e3, e1, e2] at h
   simp at h
   exact Ok.sm ⟨fun h' => by omega, fun _ => rfl⟩
 · rw [e3, e1, e2] at h
   simp at h
   refine Ok.ob (poly_norm_tot (sortT_small (by simp) (by simp)) (by simp) (by simp; omega) (by simp [sumN]; omega)) fun y _ hy => Ok.sm ⟨fun h' => ?_, fun h' => by omega⟩
   exact hy.cst h'
theorem flatten_take {α : Type} [Inhabited α] {ps : List (List α)} {i : Int} (h0 : 0 ≤ i) (h1 : i < (ps.length : Int)) : (ps.take (i + 1).toNat).flatten = (ps.take i.toNat).flatten ++ gel ps i := by
 rw [take_gel h0 h1, List.flatten_append]
 simp
theorem poly_Add_tot {ps : List (List T)} (hs : SortsT ps.flatten) (hp : ps.length ≤ 2000) (hl : ps.flatten.length ≤ 2000) (hv : ∀ t ∈ ps.flatten, 0 ≤ t.n ∧ t.v.length ≤ 2000) (hn : sumN ps.flatten ≤ 9223372036854775807) : Ok (poly_Add ps) (NormOf ps.flatten) := by
 unfold poly_Add
 refine Ok.bv fun J hJ => ?_
 refine Ok.bv fun B hB => ?_
 subst hB
 refine Ok.lp (fun s : Int × List T => 0 ≤ s.1 ∧ s.1 ≤ ps.length ∧ s.2 = (ps.take s.1.toNat).flatten) (fun s => (ps.length - s.1).toNat) ⟨by simp, by simp, by simp⟩ (by simp only; omega) ?_
 rintro ⟨i, all⟩ ⟨s0, s1, s2⟩ next ih
 simp only at s0 s1 s2 ⊢
 refine Ok.bv fun z1 e1 => Ok.it (fun h1 => ?_) fun h1 => ?_
 · have hlt : i < ps.length := by rw [e1] at h1; simpa using h1
   refine Ok.ck ⟨s0, hlt⟩ ?_
   refine Ok.bv fun p ep => ?_
   have hnx := flatten_take s0 hlt
   rw [← ep, ← s2] at hnx
   have hle : (all ++ p).length ≤ 2000 := by
    rw [← hnx]
    have : ((ps.take (i + 1).toNat).flatten).length ≤ ps.flatten.length := by
     conv => rhs; rw [← List.take_append_drop (i + 1).toNat ps, List.flatten_append, List.length_append]
     omega
    omega
   rw [List.length_append] at hle
   refine Ok.ck (by omega) ?_
   refine Ok.bv fun z2 e2 => Ok.bv fun z3 e3 => ?_
   have e3' : z3 = i + 1 := (wI64 e3).2 (by omega)
   exact ih _ ⟨by simp only; omega, by simp only; omega, by simp only [e2, e3']; exact hnx.symm⟩ (by simp only; omega)
 · have hge : ¬ i < ps.length := by rw [e1] at h1; simpa using h1
   rw [List.take_of_length_le (by omega)] at s2
   rw [hJ, s2]
   exact Ok.ob (poly_norm_tot hs hl hv hn) fun y _ hy => Ok.sm hy
def insC (x : C) : List C → List C
 | [] => [x]
 | y :: l => if cmpC x y ≤ 0 then x :: y :: l else y :: insC x l
def srtC : List C → List C
 | [] => []
 | x :: l => insC x (srtC l)
theorem insC_perm (x : C) : ∀ (l : List C), (insC x l).Perm (x :: l)
 | [] => .refl _
 | y :: l => by
  unfold insC
  split
  · exact .refl _
  · exact ((insC_perm x l).cons y).trans (List.Perm.swap x y l)
theorem insC_srt (x : C) : ∀ {l : List C}, SrtC l → SrtC (insC x l)
 | [], _ => List.pairwise_singleton _ _
 | y :: l, h => by
  have h' := List.pairwise_cons.1 h
  unfold insC
  split
  · rename_i hc
    refine List.pairwise_cons.2 ⟨fun z hz => ?_, h⟩
    rcases List.mem_cons.1 hz with rfl | hz
    · exact hc
    · exact cmpC_trans x y z hc (h'.1 z hz)
  · rename_i hc
    refine List.pairwise_cons.2 ⟨fun z hz => ?_, insC_srt x h'.2⟩
    rcases List.mem_cons.1 ((insC_perm x l).mem_iff.1 hz) with rfl | hz
    · have := cmpC_anti y z
      have := cmpC_anti z y
      omega
    · exact h'.1 z hz
theorem srtC_perm : ∀ (l : List C), (srtC l).Perm l
 | [] => .refl _
 | x :: l => (insC_perm x (srtC l)).trans ((srtC_perm l).cons x)
theorem srtC_srt : ∀ (l : List C), SrtC (srtC l)
 | [] => List.Pairwise.nil
 | x :: l => insC_srt x (srtC_srt l)
theorem sortC_eq {l : List C} (hl : l.length ≤ 12) : slices_SortFunc_Cell l poly_Mul_1 = some (srtC l) := by
 obtain ⟨v, h, h1, h2⟩ := sortC_tot hl
 rw [h, h2.uniq (srtC_srt l) (h1.trans (srtC_perm l).symm)]
def row1 (x : T) (b : List T) : List T := b.map fun y => ⟨x.n * y.n, srtC (x.v ++ y.v)⟩
def prods (a b : List T) : List T := a.flatMap fun x => row1 x b
theorem poly_Mul_tot {a b : List T} (hs : SortsT (prods a b)) (ha : a.length ≤ 2000) (hb : b.length ≤ 2000) (hl : (prods a b).length ≤ 2000) (hx : ∀ x ∈ a, ∀ y ∈ b, x.v.length + y.v.length ≤ 12 ∧ 0 ≤ x.n * y.n ∧ x.n * y.n ≤ 1000000000000) : Ok (poly_Mul a b) (NormOf (prods a b)) := by
 have hmem : ∀ t ∈ prods a b, ∃ x ∈ a, ∃ y ∈ b, t = ⟨x.n * y.n, srtC (x.v ++ y.v)⟩ := fun t ht => by
  obtain ⟨x, h1, h2⟩ := List.mem_flatMap.1 ht
  obtain ⟨y, h3, h4⟩ := List.mem_map.1 h2
  exact ⟨x, h1, y, h3, h4.symm⟩
 have hv : ∀ t ∈ prods a b, 0 ≤ t.n ∧ t.v.length ≤ 2000 := fun t ht => by
  obtain ⟨x, h1, y, h2, rfl⟩ := hmem t ht
  have := hx x h1 y h2
  refine ⟨this.2.1, ?_⟩
  simp only [(srtC_perm _).length_eq, List.length_append]
  omega
 have hn : sumN (prods a b) ≤ 9223372036854775807 := by
  have key : ∀ (l : List T), (∀ t ∈ l, t.n ≤ 1000000000000) → sumN l ≤ l.length * 1000000000000 := by
   intro l
   induction l with
   | nil => intro _; simp [sumN]
   | cons t l ih =>
    intro h
    have h1 := h t (by simp)
    have h2 := ih fun u hu => h u (by simp [hu])
    simp only [sumN, List.length_cons]
    omega
  have := key (prods a b) fun t ht => by
   obtain ⟨x, h1, y, h2, rfl⟩ := hmem t ht
   exact (hx x h1 y h2).2.2
  omega
 unfold poly_Mul
 refine Ok.bv fun J hJ => ?_
 refine Ok.bv fun B hB => ?_
 subst hB
 refine Ok.lp (fun s : Int × List T => 0 ≤ s.1 ∧ s.1 ≤ a.length ∧ s.2 = prods (a.take s.1.toNat) b) (fun s => (a.length - s.1).toNat) ⟨by simp, by simp, by simp [prods]⟩ (by simp only; omega) ?_
 rintro ⟨i, all⟩ ⟨s0, s1, s2⟩ next ih
 simp only at s0 s1 s2 ⊢
 refine Ok.bv fun z1 e1 => Ok.it (fun h1 => ?_) fun h1 => ?_
 · have hlt : i < a.length := by rw [e1] at h1; simpa using h1
   refine Ok.ck ⟨s0, hlt⟩ ?_
   refine Ok.bv fun x ex => ?_
   have hxa : x ∈ a := by rw [ex]; exact gel_mem ⟨s0, hlt⟩
   have hnx : prods (a.take (i + 1).toNat) b = all ++ row1 x b := by
    rw [take_gel s0 hlt, ← ex, s2]
    unfold prods
    rw [List.flatMap_append]
    simp
   have hle : (all ++ row1 x b).length ≤ 2000 := by
    rw [← hnx]
    have : (prods (a.take (i + 1).toNat) b).length ≤ (prods a b).length := by
     unfold prods
     conv => rhs; rw [← List.take_append_drop (i + 1).toNat a, List.flatMap_append, List.length_append]
     omega
    omega
   rw [List.length_append] at hle
   have hrl : (row1 x b).length = b.length := by simp [row1]
   refine Ok.bv fun B2 hB2 => ?_
   subst hB2
   refine Ok.lp (fun t : Int × List T => 0 ≤ t.1 ∧ t.1 ≤ b.length ∧ t.2 = all ++ row1 x (b.take t.1.toNat)) (fun t => (b.length - t.1).toNat) ⟨by simp, by simp, by simp [row1]⟩ (by simp only; omega) ?_
   rintro ⟨j, al2⟩ ⟨t0, t1, t2⟩ next2 ih2
   simp only at t0 t1 t2 ⊢
   refine Ok.bv fun z2 e2 => Ok.it (fun h2 => ?_) fun h2 => ?_
   · have hlt2 : j < b.length := by rw [e2] at h2; simpa using h2
     refine Ok.ck ⟨t0, hlt2⟩ ?_
     refine Ok.bv fun y ey => ?_
     have hyb : y ∈ b := by rw [ey]; exact gel_mem ⟨t0, hlt2⟩
     have hxy := hx x hxa y hyb
     refine Ok.ck (by omega) ?_
     refine Ok.ck (by omega) ?_
     refine Ok.bv fun v ev => ?_
     rw [sortC_eq (by rw [ev, List.length_append]; exact hxy.1)]
     refine Ok.os fun w ew => ?_
     refine Ok.bv fun m em => ?_
     have em' : m = x.n * y.n := (wI64 em).2 (by omega)
     have hal : al2.length ≤ 2000 := by
      rw [t2, List.length_append]
      have : (row1 x (b.take j.toNat)).length ≤ b.length := by simp [row1]; omega
      omega
     refine Ok.ck (by simp; omega) ?_
     refine Ok.bv fun z3 e3 => Ok.bv fun z4 e4 => ?_
     have e4' : z4 = j + 1 := (wI64 e4).2 (by omega)
     refine ih2 _ ⟨by simp only; omega, by simp only; omega, ?_⟩ (by simp only; omega)
     simp only [e3, e4', t2, take_gel t0 hlt2, ← ey, ew, ev, em']
     simp [row1]
   · have hge2 : ¬ j < b.length := by rw [e2] at h2; simpa using h2
     rw [List.take_of_length_le (by omega)] at t2
     refine Ok.bv fun z3 e3 => ?_
     have e3' : z3 = i + 1 := (wI64 e3).2 (by omega)
     exact ih _ ⟨by simp only; omega, by simp only; omega, by simp only [e3', t2]; exact hnx.symm⟩ (by simp only; omega)
 · have hge : ¬ i < a.length := by rw [e1] at h1; simpa using h1
   rw [List.take_of_length_le (by omega)] at s2
   rw [hJ, s2]
   exact Ok.ob (poly_norm_tot hs hl hv hn) fun y _ hy => Ok.sm hy
theorem sumN_bd {B : Int} (hB : 0 ≤ B) : ∀ {l : List T}, (∀ t ∈ l, t.n ≤ B) → sumN l ≤ l.length * B
 | [], _ => by simp [sumN]
 | t :: l, h => by
  have h1 := h t (by simp)
  have h2 := sumN_bd hB (l := l) fun u hu => h u (by simp [hu])
  simp only [sumN, List.length_cons]
  have : ((l.length + 1 : Nat) : Int) * B = l.length * B + B := by rw [Int.natCast_add, Int.add_mul]; simp
  omega
theorem mul_bd {a b A B : Int} (ha : 0 < a ∧ a ≤ A) (hb : 0 < b ∧ b ≤ B) : 0 < a * b ∧ a * b ≤ A * B :=
 ⟨Int.mul_pos ha.1 hb.1, Int.mul_le_mul ha.2 hb.2 (by omega) (by omega)⟩
theorem prods_len (a b : List T) : (prods a b).length = a.length * b.length := by
 unfold prods
 induction a with
 | nil => simp
 | cons x a ih => simp only [List.flatMap_cons, List.length_append, ih, List.length_cons, Nat.add_mul]; simp [row1]; omega
theorem EV_row (φ : List C → Int) (x : T) : ∀ (b : List T), EV φ (row1 x b) = x.n * EV (fun v => φ (srtC (x.v ++ v))) b
 | [] => by simp [row1, EV]
 | y :: b => by
  have ih := EV_row φ x b
  unfold row1 at ih ⊢
  simp only [List.map_cons, EV, ih, Int.mul_add, Int.mul_assoc]
theorem EV_prods (φ : List C → Int) : ∀ (a b : List T), EV φ (prods a b) = EV (fun v => EV (fun w => φ (srtC (v ++ w))) b) a
 | [], b => rfl
 | x :: a, b => by
  have ih := EV_prods φ a b
  unfold prods at ih ⊢
  rw [List.flatMap_cons, EV_append, ih, EV_row]
  rfl
theorem EV_lin (f g : List C → Int) (c : Int) : ∀ (b : List T), EV (fun w => c * f w + g w) b = c * EV f b + EV g b
 | [] => by simp [EV]
 | y :: b => by
  simp only [EV, EV_lin f g c b, Int.mul_add]
  have : y.n * (c * f y.v) = c * (y.n * f y.v) := by rw [← Int.mul_assoc, ← Int.mul_assoc, Int.mul_comm y.n]
  omega
theorem EV_zero : ∀ (b : List T), EV (fun _ => 0) b = 0
 | [] => rfl
 | y :: b => by simp [EV, EV_zero b]
end Go.Sp
end
section
namespace Go.Sp
open Go.Stp Go.ValP
theorem shr32 {z x : Int} (h : 0 ≤ x) (e : z = shrI .u64 x 32) : z = x / 4294967296 := by
 subst e
 unfold shrI
 have : min (32 : Int).toNat (IntKind.u64.bits) = 32 := rfl
 rw [this, Int.fdiv_eq_ediv_of_nonneg _ (by decide)]
 rfl
end Go.Sp
end
section
namespace Go.Sp
open Go.Stp Go.ValP
theorem num_abs_val {x : Int} (h : -9223372036854775808 ≤ x ∧ x ≤ 9223372036854775807) : Ok (num_abs x) (fun y => (x < 0 → y = -x) ∧ (0 ≤ x → y = x)) := by
 unfold num_abs
 refine Ok.bv fun z ez => Ok.it (fun e => Ok.bv fun a ea => Ok.bv fun b eb => Ok.sm ?_) (fun e => Ok.bv fun a ea => Ok.sm ?_)
 · simp [ez] at e
   have wb := wU64 eb
   simp [IntKind.wrap, IntKind.bits, IntKind.signed] at ea eb
   omega
 · simp [ez] at e
   have := (wU64 ea).2
   omega
theorem shl44 {z x : Int} (e : z = shlI .u64 x 44) : z = x * 17592186044416 % 18446744073709551616 := by
 subst e
 unfold shlI
 have : min (44 : Int).toNat (IntKind.u64.bits) = 44 := rfl
 rw [this]
 simp [IntKind.wrap, IntKind.bits, IntKind.signed]
theorem shr44 {z x : Int} (h : 0 ≤ x) (e : z = shrI .u64 x 44) : z = x / 17592186044416 := by
 subst e
 unfold shrI
 have : min (44 : Int).toNat (IntKind.u64.bits) = 44 := rfl
 rw [this, Int.fdiv_eq_ediv_of_nonneg _ (by decide)]
 rfl
theorem shr20 {z x : Int} (h : 0 ≤ x) (e : z = shrI .u64 x 20) : z = x / 1048576 := by
 subst e
 unfold shrI
 have : min (20 : Int).toNat (IntKind.u64.bits) = 20 := rfl
 rw [this, Int.fdiv_eq_ediv_of_nonneg _ (by decide)]
 rfl
theorem or44 {z a b : Int} (ha : 0 ≤ a ∧ a < 1000000) (hb : 0 ≤ b ∧ b < 17592186044416) (e : z = bits .or .u64 (a * 17592186044416) b) : z = a * 17592186044416 + b := by
 obtain ⟨A, rfl⟩ := Int.eq_ofNat_of_zero_le ha.1
 obtain ⟨B, rfl⟩ := Int.eq_ofNat_of_zero_le hb.1
 have e1 : ((A : Int) * 17592186044416) = ((2 ^ 44 * A : Nat) : Int) := by
  rw [Int.natCast_mul, Int.mul_comm]
  rfl
 rw [e1, u64_or_nat (2 ^ 44 * A) B (by omega) (by omega), ← Nat.two_pow_add_eq_or_of_lt (by omega : B < 2 ^ 44) A] at e
 rw [e]
 omega
theorem wU64m {z E : Int} (e : z = IntKind.wrap .u64 E) : z = E % 18446744073709551616 := by
 rw [e]
 simp [IntKind.wrap, IntKind.bits, IntKind.signed]
theorem bitLen_M : Lib.bitLen (Int.toNat 1000000) = 20 := by decide +kernel
theorem tdiv_pos {a c : Int} (ha : 0 ≤ a) : a.tdiv c = a / c := Int.tdiv_eq_ediv_of_nonneg ha
theorem bits_Div64_M {h l : Int} (h0 : 0 ≤ h ∧ h < 1000000) (l0 : 0 ≤ l ∧ l ≤ 18446744073709551615) :
 Ok (bits_Div64 h l 1000000) (fun r => r.1 * 1000000 + r.2 = h * 18446744073709551616 + l ∧ 0 ≤ r.2 ∧ r.2 < 1000000 ∧ 0 ≤ r.1) := by
 unfold bits_Div64
 refine Ok.bv fun J2 eJ2 => Ok.bv fun z0 ez0 => Ok.it (fun e => ?_) (fun _ => ?_)
 · rw [ez0] at e; simp at e
 rw [eJ2]
 refine Ok.bv fun J4 eJ4 => Ok.bv fun z1 ez1 => Ok.it (fun e => ?_) (fun _ => ?_)
 · rw [ez1] at e; simp at e; omega
 rw [eJ4]
 clear eJ4 eJ2 ez0 ez1
 refine Ok.bv fun z2 ez2 => Ok.it (fun e => ?_) (fun e => ?_)
 · refine Ok.ck (by omega) (Ok.bv fun q eq => Ok.ck (by omega) (Ok.bv fun r er => Ok.sm ?_))
   have hh : h = 0 := by rw [ez2] at e; simpa using e
   rw [tdiv_pos l0.1] at eq
   have e1 := (wU64 eq).2 (by omega)
   rw [Int.tmod_eq_emod_of_nonneg l0.1] at er
   simp only
   omega
 clear ez2 e
 refine Ok.ck (by omega) (Ok.bv fun s es => Ok.bv fun s' es' => ?_)
 rw [bitLen_M] at es
 have hs : s' = 44 := by have := (wU64 es').2 (by omega); omega
 subst hs
 clear es es'
 refine Ok.ck (by omega) (Ok.bv fun y ey => Ok.ck (by decide) (Ok.bv fun yn1 eyn1 => Ok.bv fun yn0 eyn0 => Ok.ck (by omega) (Ok.bv fun z46 e46 => Ok.bv fun z49 e49 => ?_)))
 have hy : y = 17592186044416000000 := by have := shl44 ey; omega
 subst hy
 have hyn1 : yn1 = 4096000000 := by have := shr32 (by omega) eyn1; omega
 subst hyn1
 have hyn0 : yn0 = 0 := by rw [and_low32 _ (by omega) (by omega)] at eyn0; omega
 subst hyn0
 have h46 : z46 = h * 17592186044416 := by have := shl44 e46; omega
 subst h46
 have h49 : z49 = 20 := by have := (wU64 e49).2 (by omega); omega
 subst h49
 clear ey eyn1 eyn0 e46 e49
 refine Ok.ck (by omega) (Ok.bv fun z50 e50 => Ok.bv fun un32 e51 => Ok.ck (by omega) (Ok.bv fun un10 e54 => Ok.ck (by decide) (Ok.bv fun un1 e56 => Ok.bv fun un0 e58 => Ok.ck (by omega) (Ok.bv fun q1 eq1 => Ok.bv fun z65 e65 => Ok.bv fun rh erh => ?_))))
 have h50 := shr20 l0.1 e50
 have h51 := or44 h0 (by omega) e51
 have h54 := shl44 e54
 have h56 := shr32 (by omega) e56
 have h58 : un0 = 0 := by rw [and_low32 _ (by omega) (by omega)] at e58; omega
 subst h58
 clear e50 e51 e54 e56 e58
 have hun1 : un1 = l % 1048576 * 4096 := by omega
 rw [tdiv_pos (by omega)] at eq1
 have hq1 := (wU64 eq1).2 (by omega)
 have h65 := (wU64 e65).2 (by omega)
 have hrh := (wU64 erh).2 (by omega)
 have hrb : 0 ≤ rh ∧ rh < 4096000000 := by omega
 have hqb : 0 ≤ q1 ∧ q1 < 4294967296 := by omega
 have hdiv : un32 = q1 * 4096000000 + rh := by omega
 clear eq1 e65 erh hq1 hrh h65
 refine Ok.bv fun J37 eJ37 => ?_
 have hJ : Ok (J37 q1) (fun r => r.1 * 1000000 + r.2 = h * 18446744073709551616 + l ∧ 0 ≤ r.2 ∧ r.2 < 1000000 ∧ 0 ≤ r.1) := by
  rw [eJ37]
  refine Ok.bv fun z87 e87 => Ok.bv fun z89 e89 => Ok.bv fun z92 e92 => Ok.bv fun z93 e93 => Ok.ck (by omega) (Ok.bv fun q0 eq0 => Ok.bv fun z100 e100 => Ok.bv fun rh2 erh2 => ?_)
  have h87 := wU64m e87
  have h89 := wU64m e89
  have h92 := wU64m e92
  have h93 := wU64m e93
  have hun1b : 0 ≤ un1 ∧ un1 < 4294967296 := by omega
  have h93' : z93 = rh * 4294967296 + un1 := by
   clear e87 e89 e92 e93 eJ37
   rw [hdiv] at h87
   omega
  clear e87 e89 e92 e93 h87 h89 h92 h93
  rw [tdiv_pos (by omega)] at eq0
  have hq0 := (wU64 eq0).2 (by omega)
  have h100 := (wU64 e100).2 (by omega)
  have hrh2 := (wU64 erh2).2 (by omega)
  have hr2b : 0 ≤ rh2 ∧ rh2 < 4096000000 := by omega
  have hq0b : 0 ≤ q0 ∧ q0 < 4294967296 := by omega
  have hdiv2 : z93 = q0 * 4096000000 + rh2 := by omega
  clear eq0 e100 erh2 hq0 h100 hrh2
  refine Ok.bv fun J47 eJ47 => ?_
  have hJ2 : Ok (J47 q0) (fun r => r.1 * 1000000 + r.2 = h * 18446744073709551616 + l ∧ 0 ≤ r.2 ∧ r.2 < 1000000 ∧ 0 ≤ r.1) := by
   rw [eJ47]
   refine Ok.bv fun a1 ea1 => Ok.bv fun a2 ea2 => Ok.bv fun a3 ea3 => Ok.bv fun a4 ea4 => Ok.bv fun a5 ea5 => Ok.bv fun a6 ea6 => Ok.ck (by omega) (Ok.bv fun a7 ea7 => Ok.sm ?_)
   have h1 := (wU64 ea1).2 (by omega)
   have h2 := (wU64 ea2).2 (by omega)
   have h3 := wU64m ea3
   have h4 := wU64m ea4
   have h5 := wU64m ea5
   have h6 := wU64m ea6
   have h6' : a6 = rh2 * 4294967296 := by
    rw [hdiv2] at h3
    clear ea1 ea2 ea3 ea4 ea5 ea6 eJ47 eJ37
    omega
   have h7 := shr44 (by omega) ea7
   have h7' : a7 = rh2 / 4096 := by omega
   clear ea1 ea2 ea3 ea4 ea5 ea6 ea7 h3 h4 h5 h6 h7 eJ47 eJ37
   simp only
   have key : 4096 * (h * 18446744073709551616 + l) = (q1 * 4294967296 + q0) * 4096000000 + rh2 := by omega
   omega
  refine Ok.bv fun B eB => ?_
  subst eB
  refine Ok.lp (fun s => s = (rh2, q0)) (fun _ => 0) rfl (by omega) fun s hI next ih => ?_
  subst hI
  refine Ok.bv fun c1 ec1 => Ok.bv fun c2 ec2 => Ok.bv fun c3 ec3 => Ok.bv fun c4 ec4 => Ok.bv fun c5 ec5 => Ok.bv fun c6 ec6 => Ok.it (fun hc => ?_) (fun _ => hJ2)
  have k2 := (wU64 ec2).2 (by simp only; omega)
  have k4 := (wU64 ec4).1
  rw [ec6, ec1, ec5] at hc
  simp at hc
  omega
 refine Ok.bv fun B eB => ?_
 subst eB
 refine Ok.lp (fun s => s = (q1, rh)) (fun _ => 0) rfl (by omega) fun s hI next ih => ?_
 subst hI
 refine Ok.bv fun c1 ec1 => Ok.bv fun c2 ec2 => Ok.bv fun c3 ec3 => Ok.bv fun c4 ec4 => Ok.bv fun c5 ec5 => Ok.bv fun c6 ec6 => Ok.it (fun hc => ?_) (fun _ => hJ)
 have k2 := (wU64 ec2).2 (by simp only; omega)
 have k4 := (wU64 ec4).1
 rw [ec6, ec1, ec5] at hc
 simp at hc
 omega
theorem num_scaled_val {x y m : Int} (hx : 0 ≤ x ∧ x ≤ 18446744073709551615) (hy : 0 ≤ y ∧ y ≤ 18446744073709551615) (hm : x * y = m * 1000000) :
 Ok (num_scaled x y 1000000) (fun r => (r.2 = true → r.1 = m) ∧ (m ≤ 18446744073709551615 → r = (m, true))) := by
 have hxy : 0 ≤ x * y := Int.mul_nonneg hx.1 hy.1
 unfold num_scaled
 refine Ok.ck ⟨hx, hy⟩ (Ok.bv fun z ez => Ok.bv fun b eb => Ok.it (fun hb => Ok.sm ⟨fun h => (by cases h), fun h => ?_⟩) (fun e => ?_))
 · rw [eb, ez] at hb
   simp at hb
   omega
 rw [eb, ez] at e
 simp only [decide_eq_false_iff_not] at e
 have h1 : z.1 = x * y / 18446744073709551616 := by rw [ez]
 have h2 : z.2 = x * y % 18446744073709551616 := by rw [ez]
 generalize x * y = w at *
 refine Ok.ob (bits_Div64_M (by omega) (by omega)) fun r er hr => Ok.bv fun J eJ => ?_
 obtain ⟨r1, r2, r3, r4⟩ := hr
 have q0 : r.2 = 0 ∧ r.1 = m := by omega
 refine Ok.bv fun z31 e31 => Ok.bv fun z32 e32 => Ok.it (fun h => ?_) fun _ => ?_
 · have := (wU64 e31).2 (by omega)
   rw [e32] at h
   simp at h
   omega
 rw [eJ]
 refine Ok.bv fun z37 e37 => Ok.bv fun z42 e42 => Ok.bv fun z43 e43 => Ok.bv fun z44 e44 => Ok.sm ?_
 have h42 := (wU64 e42).2 (by omega)
 have h43 : z43 = true := by rw [e43]; simp; omega
 have h44 : z44 = true := by rw [e44, h43]; simp
 rw [h44, q0.2]
 exact ⟨fun _ => rfl, fun _ => rfl⟩
theorem num_Mul_val {x y m : Int} (hx : 0 ≤ x ∧ x ≤ 9223372036854775807) (hy : 0 ≤ y ∧ y ≤ 9223372036854775807) (hm : x * y = m * 1000000) :
 Ok (num_Mul x y) (fun r => (r.2 = true → r.1 = m) ∧ (m ≤ 9223372036854775807 → r = (m, true))) := by
 unfold num_Mul
 refine Ok.ob (num_abs_val (by omega)) fun a ea ha => Ok.ob (num_abs_val (by omega)) fun b eb hb => ?_
 have h1 := ha.2 hx.1
 have h2 := hb.2 hy.1
 subst h1 h2
 refine Ok.ob (num_scaled_val (by omega) (by omega) hm) fun r er hr => Ok.bv fun z ez => Ok.it (fun h => Ok.sm ⟨fun h => (by cases h), fun h' => ?_⟩) (fun h => ?_)
 · rw [hr.2 (by omega)] at ez
   rw [ez] at h
   cases h
 have hr2 : r.2 = true := by rw [ez] at h; simpa using h
 have hr1 := hr.1 hr2
 have hm0 : 0 ≤ m := by have := Int.mul_nonneg hx.1 hy.1; omega
 refine Ok.bv fun z1 e1 => Ok.bv fun z2 e2 => Ok.bv fun z3 e3 => ?_
 have h1 : z1 = false := by rw [e1]; simp; omega
 have h2 : z2 = false := by rw [e2]; simp; omega
 have h3 : z3 = false := by rw [e3, h1, h2]; rfl
 subst h3
 refine Ok.ob (R := fun q : Int × Bool => (q.2 = true → q.1 = m) ∧ (m ≤ 9223372036854775807 → q = (m, true))) ?_ fun q _ hq => Ok.sm hq
 unfold num_signed
 refine Ok.bv fun z ez => Ok.it (fun e => Ok.sm ⟨fun h => (by cases h), fun h => ?_⟩) (fun e => ?_)
 · rw [ez] at e; simp at e; omega
 simp only [Bool.false_eq_true, if_false]
 refine Ok.bv fun a ea => Ok.sm ?_
 rw [ez] at e
 simp at e
 have := (wI64 ea).2 (by omega)
 rw [this, hr1]
 exact ⟨fun _ => rfl, fun _ => rfl⟩
theorem num_Of_eq {c : Int} (h : 0 ≤ c ∧ c ≤ 9223372036854) : num_Of c = some (c * 1000000, true) := by
 have : Ok (num_Of c) (fun r => r = (c * 1000000, true)) := by
  unfold num_Of
  refine Ok.bv fun z1 e1 => Ok.bv fun z2 e2 => Ok.bv fun z3 e3 => Ok.it (fun h3 => ?_) fun _ => Ok.bv fun z4 e4 => Ok.sm ?_
  · rw [e3, e1, e2] at h3
    simp at h3
    omega
  · have := (wI64 e4).2 (by omega)
    rw [this]
 obtain ⟨v, h, rfl⟩ := this
 exact h
def prG (g : C → Int) : List C → Int
 | [] => 1
 | c :: l => g c * prG g l
theorem prG_append (g : C → Int) : ∀ (a b : List C), prG g (a ++ b) = prG g a * prG g b
 | [], b => by simp [prG]
 | c :: a, b => by simp only [List.cons_append, prG, prG_append g a b, Int.mul_assoc]
theorem prG_perm (g : C → Int) {a b : List C} (h : a.Perm b) : prG g a = prG g b := by
 induction h with
 | nil => rfl
 | cons x _ ih => simp only [prG, ih]
 | swap x y l => simp only [prG]; rw [← Int.mul_assoc, ← Int.mul_assoc, Int.mul_comm (g y)]
 | trans _ _ h1 h2 => exact h1.trans h2
theorem prG_pos {g : C → Int} (hg : ∀ c, 0 ≤ g c) : ∀ {l : List C}, 0 ≤ prG g l ∧ (0 < prG g l ↔ ∀ c ∈ l, 0 < g c)
 | [] => by simp [prG]
 | c :: l => by
  have ih := prG_pos hg (l := l)
  have hc := hg c
  simp only [prG, List.mem_cons]
  refine ⟨Int.mul_nonneg hc ih.1, fun h => ?_, fun h => Int.mul_pos (h c (.inl rfl)) (ih.2.2 fun d hd => h d (.inr hd))⟩
  by_cases h1 : g c = 0
  · rw [h1, Int.zero_mul] at h; omega
  · by_cases h2 : prG g l = 0
    · rw [h2, Int.mul_zero] at h; omega
    · intro d hd
      rcases hd with rfl | hd
      · omega
      · exact ih.2.1 (by omega) d hd
theorem EV_prods_prG (g : C → Int) (a b : List T) : EV (prG g) (prods a b) = EV (prG g) a * EV (prG g) b := by
 rw [EV_prods]
 have : (fun v => EV (fun w => prG g (srtC (v ++ w))) b) = fun v => EV (prG g) b * prG g v + 0 := by
  funext v
  have h2 : (fun w => prG g (srtC (v ++ w))) = fun w => prG g v * prG g w + 0 := by
   funext w
   rw [prG_perm g (srtC_perm _), prG_append, Int.add_zero]
  rw [h2, EV_lin (prG g) (fun _ => 0) (prG g v) b, EV_zero, Int.mul_comm]
 rw [this, EV_lin (prG g) (fun _ => 0) _ a, EV_zero, Int.add_zero, Int.mul_comm]
end Go.Sp
end
section
namespace Go.Sp
open Go.Stp Go.ValP
theorem value_Text_eq (t : List UInt8) : value_Text t = some (if 64 < (t.length : Int) then ⟨4, 2, []⟩ else ⟨2, 0, t⟩) := by
 unfold value_Text bindv
 by_cases h : 64 < (t.length : Int) <;> simp [h, obind, value_Fail]
theorem value_Bool_eq (b : Bool) : value_Bool b = some ⟨3, if b = true then 1 else 0, []⟩ := by
 cases b <;> rfl
theorem value_Made_eq (n : Int) (b : Bool) : value_Made n b = some (if b = true then ⟨1, n, []⟩ else ⟨4, 5, []⟩) := by
 cases b <;> rfl
theorem and1 (n : Int) : 0 ≤ bits .and .i64 n 1 ∧ bits .and .i64 n 1 ≤ 1 := by
 have h : (BitVec.ofInt 64 n &&& BitVec.ofInt 64 1).toNat ≤ 1 := by
  rw [BitVec.toNat_and]
  exact Nat.and_le_right
 show 0 ≤ IntKind.i64.wrap ((BitVec.ofInt 64 n &&& BitVec.ofInt 64 1).toNat : Int) ∧ IntKind.i64.wrap ((BitVec.ofInt 64 n &&& BitVec.ofInt 64 1).toNat : Int) ≤ 1
 generalize (BitVec.ofInt 64 n &&& BitVec.ofInt 64 1).toNat = v at h
 have := (wI64 (z := IntKind.i64.wrap (v : Int)) rfl).2 (by omega)
 omega
def Rt (v : V) : Prop :=
 (v.k = 0 ∧ v.n = 0 ∧ v.s = []) ∨ (v.k = 1 ∧ (-9223372036854775807 ≤ v.n ∧ v.n ≤ 9223372036854775807) ∧ v.s = []) ∨ (v.k = 2 ∧ v.n = 0 ∧ v.s.length ≤ 64) ∨
  (v.k = 3 ∧ (v.n = 0 ∨ v.n = 1) ∧ v.s = []) ∨ (v.k = 4 ∧ (1 ≤ v.n ∧ v.n ≤ 7) ∧ v.s = [])
theorem Rt.n {v : V} (h : Rt v) : -9223372036854775807 ≤ v.n ∧ v.n ≤ 9223372036854775807 := by unfold Rt at h; omega
theorem bits1 : bits .and .i64 0 1 = 0 ∧ bits .and .i64 1 1 = 1 := by decide
theorem Rt.right {v : V} (h : Rt v) : value_Right v = some true := by
 rcases h with h | h | h | h | h <;> obtain ⟨h1, h2, h3⟩ := h
 · simp [value_Right, bindv, h1, h2, h3]
 · have : v.n ≠ -9223372036854775808 := by omega
   simp [value_Right, bindv, h1, h3, this]
 · simp [value_Right, bindv, h1, h2]; omega
 · rcases h2 with h2 | h2 <;> simp [value_Right, bindv, h1, h2, h3, bits1]
 · simp [value_Right, bindv, h1, h3]; omega
theorem rtNum {n : Int} (h : -9223372036854775807 ≤ n ∧ n ≤ 9223372036854775807) : Rt ⟨1, n, []⟩ := .inr (.inl ⟨rfl, h, rfl⟩)
theorem rtFail {n : Int} (h : 1 ≤ n ∧ n ≤ 7) : Rt ⟨4, n, []⟩ := .inr (.inr (.inr (.inr ⟨rfl, h, rfl⟩)))
theorem value_Num_tot {x0 : Int} (h : -9223372036854775807 ≤ x0 ∧ x0 ≤ 9223372036854775807) : Ok (value_Num x0) (fun r => Rt r ∧ (r.k = 4 ∨ r.k = 1)) := Ok.sm ⟨rtNum h, .inr rfl⟩
theorem value_Fail_tot {x0 : Int} (h : 1 ≤ x0 ∧ x0 ≤ 7) : Ok (value_Fail x0) (fun r => Rt r ∧ (r.k = 4 ∨ r.k = 1)) := Ok.sm ⟨rtFail h, .inl rfl⟩
theorem value_Bool_tot {x0 : Bool} : Ok (value_Bool x0) Rt := by
 rw [value_Bool_eq]
 cases x0
 · exact Ok.sm (.inr (.inr (.inr (.inl ⟨rfl, .inl rfl, rfl⟩))))
 · exact Ok.sm (.inr (.inr (.inr (.inl ⟨rfl, .inr rfl, rfl⟩))))
theorem value_Text_tot {x0 : List UInt8} : Ok (value_Text x0) (fun r => Rt r ∧ r.s.length ≤ 64) := by
 rw [value_Text_eq]
 by_cases h : 64 < (x0.length : Int)
 · rw [if_pos h]; exact Ok.sm ⟨rtFail (by decide), by decide⟩
 · rw [if_neg h]; exact Ok.sm ⟨.inr (.inr (.inl ⟨rfl, rfl, by simp only; omega⟩)), by simp only; omega⟩
theorem all_snoc {α : Type} {l : List α} {z : α} {P : α → Prop} (h : ∀ x ∈ l, P x) (hz : P z) : ∀ x ∈ l ++ [z], P x := by
 intro x hx
 rcases List.mem_append.1 hx with h' | h'
 · exact h x h'
 · rw [List.mem_singleton.1 h']; exact hz
theorem all_cut {α : Type} {l : List α} {P : α → Prop} (h : ∀ x ∈ l, P x) (a b : Int) : ∀ x ∈ cutL l a b, P x := fun x hx => h x (List.mem_of_mem_take (List.mem_of_mem_drop hx))
theorem cutL_len {α : Type} (l : List α) (a b : Int) (h : 0 ≤ a ∧ a ≤ b ∧ b ≤ (l.length : Int)) : ((cutL l a b).length : Int) = b - a := by
 unfold cutL
 rw [List.length_drop, List.length_take]
 omega
theorem rt0 : Rt ⟨0, 0, []⟩ := .inl ⟨rfl, rfl, rfl⟩
theorem ev_step (k : Nat) (r : Rn) (n : Nd) (m : List (C × Bool)) : eval_run_eval (k + 1) r n m = eval_run_eval_B (eval_run_eval k) r n m := rfl
abbrev r0 : Rf := ⟨⟨0, 0, 0⟩, false, false⟩
theorem apply_eq (op : Int) (l : List Nd) (hl : l.length ≤ 4000) : tree_Apply op l = some ⟨8, op, ⟨0, 0, []⟩, r0, r0, [], l⟩ := by
 unfold tree_Apply
 simp only [chk, bindv, List.nil_append, List.length_nil, Nat.zero_add]
 rw [if_pos (by omega)]
theorem and3 (n : Int) : 0 ≤ bits .and .i64 n 3 ∧ bits .and .i64 n 3 ≤ 3 := by
 have h : (BitVec.ofInt 64 n &&& BitVec.ofInt 64 3).toNat ≤ 3 := by
  rw [BitVec.toNat_and]
  exact Nat.and_le_right
 show 0 ≤ IntKind.i64.wrap ((BitVec.ofInt 64 n &&& BitVec.ofInt 64 3).toNat : Int) ∧ IntKind.i64.wrap ((BitVec.ofInt 64 n &&& BitVec.ofInt 64 3).toNat : Int) ≤ 3
 generalize (BitVec.ofInt 64 n &&& BitVec.ofInt 64 3).toNat = v at h
 have := (wI64 (z := IntKind.i64.wrap (v : Int)) rfl).2 (by omega)
 omega
structure Fs (N : Nat) (l : List Int) : Prop where
 len : l.length ≤ N
 by_ : ∀ b ∈ l, 0 ≤ b ∧ b ≤ 255
abbrev ks (m : List (C × Bool)) : List C := m.map (·.1)
theorem mput_ks (m : List (C × Bool)) (k : C) (v : Bool) : (ks (mput m k v) = ks m ∧ k ∈ ks m) ∨ ks (mput m k v) = ks m ++ [k] := by
 unfold mput
 cases h : kAt k m 0 with
 | none => right; simp
 | some q =>
  left
  obtain ⟨i, b⟩ := q
  have h1 := (kAt_some h).2
  simp only [Nat.sub_zero] at h1
  have hk : (ks m)[i]? = some k := by rw [List.getElem?_map, h1]; rfl
  refine ⟨?_, List.mem_of_getElem? hk⟩
  show ks (m.set i (k, v)) = ks m
  rw [ks, List.map_set]
  apply List.ext_getElem?
  intro j
  rw [List.getElem?_set]
  by_cases e : i = j
  · subst e
    have hi : i < (m.map (·.1)).length := by
     rw [List.getElem?_eq_some_iff] at hk
     exact hk.1
    rw [if_pos rfl, if_pos hi]
    exact hk.symm
  · rw [if_neg e]
theorem succ64 {z : Int} {i : Nat} (e : z = IntKind.wrap .i64 ((i : Int) + 1)) (hi : i < 1000000) : z = ((i + 1 : Nat) : Int) := by
 have := (wI64 e).2 (by omega)
 rw [this]
 simp
def fitB (c : Int) (n : Nat) : Bool := (tree_Fits c (n : Int)).getD false
theorem fitB_all : ((List.range 54).all fun c => (List.range 10).all fun n => decide (tree_Fits ((c + 1 : Nat) : Int) ((n : Nat) : Int) = some (fitB ((c + 1 : Nat) : Int) n))) = true := by decide +kernel
theorem fitB_ex : ((List.range 54).all fun c => (List.range 4).any fun n => fitB ((c + 1 : Nat) : Int) n) = true := by decide +kernel
theorem fits_eq {c : Int} {n : Nat} (h : 1 ≤ c ∧ c ≤ 54) (hn : n ≤ 9) : tree_Fits c (n : Int) = some (fitB c n) := by
 have h1 := List.all_eq_true.1 (List.all_eq_true.1 fitB_all (c - 1).toNat (List.mem_range.2 (by omega))) n (List.mem_range.2 (by omega))
 rw [show (((c - 1).toNat + 1 : Nat) : Int) = c by omega] at h1
 exact of_decide_eq_true h1
theorem fits_some {c : Int} (h : 1 ≤ c ∧ c ≤ 54) : ∃ n, n ≤ 3 ∧ fitB c n = true := by
 have h1 := List.all_eq_true.1 fitB_ex (c - 1).toNat (List.mem_range.2 (by omega))
 obtain ⟨n, hn, h2⟩ := List.any_eq_true.1 h1
 rw [show (((c - 1).toNat + 1 : Nat) : Int) = c by omega] at h2
 exact ⟨n, by have := List.mem_range.1 hn; omega, h2⟩
structure Seeded (Q : Nat → Nd → Prop) : Prop where
 lit : ∀ d v, Rt v → Q (d + 1) ⟨1, 0, v, r0, r0, [], []⟩
 cell : ∀ d (r : Rf), 0 ≤ r.c.c ∧ r.c.c ≤ 3 ∧ 0 ≤ r.c.r ∧ r.c.r ≤ 3 ∧ 0 ≤ r.c.s ∧ r.c.s ≤ 1 → Q (d + 1) ⟨2, 0, ⟨0, 0, []⟩, r, r0, [], []⟩
 span : ∀ d (r : Rf) (x y : Int), 0 ≤ r.c.c ∧ r.c.c ≤ 3 ∧ 0 ≤ r.c.r ∧ r.c.r ≤ 3 ∧ 0 ≤ r.c.s ∧ r.c.s ≤ 1 → r.c.c ≤ x ∧ x ≤ r.c.c + 1 → r.c.r ≤ y ∧ y ≤ r.c.r + 2 → Q (d + 1) ⟨3, 0, ⟨0, 0, []⟩, r, ⟨⟨r.c.s, x, y⟩, r.ac, r.ar⟩, [], []⟩
 un : ∀ d k x, k = 5 ∨ k = 6 → Q d x → Q (d + 1) ⟨k, 0, ⟨0, 0, []⟩, r0, r0, [], [x]⟩
 bin : ∀ d op x y, 1 ≤ op ∧ op ≤ 11 → Q d x → Q d y → Q (d + 1) ⟨7, op, ⟨0, 0, []⟩, r0, r0, [], [x, y]⟩
 call : ∀ d op (l : List Nd), 1 ≤ op ∧ op ≤ 54 → l.length ≤ 3 → fitB op l.length = true → (∀ x ∈ l, Q d x) → Q (d + 1) ⟨8, op, ⟨0, 0, []⟩, r0, r0, [], l⟩
theorem refQ_ok {n k : Int} : Ok (reckonerlaw05_ref n k) fun r => 0 ≤ r.c.c ∧ r.c.c ≤ 3 ∧ 0 ≤ r.c.r ∧ r.c.r ≤ 3 ∧ 0 ≤ r.c.s ∧ r.c.s ≤ 1 := by
 unfold reckonerlaw05_ref
 refine Ok.bv fun _ _ => Ok.bv fun _ _ => Ok.bv fun _ _ => Ok.bv fun _ _ => Ok.bv fun _ _ => Ok.bv fun _ _ => Ok.bv fun z1 e1 => Ok.bv fun z2 e2 => Ok.bv fun z3 e3 => Ok.bv fun J eJ => ?_
 have hJ : ∀ s, 0 ≤ s ∧ s ≤ 1 → Ok (J s) fun r => 0 ≤ r.c.c ∧ r.c.c ≤ 3 ∧ 0 ≤ r.c.r ∧ r.c.r ≤ 3 ∧ 0 ≤ r.c.s ∧ r.c.s ≤ 1 := by
  intro s hs
  rw [eJ]
  have h1 := and3 n
  have h2 := and3 z2
  rw [← e1] at h1
  rw [← e3] at h2
  exact Ok.sm ⟨h1.1, h1.2, h2.1, h2.2, hs.1, hs.2⟩
 exact Ok.bv fun _ _ => Ok.bv fun _ _ => Ok.bv fun _ _ => Ok.it (fun _ => hJ 1 (by omega)) fun _ => hJ 0 (by omega)
variable {rec : (List Int) → Int → Option ((Nd) × (List Int))} {Q : Nat → Nd → Prop}
theorem formQB_ok (hQ : Seeded Q) {d N : Nat} (hd : d ≤ 1000) (hN : N ≤ 1000) {x0 : List Int} (hx : Fs N x0) (h : ∀ l, 1 ≤ d → Fs N l → Ok (rec l ((d : Int) - 1)) fun r => Q d r.1 ∧ Fs N r.2) : Ok (reckonerlaw05_Seed_Formula_B rec x0 (d : Int)) fun r => Q (d + 1) r.1 ∧ Fs N r.2 := by
 unfold reckonerlaw05_Seed_Formula_B
 refine Ok.bv fun J3 e3 => ?_
 have hJ3 : ∀ s, 0 ≤ s.1 ∧ s.1 ≤ 255 → Fs N s.2 → Ok (J3 s) fun r => Q (d + 1) r.1 ∧ Fs N r.2 := by
  intro s hc hs
  rw [e3]
  have d16 : Int.tdiv s.1 16 = s.1 / 16 := Int.tdiv_eq_ediv_of_nonneg hc.1
  have dv : ∀ {z : Int}, z = IntKind.wrap .i64 (Int.tdiv s.1 16) → 0 ≤ z ∧ z ≤ 15 := by
   intro z e
   have := (wI64 e).2 (by omega)
   omega
  refine Ok.bv fun z30 e30 => Ok.bv fun J7 e7 => ?_
  have hJ7 : ∀ q : Int, 0 ≤ q ∧ q < 16 → (6 ≤ q → 1 ≤ d) → Ok (J7 q) fun r => Q (d + 1) r.1 ∧ Fs N r.2 := by
   intro q hq hq6
   rw [e7]
   have hr : 6 ≤ q → ∀ {z : Int} (l : List Int), z = IntKind.wrap .i64 ((d : Int) - 1) → Fs N l → Ok (rec l z) fun r => Q d r.1 ∧ Fs N r.2 := by
    intro g z l e hl
    have h1 := hq6 g
    have e := (wI64 e).2 (by omega)
    rw [e]
    exact h l h1 hl
   refine Ok.bv fun z1 e1 => Ok.it (fun c => ?_) fun c1 => ?_
   · refine Ok.bv fun z2 e2 => Ok.bv fun z3 e3' => ?_
     have h2 := dv e2
     have h3 := (wI64 e3').2 (by omega)
     exact Ok.ob (value_Num_tot (by omega)) fun v ev hv => Ok.ob (Ok.sm (P := fun n => n = (⟨1, 0, v, r0, r0, [], []⟩ : Nd)) rfl) fun n en hn => Ok.sm ⟨by rw [hn]; exact hQ.lit _ _ hv.1, hs⟩
   rw [e1, decide_eq_false_iff_not] at c1
   refine Ok.bv fun z2 e2 => Ok.it (fun c => ?_) fun c2 => ?_
   · refine Ok.ob value_Text_tot fun v1 _ hv1 => Ok.ob (Ok.sm (P := fun n => n = (⟨1, 0, v1, r0, r0, [], []⟩ : Nd)) rfl) fun n1 _ hn1 => ?_
     refine Ok.bv fun _ _ => Ok.bv fun _ _ => Ok.ob value_Bool_tot fun v2 _ hv2 => Ok.ob (Ok.sm (P := fun n => n = (⟨1, 0, v2, r0, r0, [], []⟩ : Nd)) rfl) fun n2 _ hn2 => ?_
     refine Ok.bv fun z3 e3' => Ok.bv fun z4 e4 => Ok.bv fun z5 e5 => ?_
     have h3 := dv e3'
     have h4 : z4 = z3 % 7 := by rw [e4]; exact Int.tmod_eq_emod_of_nonneg h3.1
     have h5 := (wI64 e5).2 (by omega)
     refine Ok.ob (value_Fail_tot (by omega)) fun v3 _ hv3 => Ok.ob (Ok.sm (P := fun n => n = (⟨1, 0, v3, r0, r0, [], []⟩ : Nd)) rfl) fun n3 _ hn3 => ?_
     refine Ok.ob (Ok.sm (P := fun n => n = (⟨1, 0, ⟨0, 0, []⟩, r0, r0, [], []⟩ : Nd)) rfl) fun n4 _ hn4 => ?_
     refine Ok.bv fun z6 e6 => ?_
     have h6 := (wI64 e6).2 (by rw [Int.tdiv_eq_ediv_of_nonneg hc.1]; omega)
     rw [Int.tdiv_eq_ediv_of_nonneg hc.1] at h6
     refine Ok.ck (by simp only [List.length_cons, List.length_nil]; omega) (Ok.bv fun n en => Ok.sm ⟨?_, hs⟩)
     refine gelP (l := [n1, n2, n3, n4]) (P := Q (d + 1)) ?_ en (by simp only [List.length_cons, List.length_nil]; omega)
     intro x hx
     simp only [List.mem_cons, List.not_mem_nil, or_false] at hx
     rcases hx with rfl | rfl | rfl | rfl
     · rw [hn1]; exact hQ.lit _ _ hv1.1
     · rw [hn2]; exact hQ.lit _ _ hv2
     · rw [hn3]; exact hQ.lit _ _ hv3.1
     · rw [hn4]; exact hQ.lit _ _ rt0
   rw [e2, decide_eq_false_iff_not] at c2
   refine Ok.bv fun z3 e3' => Ok.it (fun c => ?_) fun c3 => ?_
   · refine Ok.bv fun z e => Ok.ob refQ_ok fun r _ hr => Ok.ob (Ok.sm (P := fun n => n = (⟨2, 0, ⟨0, 0, []⟩, r, r0, [], []⟩ : Nd)) rfl) fun n _ hn => Ok.sm ⟨by rw [hn]; exact hQ.cell _ _ hr, hs⟩
   rw [e3', decide_eq_false_iff_not] at c3
   refine Ok.bv fun z4 e4 => Ok.it (fun c => ?_) fun c4 => ?_
   · refine Ok.bv fun z e => Ok.ob refQ_ok fun r _ hr => Ok.bv fun z5 e5 => Ok.bv fun z6 e6 => Ok.bv fun z7 e7' => Ok.bv fun z8 e8 => Ok.bv fun z9 e9 => ?_
     have h5 := and1 s.1
     rw [← e5] at h5
     have h6 := (wI64 e6).2 (by omega)
     have h7 := (wI64 e7').2 (by rw [Int.tdiv_eq_ediv_of_nonneg hc.1]; omega)
     rw [Int.tdiv_eq_ediv_of_nonneg hc.1] at h7
     have h8 : z8 = z7 % 3 := by rw [e8]; exact Int.tmod_eq_emod_of_nonneg (by omega)
     have h9 := (wI64 e9).2 (by omega)
     refine Ok.ob (Ok.sm (P := fun n => n = (⟨3, 0, ⟨0, 0, []⟩, r, ⟨⟨r.c.s, z6, z9⟩, r.ac, r.ar⟩, [], []⟩ : Nd)) rfl) fun n _ hn => Ok.sm ⟨?_, hs⟩
     rw [hn]
     exact hQ.span _ _ _ _ hr (by omega) (by omega)
   rw [e4, decide_eq_false_iff_not] at c4
   have g6 : 6 ≤ q := by omega
   refine Ok.bv fun z5 e5 => Ok.it (fun c => ?_) fun c5 => ?_
   · exact Ok.bv fun z e => Ok.ob (hr g6 _ e hs) fun y _ hy => Ok.ob (Ok.sm (P := fun n => n = (⟨5, 0, ⟨0, 0, []⟩, r0, r0, [], [y.1]⟩ : Nd)) rfl) fun n _ hn => Ok.sm ⟨by rw [hn]; exact hQ.un _ _ _ (.inl rfl) hy.1, hy.2⟩
   refine Ok.bv fun z6 e6 => Ok.it (fun c => ?_) fun c6 => ?_
   · exact Ok.bv fun z e => Ok.ob (hr g6 _ e hs) fun y _ hy => Ok.ob (Ok.sm (P := fun n => n = (⟨6, 0, ⟨0, 0, []⟩, r0, r0, [], [y.1]⟩ : Nd)) rfl) fun n _ hn => Ok.sm ⟨by rw [hn]; exact hQ.un _ _ _ (.inr rfl) hy.1, hy.2⟩
   refine Ok.bv fun z7 e7' => Ok.it (fun c => ?_) fun c7 => ?_
   · refine Ok.bv fun z e => Ok.ob (hr g6 _ e hs) fun y _ hy => Ok.bv fun z8 e8 => Ok.bv fun z9 e9 => Ok.bv fun z10 e10 => Ok.ob (hr g6 _ e10 hy.2) fun y2 _ hy2 => ?_
     have h8 : z8 = s.1 % 11 := by rw [e8]; exact Int.tmod_eq_emod_of_nonneg hc.1
     have h9 := (wI64 e9).2 (by omega)
     exact Ok.ob (Ok.sm (P := fun n => n = (⟨7, z9, ⟨0, 0, []⟩, r0, r0, [], [y.1, y2.1]⟩ : Nd)) rfl) fun n _ hn => Ok.sm ⟨by rw [hn]; exact hQ.bin _ _ _ _ (by omega) hy.1 hy2.1, hy2.2⟩
   refine Ok.bv fun z8 e8 => Ok.bv fun z9 e9 => Ok.bv fun z10 e10 => Ok.bv fun J89 e89 => ?_
   have hJ89 : ∀ f : Int, 1 ≤ f ∧ f ≤ 54 → Ok (J89 f) fun r => Q (d + 1) r.1 ∧ Fs N r.2 := by
    intro f hf
    rw [e89]
    refine Ok.bv fun J91 e91 => ?_
    have hJ91 : ∀ u, Fs N u.1 → u.2.length ≤ 3 → fitB f u.2.length = true → (∀ x ∈ u.2, Q d x) → Ok (J91 u) fun r => Q (d + 1) r.1 ∧ Fs N r.2 := by
     intro u u1 u2 u3 u5
     rw [e91]
     dsimp only
     rw [apply_eq _ _ (by omega)]
     exact Ok.os fun n en => Ok.sm ⟨by rw [en]; exact hQ.call _ _ _ hf u2 u3 u5, u1⟩
    clear e91
    obtain ⟨k0, hk0, hk0'⟩ := fits_some hf
    refine Ok.bv fun B97 e97 => ?_
    refine Ok.lp (fun u => Fs N u.1 ∧ u.2.length ≤ k0 ∧ ∀ x ∈ u.2, Q d x) (fun u => 9 - u.2.length) ⟨hs, by simp, fun x hx => by cases hx⟩ (by simp) ?_
    rintro u ⟨u1, u2, u3⟩ next hn
    rw [e97]
    refine Ok.bv fun y1 f1 => ?_
    have hy1 : y1 = true := by rw [f1, decide_eq_true_eq]; omega
    rw [hy1, if_pos rfl, fits_eq hf (by omega)]
    refine Ok.os fun y2 f2 => Ok.bv fun y3 f3 => Ok.bv fun y4 f4 => Ok.it (fun c => ?_) fun c => ?_
    · rw [f4, f3, f2] at c
      have hne : u.2.length ≠ k0 := fun e => by rw [e, hk0'] at c; cases c
      refine Ok.bv fun z e => Ok.ob (hr g6 _ e u1) fun y _ hy => Ok.ck (by simp only [List.length_cons, List.length_nil]; omega) (Ok.bv fun w ew => ?_)
      refine hn _ ⟨hy.2, by dsimp only; rw [ew]; simp; omega, ?_⟩ ?_
      · dsimp only
        rw [ew]
        exact all_snoc u3 hy.1
      · dsimp only
        rw [ew]
        simp
        omega
    · rw [f4, f3, f2] at c
      exact hJ91 _ u1 (by dsimp only; omega) (by simpa using c) u3
   clear e89
   have h8 := (wI64 e8).2 (by rw [Int.tdiv_eq_ediv_of_nonneg hc.1]; omega)
   rw [Int.tdiv_eq_ediv_of_nonneg hc.1] at h8
   have h9 : z9 = z8 % 54 := by rw [e9]; exact Int.tmod_eq_emod_of_nonneg (by omega)
   have h10 := (wI64 e10).2 (by omega)
   refine Ok.bv fun z11 e11 => Ok.it (fun c => ?_) fun c => hJ89 _ (by omega)
   rw [e11, decide_eq_true_eq] at c
   refine Ok.ck (by omega) (Ok.bv fun y1 f1 => Ok.bv fun y2 f2 => Ok.bv fun y3 f3 => Ok.bv fun y4 f4 => ?_)
   have g1 := gelP hs.by_ f1 (by omega)
   have g2 := (wI64 f2).2 (by omega)
   have g3 : y3 = y2 % 54 := by rw [f3]; exact Int.tmod_eq_emod_of_nonneg (by omega)
   have g4 := (wI64 f4).2 (by omega)
   exact hJ89 _ (by omega)
  clear e7
  have h30 : z30 = s.1 % 16 := by rw [e30]; exact Int.tmod_eq_emod_of_nonneg hc.1
  refine Ok.bv fun z1 e1 => Ok.bv fun z2 e2 => Ok.bv fun z3 e3' => Ok.it (fun c => ?_) fun c => ?_
  · refine Ok.bv fun z4 e4 => ?_
    have h4 : z4 = s.1 % 6 := by rw [e4]; exact Int.tmod_eq_emod_of_nonneg hc.1
    exact hJ7 _ (by omega) fun g => by omega
  · rw [e3', Bool.or_eq_false_iff, e1, decide_eq_false_iff_not] at c
    exact hJ7 _ (by omega) fun g => by omega
 clear e3
 refine Ok.bv fun z1 e1 => Ok.it (fun c => ?_) fun c => hJ3 _ (by simp) hx
 rw [e1, decide_eq_true_eq] at c
 refine Ok.ck (by omega) (Ok.bv fun y1 f1 => Ok.bv fun y2 f2 => Ok.ck (by omega) (Ok.bv fun w ew => ?_))
 have g1 := gelP hx.by_ f1 (by omega)
 have g2 := (wI64 f2).2 (by omega)
 refine hJ3 _ (by dsimp only; omega) ⟨?_, ?_⟩
 · have := cutL_len x0 1 (x0.length : Int) (by omega)
   have := hx.len
   dsimp only
   rw [ew]
   omega
 · dsimp only
   rw [ew]
   exact all_cut hx.by_ _ _
theorem formulaQ_ok (hQ : Seeded Q) {N : Nat} (hN : N ≤ 1000) : ∀ (d k : Nat) (x0 : List Int), d ≤ 1000 → d < k → Fs N x0 → Ok (reckonerlaw05_Seed_Formula k x0 (d : Int)) fun r => Q (d + 1) r.1 ∧ Fs N r.2
 | _, 0, _, _, hk, _ => absurd hk (by omega)
 | 0, k + 1, x0, hd, hk, hx => formQB_ok hQ hd hN hx fun l h1 _ => absurd h1 (by omega)
 | d + 1, k + 1, x0, hd, hk, hx => formQB_ok hQ hd hN hx fun l h1 hl => by
  have := formulaQ_ok hQ hN d k l (by omega) (by omega) hl
  rw [show ((d + 1 : Nat) : Int) - 1 = (d : Int) by omega]
  exact this
end Go.Sp
end
section
namespace Go.Sp
open Go.Stp Go.ValP
structure PG (p : List T) : Prop where
 st : StP p
 fi : fine p
theorem PG.vl {p : List T} (h : PG p) : ∀ t ∈ p, 0 < t.n ∧ t.n ≤ 1000000 ∧ t.v.length ≤ 4 := fun t ht => ⟨h.st.2 t ht, (h.fi.2 t ht).2, (h.fi.2 t ht).1⟩
theorem PG.nil : PG [] := ⟨StP.nil, by simp, by simp⟩
theorem PG.one {n : Int} {v : List C} (hn : 0 < n ∧ n ≤ 1000000) (hv : v.length ≤ 4) : PG [⟨n, v⟩] := by
 have key : ∀ t ∈ [(⟨n, v⟩ : T)], t = ⟨n, v⟩ := fun t ht => by simpa using ht
 exact ⟨⟨List.pairwise_singleton _ _, fun t ht => by rw [key t ht]; exact hn.1⟩, by simp, fun t ht => by rw [key t ht]; exact ⟨hv, hn.2⟩⟩
theorem flat_vl {ps : List (List T)} (h : ∀ p ∈ ps, PG p) : ∀ t ∈ ps.flatten, 0 < t.n ∧ t.n ≤ 1000000 ∧ t.v.length ≤ 4 := fun t ht => by
 obtain ⟨p, hp, hq⟩ := List.mem_flatten.1 ht
 exact (h p hp).vl t hq
theorem flat_len32 : ∀ {ps : List (List T)}, (∀ p ∈ ps, PG p) → ps.flatten.length ≤ ps.length * 32
 | [], _ => by simp
 | p :: ps, h => by
  have h1 := (h p (by simp)).fi.1
  have h2 := flat_len32 (ps := ps) fun q hq => h q (by simp [hq])
  simp only [List.flatten_cons, List.length_append, List.length_cons, Nat.add_mul]
  omega
theorem PG.add {ps : List (List T)} (h : ∀ p ∈ ps, PG p) (hl : ps.length ≤ 20) : Ok (poly_Add ps) fun r => r.2 = true → PG r.1 ∧ ∀ φ, EV φ r.1 = EV φ ps.flatten := by
 have hf := flat_len32 h
 have hv := flat_vl h
 have hsum := sumN_bd (B := 1000000) (by omega) (l := ps.flatten) fun t ht => (hv t ht).2.1
 refine (poly_Add_tot (ps := ps) (sortT_tot (by omega) fun t ht => by have := hv t ht; omega) (by omega) (by omega) (fun t ht => by have := hv t ht; omega) (by omega)).mono fun r hr h2 => ?_
 obtain ⟨h3, h4, h5, _, _⟩ := hr.ok h2
 exact ⟨⟨h3, h4⟩, h5⟩
theorem PG.mul {p q : List T} (hp : PG p) (hq : PG q) : Ok (poly_Mul p q) fun r => r.2 = true → PG r.1 ∧ ∀ g, EV (prG g) r.1 = EV (prG g) p * EV (prG g) q := by
 have hpl := hp.fi.1
 have hql := hq.fi.1
 have hl : (prods p q).length ≤ 1024 := by
  rw [prods_len]
  exact Nat.le_trans (Nat.mul_le_mul hpl hql) (by decide)
 refine (poly_Mul_tot (sortT_tot (by omega) fun t ht => ?_) (by omega) (by omega) (by omega) fun x hx y hy => ?_).mono fun r hr h2 => ?_
 · obtain ⟨x, h1, h2⟩ := List.mem_flatMap.1 ht
   obtain ⟨y, h3, h4⟩ := List.mem_map.1 h2
   rw [← h4]
   simp only [(srtC_perm _).length_eq, List.length_append]
   have := hp.vl x h1
   have := hq.vl y h3
   omega
 · have h1 := hp.vl x hx
   have h2 := hq.vl y hy
   have h3 := mul_bd (A := 1000000) (B := 1000000) ⟨h1.1, h1.2.1⟩ ⟨h2.1, h2.2.1⟩
   omega
 · obtain ⟨h3, h4, h5, _, _⟩ := hr.ok h2
   exact ⟨⟨h3, h4⟩, fun g => by rw [h5, EV_prods_prG]⟩
theorem PG.cst {c : Int} : Ok (poly_Const c) fun r => r.2 = true → PG r.1 ∧ (0 ≤ c ∧ c ≤ 1000000) ∧ ∀ φ, φ [] = 1 → EV φ r.1 = c := by
 refine poly_Const_tot.mono fun r hr h2 => ?_
 by_cases hc : 0 ≤ c ∧ c ≤ 1000000
 · have e := hr.1 hc
   subst e
   dsimp only
   by_cases h0 : c = 0
   · rw [if_pos h0]
     exact ⟨PG.nil, hc, fun φ _ => by rw [h0]; rfl⟩
   · rw [if_neg h0]
     exact ⟨PG.one (by omega) (by simp), hc, fun φ h => by simp [EV, h]⟩
 · have e := hr.2 hc
   subst e
   cases h2
theorem prG_one (g : C → Int) (c : C) : EV (prG g) [⟨1, [c]⟩] = g c := by simp [EV, prG]
theorem EV_flat (φ : List C → Int) : ∀ (ps : List (List T)), EV φ ps.flatten = (ps.map (EV φ)).sum
 | [] => rfl
 | p :: ps => by simp only [List.flatten_cons, EV_append, EV_flat φ ps, List.map_cons, List.sum_cons]
theorem num_Add_q {a b : Int} (ha : 0 ≤ a ∧ a ≤ 9223372036854775807) (hb : 0 ≤ b ∧ b ≤ 9223372036854775807) : Ok (num_Add a b) fun r => r.2 = true → r.1 = a + b ∧ a + b ≤ 9223372036854775807 := by
 unfold num_Add num_fits
 refine Ok.bv fun z1 e1 => Ok.ob (R := fun _ => True) (Ok.bv fun _ _ => Ok.sm trivial) fun y _ _ => Ok.bv fun z3 e3 => Ok.bv fun z4 e4 => Ok.bv fun z5 e5 => Ok.bv fun z6 e6 => Ok.sm fun h => ?_
 by_cases hs : a + b ≤ 9223372036854775807
 · exact ⟨(wI64 e1).2 (by omega), hs⟩
 · exfalso
   have hz : z1 = a + b - 18446744073709551616 := by
    rw [e1]
    simp [IntKind.wrap, IntKind.bits, IntKind.signed]
    omega
   rw [e6, e5, e3, e4] at h
   simp at h
   omega
theorem num_Of_q {c : Int} (hc : 0 ≤ c) : Ok (num_Of c) fun r => r.2 = true → r.1 = c * 1000000 ∧ c * 1000000 ≤ 9223372036854775807 := by
 unfold num_Of
 refine Ok.bv fun z1 e1 => Ok.bv fun z2 e2 => Ok.bv fun z3 e3 => Ok.it (fun _ => Ok.sm fun h => by cases h) fun c3 => Ok.bv fun z4 e4 => Ok.sm fun _ => ?_
 rw [e3, e1, e2] at c3
 simp at c3
 have := (wI64 e4).2 (by omega)
 exact ⟨this, by omega⟩
theorem num_Mul_q {x y m : Int} (hx : 0 ≤ x ∧ x ≤ 9223372036854775807) (hy : 0 ≤ y ∧ y ≤ 9223372036854775807) (hm : x * y = m * 1000000) : Ok (num_Mul x y) fun r => r.2 = true → r.1 = m ∧ m ≤ 9223372036854775807 := by
 unfold num_Mul
 refine Ok.ob (num_abs_val (by omega)) fun a ea ha => Ok.ob (num_abs_val (by omega)) fun b eb hb => ?_
 have h1 := ha.2 hx.1
 have h2 := hb.2 hy.1
 subst h1 h2
 refine Ok.ob (num_scaled_val (by omega) (by omega) hm) fun r er hr => Ok.bv fun z ez => Ok.it (fun h => Ok.sm fun h => by cases h) (fun h => ?_)
 have hr2 : r.2 = true := by rw [ez] at h; simpa using h
 have hr1 := hr.1 hr2
 have hm0 : 0 ≤ m := by have := Int.mul_nonneg hx.1 hy.1; omega
 refine Ok.bv fun z1 e1 => Ok.bv fun z2 e2 => Ok.bv fun z3 e3 => ?_
 have h1 : z1 = false := by rw [e1]; simp; omega
 have h2 : z2 = false := by rw [e2]; simp; omega
 have h3 : z3 = false := by rw [e3, h1, h2]; rfl
 subst h3
 refine Ok.ob (R := fun q : Int × Bool => q.2 = true → q.1 = m ∧ m ≤ 9223372036854775807) ?_ fun q _ hq => Ok.sm hq
 unfold num_signed
 refine Ok.bv fun z ez => Ok.it (fun e => Ok.sm fun h => by cases h) (fun e => ?_)
 simp only [Bool.false_eq_true, if_false]
 refine Ok.bv fun a ea => Ok.sm fun _ => ?_
 rw [ez] at e
 simp at e
 have := (wI64 ea).2 (by omega)
 exact ⟨by dsimp only; omega, by omega⟩
theorem poly_Num_q {p : List T} {g : C → Int} {get : C → Option Int} (hl : p.length ≤ 32) (hv : ∀ t ∈ p, 0 < t.n ∧ t.n ≤ 1000000 ∧ t.v.length ≤ 4) (hg : ∀ c, get c = some (g c)) (hb : ∀ c, 0 ≤ g c ∧ g c ≤ 255) :
 Ok (poly_Num p get) fun r => r.2 = true → r.1 = EV (prG g) p * 1000000 ∧ r.1 ≤ 9223372036854775807 := by
 have hpr : ∀ l, 0 ≤ prG g l := fun l => (prG_pos (fun c => (hb c).1) (l := l)).1
 unfold poly_Num
 refine Ok.bv fun J2 hJ2 => Ok.bv fun B hB => ?_
 subst hB
 refine Ok.lp (fun s : Int × Int => 0 ≤ s.2 ∧ s.2 ≤ p.length ∧ s.1 = EV (prG g) (p.take s.2.toNat) * 1000000 ∧ 0 ≤ s.1 ∧ s.1 ≤ 9223372036854775807) (fun s => (p.length - s.2).toNat) ⟨by simp, by simp, by simp [EV], by simp, by simp⟩ (by simp only; omega) ?_
 rintro ⟨s, i⟩ ⟨s0, s1, s2, s3, s4⟩ next ih
 simp only at s0 s1 s2 s3 s4 ⊢
 refine Ok.bv fun z1 e1 => Ok.it (fun h1 => ?_) fun h1 => ?_
 · have hlt : i < p.length := by rw [e1] at h1; simpa using h1
   refine Ok.ck ⟨s0, hlt⟩ ?_
   refine Ok.bv fun t et => ?_
   have htm : t ∈ p := by rw [et]; exact gel_mem ⟨s0, hlt⟩
   have ht := hv t htm
   have htk := take_gel s0 hlt
   rw [← et] at htk
   refine Ok.ob (num_Of_q (c := t.n) (by omega)) fun y _ hy => Ok.bv fun J16 hJ16 => ?_
   have hJ : ∀ u : Int × Bool, (u.2 = true → u.1 = t.n * prG g t.v * 1000000 ∧ u.1 ≤ 9223372036854775807) → Ok (J16 u) fun r => r.2 = true → r.1 = EV (prG g) p * 1000000 ∧ r.1 ≤ 9223372036854775807 := by
    intro u hu
    rw [hJ16]
    refine Ok.bv fun J18 hJ18 => ?_
    have hbad : ∀ z : Int, Ok (J18 (z, false)) fun r => r.2 = true → r.1 = EV (prG g) p * 1000000 ∧ r.1 ≤ 9223372036854775807 := fun z => by
     rw [hJ18]
     refine Ok.bv fun z9 e9 => Ok.it (fun _ => Ok.sm fun h => by cases h) fun h => ?_
     rw [e9] at h
     cases h
    refine Ok.it (fun hu2 => ?_) fun hu2 => ?_
    · obtain ⟨hu3, hu4⟩ := hu hu2
      have hn : 0 ≤ t.n * prG g t.v := Int.mul_nonneg (by omega) (hpr _)
      refine Ok.ob (num_Add_q (a := s) (b := u.1) ⟨s3, s4⟩ ⟨by omega, hu4⟩) fun v _ hv2 => ?_
      obtain ⟨v1, v2⟩ := v
      cases v2 with
      | false => exact hbad v1
      | true =>
       obtain ⟨k1, k2⟩ := hv2 rfl
       dsimp only at k1
       rw [hJ18]
       refine Ok.bv fun z9 e9 => Ok.it (fun h => ?_) fun _ => Ok.bv fun z10 e10 => ?_
       · rw [e9] at h
         cases h
       have e10' : z10 = i + 1 := (wI64 e10).2 (by omega)
       refine ih _ ⟨by simp only; omega, by simp only; omega, ?_, by simp only; omega, by simp only; omega⟩ (by simp only; omega)
       simp only [e10']
       rw [htk, EV_append, k1, s2, hu3]
       simp only [EV]
       rw [Int.add_mul]
       omega
    · rw [show u.2 = false from hu2]
      exact hbad s
   clear hJ16
   refine Ok.bv fun B2 hB2 => ?_
   subst hB2
   refine Ok.lp (fun u : Int × Bool × Int => 0 ≤ u.2.2 ∧ u.2.2 ≤ t.v.length ∧ (u.2.1 = true → u.1 = t.n * prG g (t.v.take u.2.2.toNat) * 1000000 ∧ 0 ≤ u.1 ∧ u.1 ≤ 9223372036854775807)) (fun u => (t.v.length - u.2.2).toNat) ⟨by simp, by simp, fun h => ?_⟩ (by simp only; omega) ?_
   · obtain ⟨k1, k2⟩ := hy h
     refine ⟨?_, by dsimp only; omega, by dsimp only; omega⟩
     dsimp only
     rw [k1]
     simp [prG]
   rintro ⟨x, b, j⟩ ⟨u0, u1, u2⟩ next2 ih2
   simp only at u0 u1 u2 ⊢
   refine Ok.bv fun z2 e2 => Ok.it (fun h2 => ?_) fun h2 => ?_
   · have hlt2 : j < t.v.length := by rw [e2] at h2; simpa using h2
     have htk2 := take_gel u0 hlt2
     refine Ok.ck ⟨u0, hlt2⟩ (Ok.bv fun c ec => ?_)
     rw [← ec] at htk2
     have fwd : ∀ z : Int, z = IntKind.wrap .i64 (j + 1) → ∀ (x' : Int) (b' : Bool), (b' = true → x' = t.n * prG g (t.v.take (j + 1).toNat) * 1000000 ∧ 0 ≤ x' ∧ x' ≤ 9223372036854775807) → Ok (next2 (x', b', z)) fun r => r.2 = true → r.1 = EV (prG g) p * 1000000 ∧ r.1 ≤ 9223372036854775807 := by
      intro z ez x' b' hx'
      have ez' : z = j + 1 := (wI64 ez).2 (by omega)
      subst ez'
      exact ih2 _ ⟨by simp only; omega, by simp only; omega, hx'⟩ (by simp only; omega)
     refine Ok.it (fun hb1 => ?_) fun hb1 => Ok.bv fun z3 e3 => fwd z3 e3 x b fun h => by rw [hb1] at h; cases h
     obtain ⟨k1, k2, k3⟩ := u2 hb1
     have hc := hb c
     rw [hg c]
     refine Ok.os fun y3 ey3 => ?_
     subst ey3
     refine Ok.ob (num_Of_q (c := g c) hc.1) fun y4 ey4 hy4 => ?_
     have h44 : y4 = (g c * 1000000, true) := by
      rw [num_Of_eq (by omega)] at ey4
      exact (Option.some.inj ey4).symm
     subst h44
     dsimp only
     refine Ok.ob (num_Mul_q (x := x) (y := g c * 1000000) (m := x * g c) ⟨k2, k3⟩ (by omega) (by rw [Int.mul_assoc])) fun y5 _ hy5 => Ok.bv fun z5 e5 => Ok.it (fun h => ?_) fun _ => Ok.bv fun z6 e6 => fwd z6 e6 _ _ fun h => ?_
     · rw [e5] at h
       cases h
     · obtain ⟨m1, m2⟩ := hy5 h
       refine ⟨?_, by rw [m1]; exact Int.mul_nonneg k2 hc.1, by omega⟩
       rw [m1, htk2, prG_append, k1]
       simp only [prG, Int.mul_one]
       rw [Int.mul_assoc, Int.mul_comm 1000000, ← Int.mul_assoc, Int.mul_assoc t.n]
   · have hge : ¬ j < t.v.length := by rw [e2] at h2; simpa using h2
     rw [List.take_of_length_le (by omega)] at u2
     exact hJ (x, b) fun h => ⟨(u2 h).1, (u2 h).2.2⟩
 · have hge : ¬ i < p.length := by rw [e1] at h1; simpa using h1
   rw [List.take_of_length_le (by omega)] at s2
   rw [hJ2]
   exact Ok.sm fun _ => ⟨s2, s4⟩
end Go.Sp
end
section
namespace Go.Sp
open Go.Stp Go.ValP
def okQ (p : List V) : Prop := p.length = 128 ∧ ∀ v ∈ p, v = ⟨0, 0, []⟩ ∨ ∃ k : Int, (1 ≤ k ∧ k ≤ 255) ∧ v = ⟨1, k * 1000000, []⟩
def Mn (v : V) (N : Int) : Prop := (v = ⟨0, 0, []⟩ ∧ N = 0) ∨ (v = ⟨1, N * 1000000, []⟩ ∧ 0 ≤ N ∧ N * 1000000 ≤ 9223372036854775807) ∨ v = ⟨4, 5, []⟩
def pV (p : List V) (c : C) : V := (reckonerref13_Place_At p c).getD ⟨0, 0, []⟩
def pN (p : List V) (c : C) : Int := (pV p c).n / 1000000
structure AtQ (p : List V) (c : C) : Prop where
 at_ : reckonerref13_Place_At p c = some (pV p c)
 sh : pV p c = ⟨0, 0, []⟩ ∧ pN p c = 0 ∨ pV p c = ⟨1, pN p c * 1000000, []⟩
 bd : 0 ≤ pN p c ∧ pN p c ≤ 255
theorem at_q {p : List V} (hp : okQ p) (c : C) : AtQ p c := by
 have key : Ok (reckonerref13_Place_At p c) fun v => v = ⟨0, 0, []⟩ ∨ ∃ k : Int, (1 ≤ k ∧ k ≤ 255) ∧ v = ⟨1, k * 1000000, []⟩ := by
  unfold reckonerref13_Place_At
  refine Ok.bv fun z1 e1 => Ok.bv fun z2 e2 => Ok.bv fun z3 e3 => Ok.bv fun z4 e4 => Ok.bv fun z5 e5 => Ok.bv fun z6 e6 => Ok.bv fun z7 e7 => Ok.bv fun z8 e8 => Ok.bv fun z9 e9 => Ok.bv fun z10 e10 => Ok.bv fun z11 e11 => Ok.it (fun _ => Ok.sm (.inl rfl)) fun h => ?_
  rw [e11, e10, e9, e8, e7, e6, e5, e4, e3, e2, e1] at h
  simp at h
  refine Ok.bv fun z12 e12 => ?_
  have := (wI64 e12).2 (by omega)
  refine Ok.bv fun z13 e13 => ?_
  have := (wI64 e13).2 (by omega)
  refine Ok.ck (by omega) (Ok.ck (by omega) (Ok.bv fun z14 e14 => Ok.sm ?_))
  exact gelP (P := fun v : V => v = ⟨0, 0, []⟩ ∨ ∃ k : Int, (1 ≤ k ∧ k ≤ 255) ∧ v = ⟨1, k * 1000000, []⟩) hp.2 e14 (by rw [hp.1]; omega)
 obtain ⟨v, h1, h2⟩ := key
 have hv : pV p c = v := by unfold pV; rw [h1]; rfl
 have hn : pN p c = v.n / 1000000 := by unfold pN; rw [hv]
 refine ⟨by rw [hv]; exact h1, ?_, ?_⟩
 · rcases h2 with rfl | ⟨k, hk, rfl⟩
   · exact .inl ⟨hv, by rw [hn]; decide⟩
   · right
     have : pN p c = k := by rw [hn]; dsimp only; omega
     rw [hv, this]
 · rcases h2 with rfl | ⟨k, hk, rfl⟩
   · rw [hn]; decide
   · rw [hn]; dsimp only; omega
theorem AtQ.mn {p : List V} {c : C} (h : AtQ p c) : Mn (pV p c) (pN p c) := by
 rcases h.sh with h1 | h1
 · exact .inl h1
 · exact .inr (.inl ⟨h1, h.bd.1, by have := h.bd; omega⟩)
theorem AtQ.ne {p : List V} {c : C} (h : AtQ p c) : (pV p c).k ≠ 4 := by
 rcases h.sh with h1 | h1
 · rw [h1.1]; simp
 · rw [h1]; simp
theorem Means1_eq {p : List V} (hp : okQ p) (c : C) : reckonerlaw15_PolyMeans_1 c p = some (pN p c) := by
 have h := at_q hp c
 unfold reckonerlaw15_PolyMeans_1
 rw [h.at_]
 have hb := h.bd
 have e : (pV p c).n = pN p c * 1000000 := by
  rcases h.sh with h1 | h1
  · rw [h1.1, h1.2]; rfl
  · conv => lhs; rw [h1]
 show some (IntKind.wrap .i64 (Int.tdiv (pV p c).n 1000000)) = _
 rw [e, Int.tdiv_eq_ediv_of_nonneg (by omega), show pN p c * 1000000 / 1000000 = pN p c by omega, (wI64 rfl).2 (by omega)]
theorem cell_q {R : Rn} (hp : okQ R.p) (c : C) (m : List (C × Bool)) : eval_run_cell R c m = some (⟨pV R.p c, ⟨0, 0, 0⟩⟩, mput m c true) := by
 have h := at_q hp c
 have hk := h.ne
 unfold eval_run_cell reckonerref13_Place_Value
 rw [h.at_]
 simp [bindv, obind, hk]
theorem mput_le (m : List (C × Bool)) (k : C) (v : Bool) : (mput m k v).length ≤ m.length + 1 := by
 rcases mput_ks m k v with ⟨h, _⟩ | h <;> have := congrArg List.length h <;> simp at this <;> omega
structure Bx (a b : C) : Prop where
 s : a.s = b.s
 c0 : 0 ≤ a.c
 c1 : a.c ≤ b.c
 c2 : b.c ≤ a.c + 1
 c3 : b.c ≤ 100
 r0 : 0 ≤ a.r
 r1 : a.r ≤ b.r
 r2 : b.r ≤ a.r + 2
 r3 : b.r ≤ 100
theorem order_q {a b : C} (h : Bx a b) : addr_Order a b = some (a, b, true) := by
 have h1 := h.c1
 have h2 := h.r1
 unfold addr_Order
 simp only [bindv, h.s, decide_true, Bool.not_true, Bool.false_eq_true, if_false]
 rw [Int.min_eq_left h1, Int.min_eq_left h2, Int.max_eq_right h1, Int.max_eq_right h2]
 have : (⟨b.s, a.c, a.r⟩ : C) = a := by rw [← h.s]
 rw [this]
theorem flat_len {f : Nat → List C} (h : ∀ i, (f i).length ≤ 2) : ∀ k : Nat, ((List.range k).flatMap f).length ≤ 2 * k
 | 0 => by simp
 | k + 1 => by
  rw [List.range_succ, List.flatMap_append, List.length_append]
  have := flat_len h k
  have := h k
  simp only [List.flatMap_cons, List.flatMap_nil, List.append_nil]
  omega
theorem cellsL_len {a b : C} (h : Bx a b) : (cellsL a b).length ≤ 6 := by
 have := h.c2; have := h.r2; have := h.r1
 unfold cellsL
 have := flat_len (f := rowL a b) (fun i => by simp only [rowL, List.length_map, List.length_range]; omega) (b.r - a.r + 1).toNat
 omega
theorem cells_q {a b : C} (h : Bx a b) : addr_Cells a b = some (cellsL a b) := by
 have := h.c0; have := h.c1; have := h.c2; have := h.c3; have := h.r0; have := h.r1; have := h.r2; have := h.r3
 unfold addr_Cells
 rw [order_q h]
 simp only [obind, if_true, chk]
 rw [if_pos (by omega)]
theorem cellsL_shift {a b c d : C} (h1 : d.c - c.c = b.c - a.c) (h2 : d.r - c.r = b.r - a.r) : cellsL c d = (cellsL a b).map fun x => ⟨c.s, c.c + x.c - a.c, c.r + x.r - a.r⟩ := by
 unfold cellsL
 rw [h2, List.map_flatMap]
 congr 1
 funext i
 unfold rowL
 rw [h1, List.map_map]
 congr 1
 funext j
 simp only [Function.comp]
 congr 1 <;> omega
def numsOf (l : List V) : List Int := (l.filter fun v => decide (v.k = 1)).map (·.n)
theorem numsOf_snoc (l : List V) (v : V) : numsOf (l ++ [v]) = numsOf l ++ if v.k = 1 then [v.n] else [] := by
 unfold numsOf
 rw [List.filter_append, List.map_append]
 by_cases h : v.k = 1 <;> simp [h]
theorem numsOf_len (l : List V) : (numsOf l).length ≤ l.length := by
 unfold numsOf
 rw [List.length_map]
 exact List.length_filter_le _ _
theorem numbers_q {l : List V} (hl : l.length ≤ 1000) : lists_numbers l = some (numsOf l) := by
 have key : Ok (lists_numbers l) fun r => r = numsOf l := by
  unfold lists_numbers
  refine Ok.bv fun J2 hJ2 => Ok.bv fun B hB => ?_
  subst hB
  refine Ok.lp (fun s : Int × List Int => 0 ≤ s.1 ∧ s.1 ≤ l.length ∧ s.2 = numsOf (l.take s.1.toNat)) (fun s => (l.length - s.1).toNat) ⟨by simp, by simp, by simp [numsOf]⟩ (by simp only; omega) ?_
  rintro ⟨i, out⟩ ⟨s0, s1, s2⟩ next ih
  simp only at s0 s1 s2 ⊢
  refine Ok.bv fun z1 e1 => Ok.it (fun h1 => ?_) fun h1 => ?_
  · have hlt : i < l.length := by rw [e1] at h1; simpa using h1
    have htk := take_gel s0 hlt
    refine Ok.ck ⟨s0, hlt⟩ (Ok.bv fun v ev => ?_)
    rw [← ev] at htk
    have hol := numsOf_len (l.take i.toNat)
    rw [List.length_take] at hol
    refine Ok.bv fun z2 e2 => Ok.it (fun h2 => ?_) fun h2 => ?_
    · refine Ok.ck (by simp only [List.length_cons, List.length_nil]; rw [s2]; omega) (Ok.bv fun z3 e3 => Ok.bv fun z4 e4 => ?_)
      have e4' : z4 = i + 1 := (wI64 e4).2 (by omega)
      have hk : v.k = 1 := by rw [e2] at h2; simpa using h2
      refine ih _ ⟨by simp only; omega, by simp only; omega, ?_⟩ (by simp only; omega)
      simp only [e4', e3]
      rw [htk, numsOf_snoc, if_pos hk, s2]
    · refine Ok.bv fun z4 e4 => ?_
      have e4' : z4 = i + 1 := (wI64 e4).2 (by omega)
      have hk : ¬ v.k = 1 := by rw [e2] at h2; simpa using h2
      refine ih _ ⟨by simp only; omega, by simp only; omega, ?_⟩ (by simp only; omega)
      simp only [e4']
      rw [htk, numsOf_snoc, if_neg hk, s2, List.append_nil]
  · have hge : ¬ i < l.length := by rw [e1] at h1; simpa using h1
    rw [List.take_of_length_le (by omega)] at s2
    rw [hJ2]
    exact Ok.sm s2
 obtain ⟨v, h, rfl⟩ := key
 exact h
theorem sum_snoc (l : List Int) (x : Int) : (l ++ [x]).sum = l.sum + x := by simp
def SumV (v : V) (S : Int) : Prop := (v = ⟨1, S, []⟩ ∧ 0 ≤ S ∧ S ≤ 9223372036854775807) ∨ v = ⟨4, 5, []⟩
theorem sum_nn : ∀ {l : List Int}, (∀ x ∈ l, 0 ≤ x) → 0 ≤ l.sum
 | [], _ => by simp
 | x :: l, h => by
  have h1 := h x (by simp)
  have h2 := sum_nn (l := l) fun y hy => h y (by simp [hy])
  simp only [List.sum_cons]
  omega
theorem sum_take_le {l : List Int} (h : ∀ x ∈ l, 0 ≤ x) (k : Nat) : (l.take k).sum ≤ l.sum := by
 have e : l.sum = (l.take k).sum + (l.drop k).sum := by rw [← List.sum_append, List.take_append_drop]
 have := sum_nn (l := l.drop k) fun x hx => h x (List.mem_of_mem_drop hx)
 omega
theorem Sum_q {l : List V} (hl : l.length ≤ 1000) (hv : ∀ x ∈ numsOf l, 0 ≤ x ∧ x ≤ 9223372036854775807) : Ok (lists_Sum l) fun v => SumV v (numsOf l).sum ∧ ((numsOf l).sum ≤ 9223372036854775807 → v = ⟨1, (numsOf l).sum, []⟩) := by
 have hnl := numsOf_len l
 unfold lists_Sum
 refine Ok.bv fun J3 hJ3 => ?_
 rw [numbers_q hl]
 refine Ok.os fun y ey => Ok.bv fun B hB => ?_
 subst hB
 rw [ey]
 refine Ok.lp (fun s : Int × Bool × Int => 0 ≤ s.2.2 ∧ s.2.2 ≤ (numsOf l).length ∧ (s.2.1 = true → s.1 = ((numsOf l).take s.2.2.toNat).sum ∧ 0 ≤ s.1 ∧ s.1 ≤ 9223372036854775807) ∧ ((numsOf l).sum ≤ 9223372036854775807 → s.2.1 = true)) (fun s => ((numsOf l).length - s.2.2).toNat) ⟨by simp, by simp, fun _ => by simp, fun _ => rfl⟩ (by simp only; omega) ?_
 rintro ⟨x, b, i⟩ ⟨s0, s1, s2, s3⟩ next ih
 simp only at s0 s1 s2 s3 ⊢
 refine Ok.bv fun z1 e1 => Ok.it (fun h1 => ?_) fun h1 => ?_
 · have hlt : i < (numsOf l).length := by rw [e1] at h1; simpa using h1
   have htk := take_gel s0 hlt
   refine Ok.ck ⟨s0, hlt⟩ (Ok.bv fun v ev => ?_)
   rw [← ev] at htk
   have hvb := hv v (by rw [ev]; exact gel_mem ⟨s0, hlt⟩)
   have fwd : ∀ z : Int, z = IntKind.wrap .i64 (i + 1) → ∀ (x' : Int) (b' : Bool), (b' = true → x' = ((numsOf l).take (i + 1).toNat).sum ∧ 0 ≤ x' ∧ x' ≤ 9223372036854775807) → ((numsOf l).sum ≤ 9223372036854775807 → b' = true) → Ok (next (x', b', z)) fun v => SumV v (numsOf l).sum ∧ ((numsOf l).sum ≤ 9223372036854775807 → v = ⟨1, (numsOf l).sum, []⟩) := by
    intro z ez x' b' hx' hb'
    have ez' : z = i + 1 := (wI64 ez).2 (by omega)
    subst ez'
    exact ih _ ⟨by simp only; omega, by simp only; omega, hx', hb'⟩ (by simp only; omega)
   refine Ok.it (fun hb => ?_) fun hb => Ok.bv fun z3 e3 => fwd z3 e3 _ _ (fun h => by rw [hb] at h; cases h) s3
   obtain ⟨k1, k2, k3⟩ := s2 hb
   refine Ok.ob (num_Add_q (a := x) (b := v) ⟨k2, k3⟩ hvb) fun y2 ey2 hy2 => Ok.bv fun z3 e3 => fwd z3 e3 _ _ (fun h => ?_) fun h => ?_
   · obtain ⟨m1, m2⟩ := hy2 h
     exact ⟨by rw [htk, sum_snoc, m1, k1], by omega, by omega⟩
   · have hle := sum_take_le (l := numsOf l) (fun x hx => (hv x hx).1) (i + 1).toNat
     rw [htk, sum_snoc, ← k1] at hle
     rw [num_Add_eq k2 hvb.1 (by omega)] at ey2
     rw [← Option.some.inj ey2]
 · have hge : ¬ i < (numsOf l).length := by rw [e1] at h1; simpa using h1
   rw [List.take_of_length_le (by omega)] at s2
   rw [hJ3]
   dsimp only
   rw [value_Made_eq]
   refine Ok.os fun y ey => Ok.sm ?_
   subst ey
   by_cases hb : b = true
   · obtain ⟨k1, k2, k3⟩ := s2 hb
     rw [if_pos hb, k1]
     exact ⟨.inl ⟨rfl, by omega, by omega⟩, fun _ => rfl⟩
   · rw [if_neg hb]
     exact ⟨.inr rfl, fun h => absurd (s3 h) hb⟩
theorem Product_q {a b : Int} (ha : 0 ≤ a ∧ a ≤ 255) (hb : 0 ≤ b ∧ b ≤ 255) : Ok (lists_Product [⟨1, a * 1000000, []⟩, ⟨1, b * 1000000, []⟩]) fun v => v = ⟨1, a * b * 1000000, []⟩ := by
 have hab : 0 ≤ a * b ∧ a * b ≤ 65025 := ⟨Int.mul_nonneg ha.1 hb.1, Int.mul_le_mul (c := 255) (d := 255) ha.2 hb.2 hb.1 (by omega)⟩
 unfold lists_Product
 rw [numbers_q (by simp)]
 refine Ok.os fun y ey => ?_
 have ey : y = [a * 1000000, b * 1000000] := ey
 subst ey
 refine Ok.bv fun z1 e1 => Ok.it (fun h => ?_) fun _ => Ok.ck (by simp) (Ok.bv fun z2 e2 => Ok.bv fun J11 hJ => Ok.ck (by simp) (Ok.bv fun z3 e3 => Ok.bv fun B hB => ?_))
 · rw [e1] at h
   simp at h
 subst hB
 have e2' : z2 = a * 1000000 := e2
 have e3' : z3 = [b * 1000000] := e3
 rw [e3', e2']
 refine Ok.lp (fun s : Int × Bool × Int => s = (a * 1000000, true, 0) ∨ s = (a * b * 1000000, true, 1)) (fun s => (1 - s.2.2).toNat) (.inl rfl) (by simp) ?_
 rintro s (rfl | rfl) next ih
 · refine Ok.bv fun z4 e4 => Ok.it (fun _ => Ok.ck (by simp) (Ok.bv fun z5 e5 => ?_)) fun h => ?_
   · have e5' : z5 = b * 1000000 := e5
     simp only [if_true]
     have hq := num_Mul_q (x := a * 1000000) (y := b * 1000000) (m := a * b * 1000000) (by omega) (by omega) (by rw [Int.mul_assoc a 1000000, Int.mul_left_comm 1000000 b, ← Int.mul_assoc, ← Int.mul_assoc])
     have hv := num_Mul_val (x := a * 1000000) (y := b * 1000000) (m := a * b * 1000000) (by omega) (by omega) (by rw [Int.mul_assoc a 1000000, Int.mul_left_comm 1000000 b, ← Int.mul_assoc, ← Int.mul_assoc])
     rw [e5']
     refine Ok.ob hv fun y6 _ hy6 => Ok.bv fun z7 e7 => ?_
     have := hy6.2 (by omega)
     subst this
     have e7' : z7 = 1 := by rw [e7]; decide
     subst e7'
     exact ih _ (.inr rfl) (by simp)
   · rw [e4] at h
     simp at h
 · refine Ok.bv fun z4 e4 => Ok.it (fun h => ?_) fun _ => ?_
   · rw [e4] at h
     simp at h
   · rw [hJ]
     dsimp only
     rw [value_Made_eq, if_pos rfl]
     exact Ok.os fun y ey => Ok.sm ey
def prodS (p : List V) (f : C → C) (cs : List C) : Int := (cs.map fun c => pN p c * pN p (f c)).sum
theorem SumProduct_q {p : List V} (hp : okQ p) (f : C → C) {cs : List C} (hl : cs.length ≤ 6) : Ok (lists_SumProduct (cs.map (pV p)) (cs.map fun c => pV p (f c))) fun v => v = ⟨1, prodS p f cs * 1000000, []⟩ ∧ 0 ≤ prodS p f cs ∧ prodS p f cs * 1000000 ≤ 9223372036854775807 := by
 have hmap : ∀ {h : C → V} {i : Int}, 0 ≤ i → i < cs.length → gel (cs.map h) i = h (gel cs i) := by
  intro h i h0 h1
  have e1 := gel_some (l := cs.map h) (i := i) ⟨h0, by simpa using h1⟩
  have e2 := gel_some (l := cs) (i := i) ⟨h0, h1⟩
  rw [List.getElem?_map, e2] at e1
  exact (Option.some.inj e1).symm
 unfold lists_SumProduct
 refine Ok.bv fun z1 e1 => Ok.it (fun h => ?_) fun _ => Ok.os fun y ey => Ok.bv fun J9 hJ => Ok.bv fun B hB => ?_
 · rw [e1] at h
   simp at h
 subst hB
 subst ey
 simp only [List.length_map]
 refine Ok.lp (fun s : Int × Int × Int × List UInt8 × Int × Int × List UInt8 => 0 ≤ s.1 ∧ s.1 ≤ cs.length ∧ s.2.2.2.2.1 = 1 ∧ s.2.2.2.2.2.1 = prodS p f (cs.take s.1.toNat) * 1000000 ∧ s.2.2.2.2.2.2 = [] ∧ 0 ≤ prodS p f (cs.take s.1.toNat) ∧ prodS p f (cs.take s.1.toNat) ≤ s.1 * 65025) (fun s => (cs.length - s.1).toNat) ⟨by simp, by simp, rfl, by simp [prodS], rfl, by simp [prodS], by simp [prodS]⟩ (by simp only; omega) ?_
 rintro ⟨i, t1, t2, t3, k, n, s⟩ ⟨s0, s1, hk1, hn1, hs1, s5, s6⟩ next ih
 simp only at s0 s1 hk1 hn1 hs1 s5 s6 ⊢
 subst hk1 hn1 hs1
 refine Ok.bv fun z2 e2 => Ok.it (fun h2 => ?_) fun h2 => ?_
 · have hlt : i < cs.length := by rw [e2] at h2; simpa using h2
   have htk := take_gel s0 hlt
   have hx := at_q hp (gel cs i)
   have hy := at_q hp (f (gel cs i))
   have hbx := hx.bd
   have hby := hy.bd
   have hnx : prodS p f (cs.take (i + 1).toNat) = prodS p f (cs.take i.toNat) + pN p (gel cs i) * pN p (f (gel cs i)) := by
    rw [htk]
    simp [prodS]
   have hab : 0 ≤ pN p (gel cs i) * pN p (f (gel cs i)) ∧ pN p (gel cs i) * pN p (f (gel cs i)) ≤ 65025 := ⟨Int.mul_nonneg hbx.1 hby.1, Int.mul_le_mul (c := 255) (d := 255) hbx.2 hby.2 hby.1 (by omega)⟩
   have fwd : ∀ z : Int, z = IntKind.wrap .i64 (i + 1) → ∀ (k' n' : Int) (s' : List UInt8), k' = 1 → n' = prodS p f (cs.take (i + 1).toNat) * 1000000 → s' = [] → Ok (next (z, t1, t2, t3, k', n', s')) fun v => v = ⟨1, prodS p f cs * 1000000, []⟩ ∧ 0 ≤ prodS p f cs ∧ prodS p f cs * 1000000 ≤ 9223372036854775807 := by
    intro z ez k' n' s' h1 h2 h3
    have ez' : z = i + 1 := (wI64 ez).2 (by omega)
    subst ez'
    exact ih _ ⟨by simp only; omega, by simp only; omega, h1, h2, h3, by simp only [hnx]; omega, by simp only [hnx]; omega⟩ (by simp only; omega)
   refine Ok.ck ⟨s0, hlt⟩ (Ok.bv fun x ex => Ok.bv fun z3 e3 => Ok.ck (fun _ => ⟨s0, hlt⟩) (Ok.bv fun y ey => Ok.bv fun z4 e4 => Ok.bv fun z5 e5 => ?_))
   rw [hmap s0 hlt] at ex ey
   rcases hx.sh with ⟨x1, x2⟩ | x1
   · refine Ok.it (fun _ => Ok.bv fun z6 e6 => fwd z6 e6 _ _ _ rfl (by rw [hnx, x2]; omega) rfl) fun h => ?_
     rw [e5, e3, ex, x1] at h
     simp at h
   · rcases hy.sh with ⟨y1, y2⟩ | y1
     · refine Ok.it (fun _ => Ok.bv fun z6 e6 => fwd z6 e6 _ _ _ rfl (by rw [hnx, y2]; omega) rfl) fun h => ?_
       rw [e5, e4, ey, y1] at h
       simp at h
     · refine Ok.it (fun h => ?_) fun _ => ?_
       · rw [e5, e4, e3, ex, ey, x1, y1] at h
         simp at h
       have hx1 : gel (cs.map (pV p)) i = ⟨1, pN p (gel cs i) * 1000000, []⟩ := (hmap s0 hlt).trans x1
       have hy1 : gel (cs.map fun c => pV p (f c)) i = ⟨1, pN p (f (gel cs i)) * 1000000, []⟩ := (hmap s0 hlt).trans y1
       rw [hx1, hy1]
       refine Ok.ck ⟨s0, hlt⟩ (Ok.bv fun x' ex' => Ok.ck ⟨s0, hlt⟩ (Ok.bv fun y' ey' => ?_))
       subst ex' ey'
       refine Ok.ob (Product_q hbx hby) fun q _ hq => ?_
       subst hq
       refine Ok.ob (Sum_q (l := [⟨1, prodS p f (cs.take i.toNat) * 1000000, []⟩, ⟨1, pN p (gel cs i) * pN p (f (gel cs i)) * 1000000, []⟩]) (by simp) (fun x hx => ?_)) fun u _ hu => ?_
       · have hx : x = prodS p f (cs.take i.toNat) * 1000000 ∨ x = pN p (gel cs i) * pN p (f (gel cs i)) * 1000000 := by simpa [numsOf] using hx
         rcases hx with rfl | rfl <;> omega
       refine Ok.ck ⟨s0, hlt⟩ (Ok.bv fun x' ex' => Ok.ck ⟨s0, hlt⟩ (Ok.bv fun y' ey' => ?_))
       subst ex' ey'
       refine Ok.ob (Product_q hbx hby) fun q _ hq => ?_
       subst hq
       have hsum : (numsOf [⟨1, prodS p f (cs.take i.toNat) * 1000000, []⟩, (⟨1, pN p (gel cs i) * pN p (f (gel cs i)) * 1000000, []⟩ : V)]).sum = prodS p f (cs.take (i + 1).toNat) * 1000000 := by
        rw [hnx]
        simp [numsOf]
        omega
       rw [hsum] at hu
       have hu := hu.2 (by rw [hnx]; omega)
       subst hu
       refine Ok.bv fun z6 e6 => Ok.it (fun h => ?_) fun _ => Ok.bv fun z7 e7 => Ok.it (fun h => ?_) fun h => Ok.bv fun z8 e8 => fwd z8 e8 _ _ _ rfl rfl rfl
       · rw [e6] at h
         simp at h
       · rw [e7] at h
         simp at h
 · have hge : ¬ i < cs.length := by rw [e2] at h2; simpa using h2
   rw [List.take_of_length_le (by omega)] at s5 s6 ⊢
   rw [hJ]
   exact Ok.sm ⟨rfl, s5, by omega⟩
end Go.Sp
end
section
namespace Go.Sp
open Go.Stp Go.ValP
inductive All2 {α β : Type} (P : α → β → Prop) : List α → List β → Prop
 | nil : All2 P [] []
 | cons {a : α} {b : β} {l : List α} {m : List β} : P a b → All2 P l m → All2 P (a :: l) (b :: m)
theorem All2.snoc {α β : Type} {P : α → β → Prop} {a : α} {b : β} {l : List α} {m : List β} (h : All2 P l m) (k : P a b) : All2 P (l ++ [a]) (m ++ [b]) := by
 induction h with
 | nil => exact .cons k .nil
 | cons h1 _ ih => exact .cons h1 ih
theorem All2.len {α β : Type} {P : α → β → Prop} {l : List α} {m : List β} (h : All2 P l m) : l.length = m.length := by
 induction h with
 | nil => rfl
 | cons _ _ ih => simp [ih]
def Res (R : Rn) (d : Nat) (n : Nd) (N : Int) : Prop := ∀ K, d ≤ K → ∀ m, ∃ g m', eval_run_eval K R n m = some (g, m') ∧ Mn g.v N ∧ m'.length ≤ m.length + 6 * 9 ^ d
def ArgN (R : Rn) (d : Nat) (x : Nd) (N : Int) : Prop := (∃ a b, eval_Area R.p x = some (a, b, true) ∧ Bx a b ∧ N = ((cellsL a b).map (pN R.p)).sum) ∨ ((∃ a b, eval_Area R.p x = some (a, b, false)) ∧ Res R d x N)
def AL (R : Rn) (x : Nd) (N : Int) (l : List V) : Prop := (∃ a b, eval_Area R.p x = some (a, b, true) ∧ Bx a b ∧ N = ((cellsL a b).map (pN R.p)).sum ∧ l = (cellsL a b).map (pV R.p)) ∨ (∃ a b, eval_Area R.p x = some (a, b, false)) ∧ ∃ v, l = [v] ∧ Mn v N ∧ v.k ≠ 4
theorem mn4 {v : V} {N : Int} (h : Mn v N) (k : v.k = 4) : v = ⟨4, 5, []⟩ := by
 rcases h with ⟨rfl, _⟩ | ⟨rfl, _⟩ | rfl
 · cases k
 · cases k
 · rfl
theorem area_len {R : Rn} {x : Nd} {N : Int} {l : List V} (h : AL R x N l) : l.length ≤ 6 := by
 rcases h with ⟨a, b, _, hb, _, rfl⟩ | ⟨_, v, rfl, _⟩
 · rw [List.length_map]
   exact cellsL_len hb
 · simp
theorem foldO_list {σ α β : Type} {B : σ → α → Option σ} (st : List β → σ) (f : α → β) (X : List α) (L : Nat) (h : ∀ (l : List β) x, x ∈ X → l.length ≤ L → B (st l) x = some (st (l ++ [f x]))) : ∀ (xs : List α) (l : List β), (∀ x ∈ xs, x ∈ X) → l.length + xs.length ≤ L → foldO B (st l) xs = some (st (l ++ xs.map f))
 | [], l, _, _ => by simp [foldO]
 | x :: xs, l, hx, hl => by
  simp only [List.length_cons] at hl
  simp only [foldO, h l x (hx x (by simp)) (by omega), obind]
  rw [foldO_list st f X L h xs (l ++ [f x]) (fun y hy => hx y (by simp [hy])) (by simp; omega)]
  simp
variable {R : Rn} {n : Nd} {m : List (C × Bool)}
theorem strict_q {d K : Nat} {Nf : Nd → Int} (hp : okQ R.p) (hK : d ≤ K) (hx : ∀ x ∈ n.l, ArgN R d x (Nf x)) (hl : n.l.length ≤ 3) (hbe : funcs_Bears n.op = some false) {PP : V → Prop}
 (happ : ∀ args : List Arg, All2 (fun x (a : Arg) => AL R x (Nf x) a.l) n.l args → Ok (funcs_Apply n.op args) PP) (h45 : PP ⟨4, 5, []⟩) :
 Ok (eval_run_strict (eval_run_eval K) R n m) fun r => PP r.1.v ∧ r.2.length ≤ m.length + 3 * (6 * 9 ^ d) := by
 have h9 : 1 ≤ 9 ^ d := Nat.one_le_pow _ _ (by omega)
 generalize hB : 6 * 9 ^ d = B at *
 have hB6 : 6 ≤ B := by omega
 unfold eval_run_strict
 refine Ok.bv fun J5 e5 => ?_
 have hJ5 : ∀ s, s.1.length ≤ m.length + 3 * B → All2 (fun x (a : Arg) => AL R x (Nf x) a.l) n.l s.2.2.2.2.2.2.2 → Ok (J5 s) fun r => PP r.1.v ∧ r.2.length ≤ m.length + 3 * B := by
  intro s h1 h2
  rw [e5]
  exact Ok.ob (happ _ h2) fun v ev hv => Ok.ob (R := fun g : Gt => g.v = v) (Ok.sm rfl) fun g eg hg => Ok.sm ⟨by rw [hg]; exact hv, h1⟩
 clear e5
 refine Ok.bv fun B11 e11 => ?_
 refine Ok.lp (fun s => ∃ i : Nat, s.1 = (i : Int) ∧ i ≤ n.l.length ∧ s.2.1.length ≤ m.length + i * B ∧ All2 (fun x (a : Arg) => AL R x (Nf x) a.l) (n.l.take i) s.2.2.2.2.2.2.2.2) (fun s => n.l.length - s.1.toNat) ⟨0, rfl, Nat.zero_le _, by simp, .nil⟩ (by simp; omega) ?_
 rintro s ⟨i, h1, h3, h4, h6⟩ next hn
 have h5 := h6.len
 rw [List.length_take] at h5
 rw [e11]
 have hiB : i * B ≤ 3 * B := Nat.mul_le_mul_right B (by omega)
 refine Ok.bv fun z ez => Ok.it (fun c => ?_) fun c => ?_
 rotate_left
 · rw [ez, h1, decide_eq_false_iff_not] at c
   rw [List.take_of_length_le (by omega)] at h6
   exact hJ5 _ (by dsimp only; omega) h6
 rw [ez, h1, decide_eq_true_eq] at c
 have hi : i < n.l.length := by omega
 have hb : (i + 1) * B ≤ 3 * B := Nat.mul_le_mul_right B (by omega)
 have hb2 : (i + 1) * B = i * B + B := Nat.succ_mul i B
 have htk := take_gel (l := n.l) (i := (i : Int)) (by omega) (by omega)
 simp only [Int.toNat_natCast] at htk
 rw [show ((i : Int) + 1).toNat = i + 1 by omega] at htk
 refine Ok.ck (by omega) (Ok.bv fun x ex => ?_)
 rw [h1] at ex
 rw [← ex] at htk
 have hxm : x ∈ n.l := by rw [ex]; exact gel_mem (by omega)
 refine Ok.ob (R := fun y => eval_Area R.p x = some y) ?_ fun y _ ey => Ok.bv fun J29 e29 => ?_
 · rcases hx x hxm with ⟨a, b, ha, _⟩ | ⟨⟨a, b, ha⟩, _⟩ <;> exact ⟨_, ha, ha⟩
 have hJ : ∀ q : List (C × Bool) × Bool × Int × List Gt, q.1.length ≤ m.length + (i + 1) * B → q.2.2.2.length ≤ 6 → (∀ g ∈ q.2.2.2, g.v.k = 4 → g.v = ⟨4, 5, []⟩) → ((∀ g ∈ q.2.2.2, g.v.k ≠ 4) → AL R x (Nf x) (q.2.2.2.map (·.v))) → Ok (J29 q) fun r => PP r.1.v ∧ r.2.length ≤ m.length + 3 * B := by
  intro q k1 k3 k4 k5
  rw [e29]
  refine Ok.bv fun J33 e33 => ?_
  have hJ33 : ∀ u, AL R x (Nf x) u.2.2.2.2.2.2 → Ok (J33 u) fun r => PP r.1.v ∧ r.2.length ≤ m.length + 3 * B := by
   intro u u1
   rw [e33]
   refine Ok.ck (by simp only [List.length_cons, List.length_nil]; omega) (Ok.bv fun w ew => Ok.bv fun z9 e9 => ?_)
   rw [h1] at e9
   have e := succ64 e9 (by omega)
   refine hn _ ⟨i + 1, e, hi, k1, ?_⟩ (by simp only [e, h1]; omega)
   dsimp only
   rw [ew, htk]
   exact h6.snoc u1
  clear e33
  refine Ok.bv fun B43 e43 => ?_
  refine Ok.lp (fun u => ∃ j : Nat, u.1 = (j : Int) ∧ j ≤ q.2.2.2.length ∧ (∀ g ∈ q.2.2.2.take j, g.v.k ≠ 4) ∧ u.2.2.2.2.2.2.2 = (q.2.2.2.take j).map (·.v)) (fun u => q.2.2.2.length - u.1.toNat) ⟨0, rfl, Nat.zero_le _, by simp, by simp⟩ (by simp; omega) ?_
  rintro u ⟨j, u1, u2, u3, u4⟩ next2 hn2
  rw [e43]
  refine Ok.bv fun z ez => Ok.it (fun c => ?_) fun c => ?_
  rotate_left
  · rw [ez, u1, decide_eq_false_iff_not] at c
    rw [List.take_of_length_le (by omega)] at u3 u4
    refine hJ33 _ ?_
    dsimp only
    rw [u4]
    exact k5 u3
  rw [ez, u1, decide_eq_true_eq] at c
  refine Ok.ck (by omega) (Ok.bv fun g eg => ?_)
  rw [u1] at eg
  have hgm : g ∈ q.2.2.2 := by rw [eg]; exact gel_mem (by omega)
  have htk2 := take_gel (l := q.2.2.2) (i := (j : Int)) (by omega) (by omega)
  simp only [Int.toNat_natCast] at htk2
  rw [show ((j : Int) + 1).toNat = j + 1 by omega, ← eg] at htk2
  refine Ok.bv fun z1 ez1 => ?_
  have hbr : Ok (if z1 = true then funcs_Bears n.op else some default) fun b => z1 = true → b = false := Ok.it (fun _ => ⟨false, hbe, fun _ => rfl⟩) fun h => Ok.sm fun h' => by rw [h] at h'; cases h'
  refine Ok.ob hbr fun b eb hb' => Ok.bv fun z2 ez2 => Ok.bv fun z3 ez3 => Ok.it (fun h => ?_) fun h => ?_
  · rw [ez3, Bool.and_eq_true, ez1, decide_eq_true_eq] at h
    exact Ok.sm ⟨by rw [k4 g hgm h.1]; exact h45, by dsimp only; omega⟩
  · have hk4 : g.v.k ≠ 4 := fun e => by
     have hz1 : z1 = true := by rw [ez1, decide_eq_true_eq]; exact e
     rw [ez3, ez2, hb' hz1, hz1] at h
     cases h
    refine Ok.ck (by simp only [List.length_cons, List.length_nil]; rw [u4, List.length_map, List.length_take]; omega) (Ok.bv fun w ew => Ok.bv fun z9 e9 => ?_)
    rw [u1] at e9
    have e := succ64 e9 (by omega)
    refine hn2 _ ⟨j + 1, e, by omega, ?_, ?_⟩ (by simp only [e, u1]; omega)
    · rw [htk2]
      exact all_snoc u3 hk4
    · dsimp only
      rw [ew, u4, htk2, List.map_append]
      rfl
 clear e29
 rcases hx x hxm with ⟨a, b, ha, hab, hN⟩ | ⟨⟨a, b, ha⟩, hres⟩
 · rw [ha] at ey
   obtain rfl := Option.some.inj ey
   refine Ok.it (fun _ => ?_) fun h => by cases h
   refine Ok.bv fun z1 e1 => Ok.bv fun z2 e2 => ?_
   rw [cells_q hab]
   refine Ok.os fun cs ecs => Ok.bv fun B70 e70 => ?_
   subst ecs
   have hcl := cellsL_len hab
   have hf : ∀ (X : List C) (ms : List (C × Bool)) (out : List Gt), out.length + X.length ≤ 6 → ∃ ms', foldO B70 (ms, out) X = some (ms', out ++ X.map fun c => (⟨pV R.p c, ⟨0, 0, 0⟩⟩ : Gt)) ∧ ms'.length ≤ ms.length + X.length := by
    intro X
    induction X with
    | nil => intro ms out _; exact ⟨ms, by simp [foldO], by simp⟩
    | cons c X ih =>
     intro ms out hlen
     simp only [List.length_cons] at hlen
     obtain ⟨ms', k1, k2⟩ := ih (mput ms c true) (out ++ [⟨pV R.p c, ⟨0, 0, 0⟩⟩]) (by simp; omega)
     have hm := mput_le ms c true
     refine ⟨ms', ?_, by simp only [List.length_cons]; omega⟩
     have e1 : B70 (ms, out) c = some (mput ms c true, out ++ [⟨pV R.p c, ⟨0, 0, 0⟩⟩]) := by
      rw [e70]
      simp only [cell_q hp, obind, bindv, chk]
      rw [if_pos (by simp only [List.length_cons, List.length_nil]; omega)]
     simp only [foldO, e1, obind, k1]
     simp
   obtain ⟨ms', k1, k2⟩ := hf (cellsL a b) s.2.1 [] (by simpa using hcl)
   rw [k1]
   refine Ok.os fun f ef => ?_
   subst ef
   refine hJ _ (by dsimp only; omega) (by simpa using hcl) (fun g hg k4 => ?_) fun _ => ?_
   · dsimp only at hg
     simp only [List.nil_append, List.mem_map] at hg
     obtain ⟨c, _, rfl⟩ := hg
     exact absurd k4 (at_q hp c).ne
   · left
     refine ⟨a, b, ha, hab, hN, ?_⟩
     simp [List.map_map, Function.comp_def]
 · rw [ha] at ey
   obtain rfl := Option.some.inj ey
   refine Ok.it (fun h => by cases h) fun _ => ?_
   obtain ⟨g, m', k1, k2, k3⟩ := hres K hK s.2.1
   rw [k1]
   rw [hB] at k3
   refine Ok.os fun y ey => Ok.ck (by simp) (Ok.bv fun w ew => ?_)
   subst ey
   have ew' : w = [g] := ew
   subst ew'
   refine hJ _ (by dsimp only; omega) (by simp) (fun g' hg k4 => ?_) fun hne => ?_
   · obtain rfl : g' = g := by simpa using hg
     exact mn4 k2 k4
   · exact .inr ⟨⟨a, b, ha⟩, g.v, rfl, k2, hne g (by simp)⟩
theorem bears_q : funcs_Bears 21 = some false ∧ funcs_Bears 29 = some false := by
 constructor <;> kernel_rfl
theorem name_q : tree_Name 21 = some [83, 85, 77] ∧ tree_Name 29 = some [83, 85, 77, 80, 82, 79, 68, 85, 67, 84] := by
 constructor <;> kernel_rfl
theorem apply_21 {args : List Arg} (h : fitB 21 args.length = true) (hl : args.length ≤ 9) : funcs_Apply 21 args = obind (obind (funcs_all args) fun y => obind (lists_Sum y) fun z => some z) fun z => some z := by
 unfold funcs_Apply
 rw [name_q.1, fits_eq (by omega) hl, h]
 kernel_rfl
theorem apply_29 {args : List Arg} (h : fitB 29 args.length = true) (hl : args.length ≤ 9) : funcs_Apply 29 args = obind (chk ((0 : Int) ≤ 0 ∧ 0 < (args.length : Int)) <| bindv (gel args 0 : Arg) fun a => chk ((0 : Int) ≤ 1 ∧ 1 < (args.length : Int)) <| bindv (gel args 1 : Arg) fun b => obind (lists_SumProduct a.l b.l) fun z => some z) fun z => some z := by
 unfold funcs_Apply
 rw [name_q.2, fits_eq (by omega) hl, h]
 kernel_rfl
theorem all_q {args : List Arg} (hl : args.length ≤ 9) (h : ∀ a ∈ args, a.l.length ≤ 6) : funcs_all args = some (args.flatMap (·.l)) := by
 have key : Ok (funcs_all args) fun r => r = args.flatMap (·.l) := by
  have hfl : ∀ k : Nat, ((args.take k).flatMap (·.l)).length ≤ 6 * k := by
   have : ∀ (bs : List Arg), (∀ a ∈ bs, a.l.length ≤ 6) → (bs.flatMap (·.l)).length ≤ 6 * bs.length := by
    intro bs
    induction bs with
    | nil => simp
    | cons a bs ih =>
     intro h
     have h1 := h a (by simp)
     have h2 := ih fun c hc => h c (by simp [hc])
     simp only [List.flatMap_cons, List.length_append, List.length_cons]
     omega
   intro k
   have h1 := this (args.take k) fun a ha => h a (List.mem_of_mem_take ha)
   have h2 : (args.take k).length ≤ k := by rw [List.length_take]; omega
   omega
  unfold funcs_all
  refine Ok.bv fun J2 hJ2 => Ok.bv fun B hB => ?_
  subst hB
  refine Ok.lp (fun s : Int × List V => 0 ≤ s.1 ∧ s.1 ≤ args.length ∧ s.2 = (args.take s.1.toNat).flatMap (·.l)) (fun s => (args.length - s.1).toNat) ⟨by simp, by simp, by simp⟩ (by simp only; omega) ?_
  rintro ⟨i, out⟩ ⟨s0, s1, s2⟩ next ih
  simp only at s0 s1 s2 ⊢
  refine Ok.bv fun z1 e1 => Ok.it (fun h1 => ?_) fun h1 => ?_
  · have hlt : i < args.length := by rw [e1] at h1; simpa using h1
    have htk := take_gel s0 hlt
    refine Ok.ck ⟨s0, hlt⟩ (Ok.bv fun a ea => ?_)
    rw [← ea] at htk
    have hal := h a (by rw [ea]; exact gel_mem ⟨s0, hlt⟩)
    have hol := hfl i.toNat
    rw [← s2] at hol
    refine Ok.ck (by omega) (Ok.bv fun z2 e2 => Ok.bv fun z3 e3 => ?_)
    have e3' : z3 = i + 1 := (wI64 e3).2 (by omega)
    refine ih _ ⟨by simp only; omega, by simp only; omega, ?_⟩ (by simp only; omega)
    simp only [e3', e2]
    rw [htk, List.flatMap_append, s2]
    simp
  · have hge : ¬ i < args.length := by rw [e1] at h1; simpa using h1
    rw [List.take_of_length_le (by omega)] at s2
    rw [hJ2]
    exact Ok.sm s2
 obtain ⟨v, h, rfl⟩ := key
 exact h
theorem numsOf_app (a b : List V) : numsOf (a ++ b) = numsOf a ++ numsOf b := by simp [numsOf]
theorem numsOf_cells {p : List V} (hp : okQ p) : ∀ (cs : List C), (numsOf (cs.map (pV p))).sum = (cs.map (pN p)).sum * 1000000 ∧ ∀ x ∈ numsOf (cs.map (pV p)), 0 ≤ x ∧ x ≤ 9223372036854775807
 | [] => by simp [numsOf]
 | c :: cs => by
  obtain ⟨h1, h2⟩ := numsOf_cells hp cs
  have hc := at_q hp c
  have hb := hc.bd
  have e : numsOf ((c :: cs).map (pV p)) = numsOf [pV p c] ++ numsOf (cs.map (pV p)) := by
   rw [← numsOf_app]
   rfl
  rw [e, List.map_cons, List.sum_cons, List.sum_append]
  rcases hc.sh with ⟨k1, k2⟩ | k1
  · have : numsOf [pV p c] = [] := by rw [k1]; rfl
    rw [this, k2]
    simp only [List.sum_nil, List.nil_append]
    exact ⟨by omega, h2⟩
  · have : numsOf [pV p c] = [pN p c * 1000000] := by rw [k1]; rfl
    rw [this]
    refine ⟨by simp only [List.sum_cons, List.sum_nil]; omega, fun x hx => ?_⟩
    rcases List.mem_append.1 hx with hx | hx
    · obtain rfl : x = pN p c * 1000000 := by simpa using hx
      omega
    · exact h2 x hx
theorem AL_nums {x : Nd} {N : Int} {l : List V} (hp : okQ R.p) (h : AL R x N l) : (numsOf l).sum = N * 1000000 ∧ ∀ x ∈ numsOf l, 0 ≤ x ∧ x ≤ 9223372036854775807 := by
 rcases h with ⟨a, b, _, _, rfl, rfl⟩ | ⟨_, v, rfl, hv, hk⟩
 · exact numsOf_cells hp _
 · rcases hv with ⟨rfl, rfl⟩ | ⟨rfl, h1, h2⟩ | rfl
   · simp [numsOf]
   · have : numsOf [(⟨1, N * 1000000, []⟩ : V)] = [N * 1000000] := rfl
     rw [this]
     refine ⟨by simp, fun x hx => ?_⟩
     obtain rfl : x = N * 1000000 := by simpa using hx
     omega
   · exact absurd rfl hk
theorem All_nums {Nf : Nd → Int} (hp : okQ R.p) {l : List Nd} {args : List Arg} (h : All2 (fun x (a : Arg) => AL R x (Nf x) a.l) l args) : (numsOf (args.flatMap (·.l))).sum = (l.map Nf).sum * 1000000 ∧ (∀ x ∈ numsOf (args.flatMap (·.l)), 0 ≤ x ∧ x ≤ 9223372036854775807) ∧ (∀ a ∈ args, a.l.length ≤ 6) ∧ (args.flatMap (·.l)).length ≤ 6 * l.length := by
 induction h with
 | nil => simp [numsOf]
 | cons h1 _ ih =>
  obtain ⟨k1, k2, k3, k4⟩ := ih
  obtain ⟨j1, j2⟩ := AL_nums hp h1
  have j3 := area_len h1
  simp only [List.flatMap_cons, numsOf_app, List.sum_append, List.map_cons, List.sum_cons, List.length_append, List.length_cons]
  refine ⟨by rw [k1, j1, Int.add_mul], fun x hx => ?_, fun a ha => ?_, by omega⟩
  · rcases List.mem_append.1 hx with hx | hx
    · exact j2 x hx
    · exact k2 x hx
  · rcases List.mem_cons.1 ha with rfl | ha
    · exact j3
    · exact k3 a ha
theorem sumV_mn {v : V} {S : Int} (h : SumV v (S * 1000000)) : Mn v S := by
 rcases h with ⟨rfl, h1, h2⟩ | rfl
 · exact .inr (.inl ⟨rfl, by omega, h2⟩)
 · exact .inr (.inr rfl)
theorem toNum_q {x : V} {N : Int} (h : Mn x N) (hk : x.k ≠ 4) : value_ToNum x = some ⟨1, N * 1000000, []⟩ ∧ 0 ≤ N ∧ N * 1000000 ≤ 9223372036854775807 := by
 rcases h with ⟨rfl, rfl⟩ | ⟨rfl, h1, h2⟩ | rfl
 · exact ⟨by simp [value_ToNum, bindv, obind, value_Num], by omega, by omega⟩
 · exact ⟨by simp [value_ToNum, bindv], h1, h2⟩
 · exact absurd rfl hk
theorem made_mn {r : Int × Bool} {S : Int} (h0 : 0 ≤ S) (h : r.2 = true → r.1 = S * 1000000 ∧ S * 1000000 ≤ 9223372036854775807) : Ok (value_Made r.1 r.2) fun v => Mn v S := by
 rw [value_Made_eq]
 by_cases hr : r.2 = true
 · rw [if_pos hr]
   obtain ⟨h1, h2⟩ := h hr
   exact Ok.sm (.inr (.inl ⟨by rw [h1], h0, h2⟩))
 · rw [if_neg hr]
   exact Ok.sm (.inr (.inr rfl))
theorem bin_q {op : Int} {x y : V} {N M : Int} (hop : op = 1 ∨ op = 3) (hx : Mn x N) (hy : Mn y M) (kx : x.k ≠ 4) (ky : y.k ≠ 4) : Ok (funcs_Binary op x y) fun v => Mn v (if op = 1 then N + M else N * M) := by
 obtain ⟨x1, x2, x3⟩ := toNum_q hx kx
 obtain ⟨y1, y2, y3⟩ := toNum_q hy ky
 unfold funcs_Binary
 refine Ok.bv fun z1 e1 => Ok.it (fun h => ?_) fun _ => Ok.bv fun z2 e2 => Ok.it (fun h => ?_) fun _ => ?_
 · rw [e1, decide_eq_true_eq] at h
   omega
 · rw [e2, decide_eq_true_eq] at h
   omega
 rw [x1, y1]
 refine Ok.os fun a ea => Ok.os fun b eb => Ok.bv fun z3 e3 => ?_
 subst ea eb
 refine Ok.it (fun h => ?_) fun _ => Ok.bv fun z4 e4 => Ok.it (fun h => ?_) fun _ => ?_
 · rw [e3] at h
   cases h
 · rw [e4] at h
   cases h
 dsimp only
 refine Ok.bv fun z5 e5 => Ok.it (fun h => ?_) fun h => ?_
 · rw [e5, decide_eq_true_eq] at h
   rw [if_pos h]
   refine Ok.ob (num_Add_q (a := N * 1000000) (b := M * 1000000) (by omega) (by omega)) fun r _ hr => Ok.ob (made_mn (S := N + M) (by omega) fun h => ?_) fun v _ hv => Ok.sm hv
   obtain ⟨k1, k2⟩ := hr h
   exact ⟨by omega, by omega⟩
 · rw [e5, decide_eq_false_iff_not] at h
   rw [if_neg h]
   refine Ok.bv fun z6 e6 => Ok.it (fun h => ?_) fun _ => Ok.bv fun z7 e7 => Ok.it (fun h => ?_) fun h => ?_
   · rw [e6, decide_eq_true_eq] at h
     omega
   · refine Ok.ob (num_Mul_q (x := N * 1000000) (y := M * 1000000) (m := N * M * 1000000) (by omega) (by omega) (by rw [Int.mul_assoc N 1000000, Int.mul_left_comm 1000000 M, ← Int.mul_assoc, ← Int.mul_assoc])) fun r _ hr => Ok.ob (made_mn (S := N * M) (Int.mul_nonneg x2 y2) fun h => ?_) fun v _ hv => Ok.sm hv
     exact hr h
   · rw [e7, decide_eq_false_iff_not] at h
     omega
end Go.Sp
end
section
namespace Go.Sp
open Go.Stp Go.ValP
inductive Pf : Nat → Nd → Prop
 | lit (d : Nat) (v : V) : Rt v → Pf (d + 1) ⟨1, 0, v, r0, r0, [], []⟩
 | cell (d : Nat) (r : Rf) : (0 ≤ r.c.c ∧ r.c.c ≤ 3 ∧ 0 ≤ r.c.r ∧ r.c.r ≤ 3 ∧ 0 ≤ r.c.s ∧ r.c.s ≤ 1) → Pf (d + 1) ⟨2, 0, ⟨0, 0, []⟩, r, r0, [], []⟩
 | span (d : Nat) (r : Rf) (x y : Int) : (0 ≤ r.c.c ∧ r.c.c ≤ 3 ∧ 0 ≤ r.c.r ∧ r.c.r ≤ 3 ∧ 0 ≤ r.c.s ∧ r.c.s ≤ 1) → (r.c.c ≤ x ∧ x ≤ r.c.c + 1) → (r.c.r ≤ y ∧ y ≤ r.c.r + 2) → Pf (d + 1) ⟨3, 0, ⟨0, 0, []⟩, r, ⟨⟨r.c.s, x, y⟩, r.ac, r.ar⟩, [], []⟩
 | un (d : Nat) (k : Int) (x : Nd) : (k = 5 ∨ k = 6) → Pf d x → Pf (d + 1) ⟨k, 0, ⟨0, 0, []⟩, r0, r0, [], [x]⟩
 | bin (d : Nat) (op : Int) (x y : Nd) : (1 ≤ op ∧ op ≤ 11) → Pf d x → Pf d y → Pf (d + 1) ⟨7, op, ⟨0, 0, []⟩, r0, r0, [], [x, y]⟩
 | call (d : Nat) (op : Int) (l : List Nd) : (1 ≤ op ∧ op ≤ 54) → l.length ≤ 3 → fitB op l.length = true → (∀ x ∈ l, Pf d x) → Pf (d + 1) ⟨8, op, ⟨0, 0, []⟩, r0, r0, [], l⟩
theorem pf_seeded : Seeded Pf where
 lit d v h := .lit d v h
 cell d r h := .cell d r h
 span d r x y h hx hy := .span d r x y h hx hy
 un d k x hk hx := .un d k x hk hx
 bin d op x y ho hx hy := .bin d op x y ho hx hy
 call d op l ho hl hf hx := .call d op l ho hl hf hx
theorem area_cell (p : List V) (r : Rf) : eval_Area p ⟨2, 0, ⟨0, 0, []⟩, r, r0, [], []⟩ = some (r.c, r.c, true) := by
 simp [eval_Area, bindv]
theorem area_span (p : List V) (r b : Rf) (h : Bx r.c b.c) : eval_Area p ⟨3, 0, ⟨0, 0, []⟩, r, b, [], []⟩ = some (r.c, b.c, true) := by
 have := order_q h
 simp [eval_Area, bindv, obind, this]
theorem area_no (p : List V) {n : Nd} (h : n.k = 1 ∨ 5 ≤ n.k) : ∃ a b, eval_Area p n = some (a, b, false) := by
 have h2 : n.k ≠ 2 := by omega
 have h3 : n.k ≠ 3 := by omega
 have h4 : n.k ≠ 4 := by omega
 exact ⟨⟨0, 0, 0⟩, ⟨0, 0, 0⟩, by simp [eval_Area, bindv, h2, h3, h4]⟩
theorem span_bx {r : Rf} {x y : Int} (h : 0 ≤ r.c.c ∧ r.c.c ≤ 3 ∧ 0 ≤ r.c.r ∧ r.c.r ≤ 3 ∧ 0 ≤ r.c.s ∧ r.c.s ≤ 1) (hx : r.c.c ≤ x ∧ x ≤ r.c.c + 1) (hy : r.c.r ≤ y ∧ y ≤ r.c.r + 2) : Bx r.c ⟨r.c.s, x, y⟩ :=
 ⟨rfl, h.1, hx.1, hx.2, by dsimp only; omega, h.2.2.1, hy.1, hy.2, by dsimp only; omega⟩
theorem cell_bx {r : Rf} (h : 0 ≤ r.c.c ∧ r.c.c ≤ 3 ∧ 0 ≤ r.c.r ∧ r.c.r ≤ 3 ∧ 0 ≤ r.c.s ∧ r.c.s ≤ 1) : Bx r.c r.c :=
 ⟨rfl, h.1, Int.le_refl _, by omega, by omega, h.2.2.1, Int.le_refl _, by omega, by omega⟩
theorem ev_area1 {R : Rn} (hp : okQ R.p) (K : Nat) {n : Nd} {a : C} (hk : n.k = 2 ∨ n.k = 3) (ha : eval_Area R.p n = some (a, a, true)) (m : List (C × Bool)) : eval_run_eval (K + 1) R n m = some (⟨pV R.p a, ⟨0, 0, 0⟩⟩, mput m a true) := by
 have h1 : n.k ≠ 1 := by omega
 rw [ev_step]
 rcases hk with hk | hk <;> simp [eval_run_eval_B, bindv, hk, ha, obind, cell_q hp]
theorem res_area {R : Rn} (hp : okQ R.p) {d : Nat} {n : Nd} {a : C} (hk : n.k = 2 ∨ n.k = 3) (ha : eval_Area R.p n = some (a, a, true)) : Res R (d + 1) n (pN R.p a) := by
 intro K hK m
 obtain ⟨K', rfl⟩ : ∃ K', K = K' + 1 := ⟨K - 1, by omega⟩
 have h9 : 1 ≤ 9 ^ (d + 1) := Nat.one_le_pow _ _ (by omega)
 have := mput_le m a true
 exact ⟨_, _, ev_area1 hp K' hk ha m, (at_q hp a).mn, by omega⟩
theorem res_lit {R : Rn} {d : Nat} {v : V} {N : Int} (h : Mn v N) : Res R (d + 1) ⟨1, 0, v, r0, r0, [], []⟩ N := by
 intro K hK m
 obtain ⟨K', rfl⟩ : ∃ K', K = K' + 1 := ⟨K - 1, by omega⟩
 refine ⟨⟨v, R.c⟩, m, ?_, h, by omega⟩
 rw [ev_step]
 simp [eval_run_eval_B, bindv, obind, eval_run_made]
theorem ev_bin {R : Rn} {K : Nat} {op : Int} {v : V} {a b : Rf} {nm : List UInt8} {x y : Nd} {m m1 m2 : List (C × Bool)} {g1 g2 : Gt} (hx : eval_run_eval K R x m = some (g1, m1)) (hy : eval_run_eval K R y m1 = some (g2, m2)) :
 eval_run_eval (K + 1) R ⟨7, op, v, a, b, nm, [x, y]⟩ m = if g1.v.k = 4 then some (g1, m1) else if g2.v.k = 4 then some (g2, m2) else obind (funcs_Binary op g1.v g2.v) fun v => some (⟨v, R.c⟩, m2) := by
 have e0 : gel [x, y] (0 : Int) = x := rfl
 have e1 : gel [x, y] (1 : Int) = y := rfl
 rw [ev_step]
 by_cases h1 : g1.v.k = 4
 · simp [eval_run_eval_B, bindv, chk, e0, hx, obind, h1]
 · by_cases h2 : g2.v.k = 4
   · simp [eval_run_eval_B, bindv, chk, e0, e1, hx, hy, obind, h1, h2]
   · simp [eval_run_eval_B, bindv, chk, e0, e1, hx, hy, obind, h1, h2, eval_run_made]
theorem res_bin {R : Rn} {d : Nat} {op : Int} {x y : Nd} {N M : Int} (hop : op = 1 ∨ op = 3) (hx : Res R d x N) (hy : Res R d y M) : Res R (d + 1) ⟨7, op, ⟨0, 0, []⟩, r0, r0, [], [x, y]⟩ (if op = 1 then N + M else N * M) := by
 intro K hK m
 obtain ⟨K', rfl⟩ : ∃ K', K = K' + 1 := ⟨K - 1, by omega⟩
 obtain ⟨g1, m1, a1, a2, a3⟩ := hx K' (by omega) m
 obtain ⟨g2, m2, b1, b2, b3⟩ := hy K' (by omega) m1
 have h9 : 9 ^ (d + 1) = 9 * 9 ^ d := by rw [Nat.pow_succ, Nat.mul_comm]
 rw [ev_bin a1 b1, h9]
 by_cases h1 : g1.v.k = 4
 · rw [if_pos h1]
   exact ⟨_, _, rfl, .inr (.inr (mn4 a2 h1)), by omega⟩
 · rw [if_neg h1]
   by_cases h2 : g2.v.k = 4
   · rw [if_pos h2]
     exact ⟨_, _, rfl, .inr (.inr (mn4 b2 h2)), by omega⟩
   · rw [if_neg h2]
     obtain ⟨v, c1, c2⟩ := bin_q hop a2 b2 h1 h2
     rw [c1]
     exact ⟨_, _, rfl, c2, by omega⟩
theorem ev_strict (K : Nat) (R : Rn) (op : Int) (l : List Nd) (m : List (C × Bool)) (hop : 6 ≤ op) : eval_run_eval (K + 1) R ⟨8, op, ⟨0, 0, []⟩, r0, r0, [], l⟩ m = obind (eval_run_strict (eval_run_eval K) R ⟨8, op, ⟨0, 0, []⟩, r0, r0, [], l⟩ m) fun y => some (y.1, y.2) := by
 have h : ¬ op ≤ 5 := by omega
 rw [ev_step]
 simp [eval_run_eval_B, bindv, h]
theorem res_strict {R : Rn} (hp : okQ R.p) {d : Nat} {op : Int} {l : List Nd} {Nf : Nd → Int} {S : Int} (hop : 6 ≤ op) (hx : ∀ x ∈ l, ArgN R d x (Nf x)) (hl : l.length ≤ 3) (hbe : funcs_Bears op = some false)
 (happ : ∀ args : List Arg, All2 (fun x (a : Arg) => AL R x (Nf x) a.l) l args → Ok (funcs_Apply op args) fun v => Mn v S) : Res R (d + 1) ⟨8, op, ⟨0, 0, []⟩, r0, r0, [], l⟩ S := by
 intro K hK m
 obtain ⟨K', rfl⟩ : ∃ K', K = K' + 1 := ⟨K - 1, by omega⟩
 have h9 : 9 ^ (d + 1) = 9 * 9 ^ d := by rw [Nat.pow_succ, Nat.mul_comm]
 obtain ⟨r, h1, h2, h3⟩ := strict_q (n := ⟨8, op, ⟨0, 0, []⟩, r0, r0, [], l⟩) (m := m) hp (show d ≤ K' by omega) hx hl hbe happ (.inr (.inr rfl))
 rw [ev_strict _ _ _ _ _ hop, h1]
 exact ⟨_, _, rfl, h2, by rw [h9]; omega⟩
theorem res_sum {R : Rn} (hp : okQ R.p) {d : Nat} {l : List Nd} {Nf : Nd → Int} (hx : ∀ x ∈ l, ArgN R d x (Nf x)) (hl : l.length ≤ 3) (hf : fitB 21 l.length = true) : Res R (d + 1) ⟨8, 21, ⟨0, 0, []⟩, r0, r0, [], l⟩ (l.map Nf).sum := by
 refine res_strict hp (by omega) hx hl bears_q.1 fun args h => ?_
 have hal := h.len
 obtain ⟨k1, k2, k3, k4⟩ := All_nums hp h
 rw [apply_21 (by rw [← hal]; exact hf) (by omega), all_q (by omega) k3]
 refine Ok.ob (R := fun v => Mn v (l.map Nf).sum) (Ok.os fun y ey => ?_) fun v _ hv => Ok.sm hv
 subst ey
 refine Ok.ob (Sum_q (by omega) k2) fun v _ hv => Ok.sm ?_
 rw [k1] at hv
 exact sumV_mn hv.1
theorem fit29t : fitB 29 2 = true := by decide +kernel
theorem fit29 : ((List.range 4).all fun n => !fitB 29 n || decide (n = 2)) = true := by decide +kernel
theorem res_prod {R : Rn} (hp : okQ R.p) {d : Nat} {x y : Nd} {a b c e : C} (hx : eval_Area R.p x = some (a, b, true)) (hy : eval_Area R.p y = some (c, e, true)) (hab : Bx a b) (hce : Bx c e) (h1 : e.c - c.c = b.c - a.c) (h2 : e.r - c.r = b.r - a.r) :
 Res R (d + 1) ⟨8, 29, ⟨0, 0, []⟩, r0, r0, [], [x, y]⟩ (prodS R.p (fun z => ⟨c.s, c.c + z.c - a.c, c.r + z.r - a.r⟩) (cellsL a b)) := by
 refine res_strict (Nf := fun z => ((match eval_Area R.p z with | some (a, b, true) => cellsL a b | _ => []).map (pN R.p)).sum) hp (by omega) ?_ (by simp) bears_q.2 fun args h => ?_
 · intro z hz
   rcases List.mem_cons.1 hz with rfl | hz
   · exact .inl ⟨a, b, hx, hab, by simp only [hx]⟩
   · obtain rfl : z = y := by simpa using hz
     exact .inl ⟨c, e, hy, hce, by simp only [hy]⟩
 · cases h with
   | cons hA h =>
   rename_i A _
   cases h with
   | cons hB h =>
   rename_i B _
   cases h
   have gA : A.l = (cellsL a b).map (pV R.p) := by
    rcases hA with ⟨a', b', k1, _, _, k2⟩ | ⟨⟨a', b', k1⟩, _⟩
    · rw [hx] at k1
      cases k1
      exact k2
    · rw [hx] at k1
      cases k1
   have gB : B.l = (cellsL a b).map fun z => pV R.p ⟨c.s, c.c + z.c - a.c, c.r + z.r - a.r⟩ := by
    rcases hB with ⟨a', b', k1, _, _, k2⟩ | ⟨⟨a', b', k1⟩, _⟩
    · rw [hy] at k1
      cases k1
      rw [k2, cellsL_shift h1 h2, List.map_map]
      rfl
    · rw [hy] at k1
      cases k1
   have hl2 : ([A, B] : List Arg).length = 2 := rfl
   rw [apply_29 (by rw [hl2]; exact fit29t) (by rw [hl2]; omega)]
   refine Ok.ob (R := fun v => Mn v (prodS R.p (fun z => ⟨c.s, c.c + z.c - a.c, c.r + z.r - a.r⟩) (cellsL a b))) ?_ fun v _ hv => Ok.sm hv
   refine Ok.ck (by simp) (Ok.bv fun A' eA => Ok.ck (by simp) (Ok.bv fun B' eB => ?_))
   have eA : A' = A := eA
   have eB : B' = B := eB
   rw [eA, eB, gA, gB]
   exact Ok.ob (SumProduct_q hp _ (cellsL_len hab)) fun v _ hv => Ok.sm (.inr (.inl hv))
theorem mul_var (a b : C) : ∃ v, poly_Mul [⟨1, [a]⟩] [⟨1, [b]⟩] = some (v, true) ∧ PG v ∧ ∀ g, EV (prG g) v = g a * g b := by
 have ha : PG [⟨1, [a]⟩] := PG.one (by omega) (by simp)
 have hb : PG [⟨1, [b]⟩] := PG.one (by omega) (by simp)
 have e : prods [⟨1, [a]⟩] [⟨1, [b]⟩] = [⟨1, srtC [a, b]⟩] := rfl
 have hl : (srtC [a, b]).length = 2 := by rw [(srtC_perm _).length_eq]; rfl
 have hp : PG [⟨1, srtC [a, b]⟩] := PG.one (by omega) (by omega)
 obtain ⟨r, h1, h2⟩ := poly_Mul_tot (a := [⟨1, [a]⟩]) (b := [⟨1, [b]⟩]) (sortT_tot (by rw [e]; simp) (by rw [e]; intro t ht; have ht : t = ⟨1, srtC [a, b]⟩ := by { simpa using ht }; subst ht; dsimp only; omega)) (by simp) (by simp) (by rw [e]; simp) (fun x hx y hy => by
  obtain rfl : x = ⟨1, [a]⟩ := by simpa using hx
  obtain rfl : y = ⟨1, [b]⟩ := by simpa using hy
  exact ⟨by simp, by simp, by simp⟩)
 have h3 := h2.stay hp.st hp.fi fun φ => by rw [e]
 subst h3
 refine ⟨_, h1, hp, fun g => ?_⟩
 simp only [EV]
 rw [prG_perm g (srtC_perm [a, b])]
 simp [prG]
theorem name_tot : ((List.range 54).all fun c => match tree_Name ((c + 1 : Nat) : Int) with
 | some nm => decide (nm = [83, 85, 77] → c = 20) && decide (nm = [83, 85, 77, 80, 82, 79, 68, 85, 67, 84] → c = 28)
 | none => false) = true := by decide +kernel
theorem name_ok {op : Int} (h : 1 ≤ op ∧ op ≤ 54) : ∃ nm, tree_Name op = some nm ∧ (nm = [83, 85, 77] → op = 21) ∧ (nm = [83, 85, 77, 80, 82, 79, 68, 85, 67, 84] → op = 29) := by
 have h1 := List.all_eq_true.1 name_tot (op - 1).toNat (List.mem_range.2 (by omega))
 rw [show (((op - 1).toNat + 1 : Nat) : Int) = op by omega] at h1
 split at h1
 · rename_i nm e
   simp only [Bool.and_eq_true, decide_eq_true_eq] at h1
   exact ⟨nm, e, fun g => by have := h1.1 g; omega, fun g => by have := h1.2 g; omega⟩
 · cases h1
theorem whole_q {x : Int} (h : -9223372036854775808 ≤ x ∧ x ≤ 9223372036854775807) : Ok (num_Whole x) fun r => r.2 = true → r.1 * 1000000 = x := by
 unfold num_Whole
 refine Ok.bv fun z1 e1 => Ok.bv fun z2 e2 => Ok.bv fun z3 e3 => Ok.sm fun h3 => ?_
 have := tmod_bd x (c := 1000000) (by omega)
 have e1' := (wI64 e1).2 (by omega)
 rw [e3, e2, decide_eq_true_eq] at h3
 dsimp only
 omega
def PolyP (R : Rn) (d : Nat) (n : Nd) (q : List T × Bool) : Prop := q.2 = true → PG q.1 ∧ Res R d n (EV (prG (pN R.p)) q.1)
theorem PolyP.none {R : Rn} {d : Nat} {n : Nd} : PolyP R d n ([], false) := fun h => by cases h
def Nfk (k : Nat) (p : List V) (x : Nd) : Int := match eval_Area p x with
 | some (a, b, true) => ((cellsL a b).map (pN p)).sum
 | _ => match poly_Of k x p with
  | some q => EV (prG (pN p)) q.1
  | none => 0
theorem two_of : ∀ {l : List Nd}, l.length = 2 → ∃ x y, l = [x, y]
 | [x, y], _ => ⟨x, y, rfl⟩
theorem area_of {d : Nat} {x : Nd} (h : Pf d x) (p : List V) : (∃ a b, eval_Area p x = some (a, b, true) ∧ Bx a b) ∨ ∃ a b, eval_Area p x = some (a, b, false) := by
 cases h with
 | lit d v hv => exact .inr (area_no p (.inl rfl))
 | cell d r hr => exact .inl ⟨_, _, area_cell p r, cell_bx hr⟩
 | span d r x y hr hx hy => exact .inl ⟨_, _, area_span p r _ (span_bx hr hx hy), span_bx hr hx hy⟩
 | un d k x hk hx => exact .inr (area_no p (.inr (by dsimp only; omega)))
 | bin d op x y ho hx hy => exact .inr (area_no p (.inr (by simp)))
 | call d op l ho hl hf hx => exact .inr (area_no p (.inr (by simp)))
theorem means {R : Rn} (hp : okQ R.p) : ∀ (d : Nat) (n : Nd), Pf d n → ∀ k, d ≤ k → Ok (poly_Of k n R.p) (PolyP R d n) := by
 intro d
 induction d with
 | zero => intro n h; cases h
 | succ d ih =>
  intro n h k hk
  obtain ⟨k, rfl⟩ : ∃ k', k = k' + 1 := ⟨k - 1, by omega⟩
  have hk' : d ≤ k := by omega
  show Ok (poly_Of_B (poly_Of k) n R.p) _
  cases h with
  | lit d v hv =>
   unfold poly_Of_B
   refine Ok.bv fun z1 e1 => Ok.it (fun _ => ?_) fun h => by rw [e1] at h; simp at h
   refine Ok.ob (whole_q (x := v.n) (by have := hv.n; omega)) fun y ey hy => Ok.bv fun z2 e2 => Ok.bv fun z3 e3 => Ok.bv fun z4 e4 => Ok.it (fun _ => Ok.sm PolyP.none) fun h => ?_
   rw [e4, e3, e2] at h
   simp only [Bool.or_eq_false_iff, Bool.not_eq_false', decide_eq_true_eq] at h
   refine Ok.ob PG.cst fun q eq hq => Ok.sm fun h2 => ?_
   obtain ⟨q1, q2, q3⟩ := hq h2
   refine ⟨q1, res_lit (.inr (.inl ⟨?_, ?_, ?_⟩))⟩
   · rw [q3 _ rfl, hy h.2]
     obtain ⟨vk, vn, vs⟩ := v
     have : vk = 1 := h.1
     subst this
     have hs : vs = [] := by
      rcases hv with g | g | g | g | g <;> simp_all
     subst hs
     rfl
   · rw [q3 _ rfl]; omega
   · rw [q3 _ rfl]; omega
  | cell d r hr =>
   unfold poly_Of_B
   refine Ok.bv fun z1 e1 => Ok.it (fun h => by rw [e1] at h; simp at h) fun _ => Ok.bv fun J15 e15 => Ok.bv fun z2 e2 => Ok.it (fun c => ?_) fun h => by rw [e2] at h; simp at h
   rw [c, e15]
   refine Ok.it (fun _ => ?_) fun h => by cases h
   rw [area_cell]
   refine Ok.os fun y ey => Ok.bv fun z3 e3 => Ok.bv fun z4 e4 => Ok.bv fun z5 e5 => Ok.it (fun _ => Ok.sm PolyP.none) fun _ => Ok.os fun q eq => Ok.sm fun _ => ?_
   subst ey eq
   refine ⟨PG.one (by omega) (by simp), ?_⟩
   rw [prG_one]
   exact res_area hp (.inl rfl) (area_cell _ _)
  | span d r x y hr hx hy =>
   have hb := span_bx hr hx hy
   have ha := area_span R.p r ⟨⟨r.c.s, x, y⟩, r.ac, r.ar⟩ hb
   unfold poly_Of_B
   refine Ok.bv fun z1 e1 => Ok.it (fun h => by rw [e1] at h; simp at h) fun _ => Ok.bv fun J15 e15 => Ok.bv fun z2 e2 => Ok.it (fun h => by rw [e2] at h; simp at h) fun _ => Ok.bv fun z2' e2' => Ok.it (fun c => ?_) fun h => by rw [e2'] at h; simp at h
   rw [c, e15]
   refine Ok.it (fun _ => ?_) fun h => by cases h
   rw [ha]
   refine Ok.os fun y' ey => Ok.bv fun z3 e3 => Ok.bv fun z4 e4 => Ok.bv fun z5 e5 => Ok.it (fun _ => Ok.sm PolyP.none) fun h => Ok.os fun q eq => Ok.sm fun _ => ?_
   subst ey eq
   rw [e5, e4] at h
   simp only [Bool.or_eq_false_iff, Bool.not_eq_false', Bool.and_eq_true, decide_eq_true_eq] at h
   have hxy : (⟨r.c.s, x, y⟩ : C) = r.c := C_ext rfl h.2.2.1.symm h.2.2.2.symm
   rw [hxy] at ha ⊢
   refine ⟨PG.one (by omega) (by simp), ?_⟩
   rw [prG_one]
   exact res_area hp (.inr rfl) ha
  | un d k5 x hk5 hx =>
   unfold poly_Of_B
   have h1 : ¬ k5 = 1 := by omega
   have h2 : ¬ k5 = 2 := by omega
   have h3 : ¬ k5 = 3 := by omega
   have h4 : ¬ k5 = 4 := by omega
   have h7 : ¬ k5 = 7 := by omega
   have h8 : ¬ k5 = 8 := by omega
   simp only [bindv, h1, h2, h3, h4, h7, h8, decide_false, Bool.false_eq_true, if_false]
   exact Ok.sm PolyP.none
  | bin d op x y ho hx hy =>
   unfold poly_Of_B
   simp only [bindv, show ¬ ((7 : Int) = 1) by omega, show ¬ ((7 : Int) = 2) by omega, show ¬ ((7 : Int) = 3) by omega, show ¬ ((7 : Int) = 4) by omega, decide_false, decide_true, Bool.false_eq_true, if_false, if_true]
   refine Ok.ob (R := PolyP R (d + 1) ⟨7, op, ⟨0, 0, []⟩, r0, r0, [], [x, y]⟩) ?_ fun q _ hq => Ok.sm hq
   unfold poly_binary
   refine Ok.ck (by simp) (Ok.bv fun x' ex => ?_)
   have ex : x' = x := ex
   subst ex
   refine Ok.ob (ih _ hx k hk') fun a _ ha => Ok.ck (by simp) (Ok.bv fun y' ey => ?_)
   have ey : y' = y := ey
   subst ey
   refine Ok.ob (ih _ hy k hk') fun b _ hb => Ok.bv fun z1 e1 => Ok.bv fun z2 e2 => Ok.bv fun z3 e3 => Ok.it (fun _ => Ok.sm PolyP.none) fun h => ?_
   rw [e3, e2, e1] at h
   simp only [Bool.or_eq_false_iff, Bool.not_eq_false'] at h
   obtain ⟨a1, a2⟩ := ha h.1
   obtain ⟨b1, b2⟩ := hb h.2
   refine Ok.bv fun z4 e4 => Ok.it (fun c => ?_) fun c => Ok.bv fun z5 e5 => Ok.it (fun c5 => ?_) fun _ => Ok.sm PolyP.none
   · rw [e4, decide_eq_true_eq] at c
     refine Ok.ob (PG.add (ps := [a.1, b.1]) (by simp [a1, b1]) (by simp)) fun q _ hq => Ok.sm fun h2 => ?_
     obtain ⟨q1, q2⟩ := hq h2
     refine ⟨q1, ?_⟩
     have := res_bin (op := op) (.inl c) a2 b2
     rw [if_pos c] at this
     rw [q2]
     simpa [EV_append] using this
   · rw [e4, decide_eq_false_iff_not] at c
     rw [e5, decide_eq_true_eq] at c5
     refine Ok.ob (PG.mul a1 b1) fun q _ hq => Ok.sm fun h2 => ?_
     obtain ⟨q1, q2⟩ := hq h2
     refine ⟨q1, ?_⟩
     have := res_bin (op := op) (.inr c5) a2 b2
     rw [if_neg c] at this
     rw [q2]
     exact this
  | call d op l ho hl hf hx =>
   unfold poly_Of_B
   simp only [bindv, show ¬ ((8 : Int) = 1) by omega, show ¬ ((8 : Int) = 2) by omega, show ¬ ((8 : Int) = 3) by omega, show ¬ ((8 : Int) = 4) by omega, show ¬ ((8 : Int) = 7) by omega, decide_false, decide_true, Bool.false_eq_true, if_false, if_true]
   refine Ok.ob (R := PolyP R (d + 1) ⟨8, op, ⟨0, 0, []⟩, r0, r0, [], l⟩) ?_ fun q _ hq => Ok.sm hq
   unfold poly_call
   refine Ok.bv fun J6 eJ6 => ?_
   obtain ⟨nm, hn, hn1, hn2⟩ := name_ok ho
   rw [hn]
   refine Ok.os fun y ey => Ok.bv fun z1 e1 => Ok.it (fun c => ?_) fun _ => Ok.bv fun z2 e2 => Ok.it (fun c => ?_) fun _ => Ok.sm PolyP.none
   ·
    rw [e1, ey, decide_eq_true_eq] at c
    have hop := hn1 c
    subst hop
    refine Ok.bv fun B18 e18 => ?_
    refine Ok.lp (fun s => ∃ i : Nat, s.1 = (i : Int) ∧ i ≤ l.length ∧ s.2.2.2.length ≤ 6 * i ∧ (∀ q ∈ s.2.2.2, PG q) ∧ (s.2.2.2.map (EV (prG (pN R.p)))).sum = ((l.take i).map (Nfk k R.p)).sum ∧ ∀ x ∈ l.take i, ArgN R d x (Nfk k R.p x)) (fun s => l.length - s.1.toNat) ⟨0, rfl, Nat.zero_le _, by simp, by simp, by simp, by simp⟩ (by simp; omega) ?_
    rintro s ⟨i, h1, h2, h3, h4, h5, h6⟩ next hnx
    rw [e18]
    refine Ok.bv fun z3 e3 => Ok.it (fun c => ?_) fun c => ?_
    rotate_left
    · rw [e3, h1, decide_eq_false_iff_not] at c
      have hi : i = l.length := by dsimp only at c; omega
      rw [hi, List.take_length] at h5 h6
      rw [eJ6]
      refine Ok.ob (PG.add h4 (by dsimp only; omega)) fun q _ hq => Ok.sm fun hq2 => ?_
      obtain ⟨q1, q2⟩ := hq hq2
      refine ⟨q1, ?_⟩
      rw [q2, EV_flat]
      dsimp only
      rw [h5]
      exact res_sum hp h6 hl hf
    rw [e3, h1, decide_eq_true_eq] at c
    have hi : i < l.length := by dsimp only at c; omega
    have htk := take_gel (l := l) (i := (i : Int)) (by omega) (by omega)
    simp only [Int.toNat_natCast] at htk
    rw [show ((i : Int) + 1).toNat = i + 1 by omega] at htk
    refine Ok.ck (by dsimp only; omega) (Ok.bv fun x ex => ?_)
    rw [h1] at ex
    have ex : x = gel l i := ex
    rw [← ex] at htk
    have hxm : x ∈ l := by rw [ex]; exact gel_mem (by omega)
    have fwd : ∀ (z : Int) (t1 : List T) (t2 : Bool) (ps : List (List T)), z = IntKind.wrap .i64 (s.1 + 1) → ps.length ≤ 6 * (i + 1) → (∀ q ∈ ps, PG q) → (ps.map (EV (prG (pN R.p)))).sum = ((l.take i).map (Nfk k R.p)).sum + Nfk k R.p x → ArgN R d x (Nfk k R.p x) → Ok (next (z, t1, t2, ps)) (PolyP R (d + 1) ⟨8, 21, ⟨0, 0, []⟩, r0, r0, [], l⟩) := by
     intro z t1 t2 ps ez k1 k2 k3 k4
     rw [h1] at ez
     have ez' := succ64 ez (by omega)
     refine hnx _ ⟨i + 1, ez', hi, k1, k2, ?_, ?_⟩ (by simp only [ez', h1]; omega)
     · rw [htk, List.map_append, List.sum_append]
       simpa using k3
     · rw [htk]
       exact all_snoc h6 k4
    rcases area_of (hx x hxm) R.p with ⟨a, b, ha, hab⟩ | ⟨a, b, ha⟩
    · have hN : Nfk k R.p x = ((cellsL a b).map (pN R.p)).sum := by unfold Nfk; rw [ha]
      rw [ha]
      refine Ok.os fun y ey => Ok.bv fun z4 e4 => ?_
      subst ey
      refine Ok.it (fun h => by rw [e4] at h; cases h) fun _ => ?_
      rw [cells_q hab]
      refine Ok.os fun cs ecs => Ok.bv fun B49 e49 => ?_
      subst ecs
      have hcl := cellsL_len hab
      rw [foldO_list (B := B49) (fun ps => ps) (fun c => [(⟨1, [c]⟩ : T)]) (cellsL a b) 100 (fun ps c _ hlen => by
       rw [e49]
       simp only [poly_Var, obind, chk, bindv]
       rw [if_pos (by simp only [List.length_cons, List.length_nil]; omega)]) (cellsL a b) s.2.2.2 (fun _ h => h) (by omega)]
      refine Ok.os fun f ef => Ok.bv fun z5 e5 => ?_
      subst ef
      refine fwd _ _ _ _ e5 (by rw [List.length_append, List.length_map]; omega) (fun q hq => ?_) ?_ (.inl ⟨a, b, ha, hab, hN⟩)
      · rcases List.mem_append.1 hq with hq | hq
        · exact h4 q hq
        · obtain ⟨c, _, rfl⟩ := List.mem_map.1 hq
          exact PG.one (by omega) (by simp)
      · have e : (cellsL a b).map (EV (prG (pN R.p)) ∘ fun c => [(⟨1, [c]⟩ : T)]) = (cellsL a b).map (pN R.p) := List.map_congr_left fun c _ => prG_one _ c
        rw [List.map_append, List.sum_append, h5, hN, List.map_map, e]
    · rw [ha]
      refine Ok.os fun y ey => Ok.bv fun z4 e4 => ?_
      subst ey
      refine Ok.it (fun _ => ?_) fun h => by rw [e4] at h; cases h
      refine Ok.ob (ih _ (hx x hxm) k hk') fun q eq hq => Ok.bv fun z5 e5 => Ok.it (fun _ => Ok.sm PolyP.none) fun h => ?_
      have hq2 : q.2 = true := by rw [e5] at h; simpa using h
      obtain ⟨q1, q2⟩ := hq hq2
      have hN : Nfk k R.p x = EV (prG (pN R.p)) q.1 := by unfold Nfk; rw [ha, eq]
      refine Ok.ck (by simp only [List.length_cons, List.length_nil]; omega) (Ok.bv fun w ew => Ok.bv fun z6 e6 => ?_)
      refine fwd _ _ _ _ e6 (by rw [ew]; simp; omega) (by rw [ew]; exact all_snoc h4 q1) ?_ (.inr ⟨⟨a, b, ha⟩, by rw [hN]; exact q2⟩)
      rw [ew, List.map_append, List.sum_append, h5, hN]
      simp
   ·
    rw [e2, ey, decide_eq_true_eq] at c
    have hop := hn2 c
    subst hop
    have hl2 : l.length = 2 := by
     have h1 := List.all_eq_true.1 fit29 l.length (List.mem_range.2 (by omega))
     rw [hf] at h1
     simpa using h1
    obtain ⟨x, y, rfl⟩ := two_of hl2
    refine Ok.ck (by simp) (Ok.bv fun x' ex => ?_)
    have ex : x' = x := ex
    subst ex
    have hAx : ∃ a b t, eval_Area R.p x' = some (a, b, t) ∧ (t = true → Bx a b) := by
     rcases area_of (hx x' (by simp)) R.p with ⟨a, b, ha, hab⟩ | ⟨a, b, ha⟩
     · exact ⟨a, b, true, ha, fun _ => hab⟩
     · exact ⟨a, b, false, ha, fun h => by cases h⟩
    have hAy : ∃ a b t, eval_Area R.p y = some (a, b, t) ∧ (t = true → Bx a b) := by
     rcases area_of (hx y (by simp)) R.p with ⟨a, b, ha, hab⟩ | ⟨a, b, ha⟩
     · exact ⟨a, b, true, ha, fun _ => hab⟩
     · exact ⟨a, b, false, ha, fun h => by cases h⟩
    obtain ⟨a, b, t, hax, hab⟩ := hAx
    obtain ⟨c1, c2, t', hay, hcc⟩ := hAy
    rw [hax]
    refine Ok.os fun u eu => Ok.ck (by simp) (Ok.bv fun y' ey' => ?_)
    have ey' : y' = y := ey'
    subst ey' eu
    rw [hay]
    refine Ok.os fun u eu => ?_
    subst eu
    refine Ok.bv fun z3 e3 => Ok.bv fun z4 e4 => Ok.bv fun z5 e5 => Ok.bv fun z6 e6 => Ok.bv fun z7 e7 => Ok.bv fun z8 e8 => Ok.bv fun z9 e9 => Ok.bv fun z10 e10 => Ok.bv fun z11 e11 => Ok.bv fun z12 e12 => Ok.bv fun z13 e13 => Ok.it (fun _ => Ok.sm PolyP.none) fun h => ?_
    rw [e13, e12, e9, e8, e5, e4, e3] at h
    simp only [Bool.or_eq_false_iff, Bool.not_eq_false', decide_eq_true_eq] at h
    obtain ⟨⟨⟨ht, ht'⟩, g1⟩, g2⟩ := h
    subst ht ht'
    have hab := hab rfl
    have hcc := hcc rfl
    have := hab.c0; have := hab.c1; have := hab.c2; have := hab.c3; have := hab.r0; have := hab.r1; have := hab.r2; have := hab.r3
    have := hcc.c0; have := hcc.c1; have := hcc.c2; have := hcc.c3; have := hcc.r0; have := hcc.r1; have := hcc.r2; have := hcc.r3
    dsimp only at e6 e7 e10 e11
    have f6 := (wI64 e6).2 (by omega)
    have f7 := (wI64 e7).2 (by omega)
    have f10 := (wI64 e10).2 (by omega)
    have f11 := (wI64 e11).2 (by omega)
    have hres := res_prod (d := d) hp hax hay hab hcc (by omega) (by omega)
    rw [cells_q hab]
    refine Ok.os fun cs ecs => Ok.bv fun B89 e89 => ?_
    subst ecs
    have hcl := cellsL_len hab
    have hcm : ∀ c ∈ cellsL a b, a.c ≤ c.c ∧ c.c ≤ b.c ∧ a.r ≤ c.r ∧ c.r ≤ b.r := by
     intro c hc
     unfold cellsL at hc
     obtain ⟨i, hi, hc⟩ := List.mem_flatMap.1 hc
     unfold rowL at hc
     obtain ⟨j, hj, rfl⟩ := List.mem_map.1 hc
     have := List.mem_range.1 hi
     have := List.mem_range.1 hj
     dsimp only
     omega
    have hq : ∀ z : C, ∃ v, poly_Mul [⟨1, [z]⟩] [⟨1, [⟨c1.s, c1.c + z.c - a.c, c1.r + z.r - a.r⟩]⟩] = some (v, true) ∧ PG v ∧ ∀ g, EV (prG g) v = g z * g ⟨c1.s, c1.c + z.c - a.c, c1.r + z.r - a.r⟩ := fun z => mul_var _ _
    obtain ⟨Q, hQ⟩ := Classical.axiomOfChoice hq
    rw [foldO_list (B := B89) (fun ps => (([] : List T), false, ps)) Q (cellsL a b) 100 (fun ps z hz hlen => by
     have hzb := hcm z hz
     rw [e89]
     simp only [poly_Var, obind, bindv]
     rw [(wI64 (z := IntKind.wrap .i64 (c1.c + z.c)) rfl).2 (by omega), (wI64 (z := IntKind.wrap .i64 (c1.c + z.c - a.c)) rfl).2 (by omega), (wI64 (z := IntKind.wrap .i64 (c1.r + z.r)) rfl).2 (by omega), (wI64 (z := IntKind.wrap .i64 (c1.r + z.r - a.r)) rfl).2 (by omega), (hQ z).1]
     simp only [Bool.not_true, Bool.false_eq_true, if_false, chk]
     rw [if_pos (by simp only [List.length_cons, List.length_nil]; omega)]) (cellsL a b) [] (fun _ h => h) (by simp; omega)]
    refine Ok.os fun f ef => ?_
    subst ef
    rw [eJ6]
    refine Ok.ob (PG.add (ps := (cellsL a b).map Q) (fun q hq => ?_) (by rw [List.length_map]; omega)) fun q _ hq => Ok.sm fun hq2 => ?_
    · obtain ⟨z, _, rfl⟩ := List.mem_map.1 hq
      exact (hQ z).2.1
    · obtain ⟨q1, q2⟩ := hq hq2
      refine ⟨q1, ?_⟩
      rw [q2, EV_flat, List.map_map]
      have e : ((cellsL a b).map (EV (prG (pN R.p)) ∘ Q)).sum = prodS R.p (fun z => ⟨c1.s, c1.c + z.c - a.c, c1.r + z.r - a.r⟩) (cellsL a b) := by
       have e1 : (cellsL a b).map (EV (prG (pN R.p)) ∘ Q) = (cellsL a b).map fun c => pN R.p c * pN R.p ⟨c1.s, c1.c + c.c - a.c, c1.r + c.r - a.r⟩ := List.map_congr_left fun z _ => (hQ z).2.2 (pN R.p)
       rw [e1]
       rfl
      rw [e]
      exact hres
end Go.Sp
end
section
namespace Go.Sp
open Go.Stp Go.ValP
theorem addr_right {c : C} (h : (0 ≤ c.s ∧ c.s ≤ 2) ∧ (0 ≤ c.c ∧ c.c ≤ 25) ∧ 0 ≤ c.r ∧ c.r ≤ 98) : addr_Right c = some true := by
 simp [addr_Right, bindv]
 omega
theorem kids_ok {d : Nat} {n : Nd} (h : Pf (d + 1) n) : tree_kids n = some true ∧ n.l.length ≤ 3 ∧ ∀ x ∈ n.l, Pf d x := by
 cases h with
 | lit _ v hv =>
  refine ⟨?_, by simp, by simp⟩
  simp [tree_kids, bindv, obind, hv.right]
 | cell _ r hr =>
  refine ⟨?_, by simp, by simp⟩
  simp [tree_kids, bindv, obind, addr_right (c := r.c) (by omega)]
 | span _ r x y hr hx hy =>
  refine ⟨?_, by simp, by simp⟩
  simp [tree_kids, bindv, obind, addr_right (c := r.c) (by omega), addr_right (c := ⟨r.c.s, x, y⟩) (by dsimp only; omega)]
 | un _ k x hk hx =>
  refine ⟨?_, by simp, by simpa using hx⟩
  rcases hk with rfl | rfl <;> simp [tree_kids, bindv]
 | bin _ op x y ho hx hy =>
  refine ⟨?_, by simp, by simp [hx, hy]⟩
  simp [tree_kids, bindv]
  omega
 | call _ op l ho hl hf hx =>
  refine ⟨?_, hl, hx⟩
  have := fits_eq ho (show l.length ≤ 9 by omega)
  rw [hf] at this
  simp [tree_kids, bindv, obind, this]
theorem right_ok : ∀ (d : Nat) (n : Nd), Pf d n → ∀ (k : Nat) (e : Int), d ≤ k → (d : Int) ≤ e → e ≤ 200 → tree_right k n e = some true
 | 0, n, h => by cases h
 | d + 1, n, h => by
  intro k e hk he he2
  obtain ⟨k, rfl⟩ : ∃ k', k = k' + 1 := ⟨k - 1, by omega⟩
  obtain ⟨h1, h2, h3⟩ := kids_ok h
  have key : Ok (tree_right_B (tree_right k) n e) fun r => r = true := by
   unfold tree_right_B
   refine Ok.bv fun z1 e1 => ?_
   have hz : z1 = false := by rw [e1, decide_eq_false_iff_not]; omega
   rw [hz, h1]
   refine Ok.os fun y ey => Ok.bv fun z2 e2 => Ok.bv fun z3 e3 => Ok.it (fun h => ?_) fun _ => Ok.bv fun J9 e9 => Ok.bv fun B e11 => ?_
   · rw [e3, e2, ey] at h
     cases h
   refine Ok.lp (fun s => ∃ i : Nat, s = (i : Int) ∧ i ≤ n.l.length) (fun s => n.l.length - s.toNat) ⟨0, rfl, Nat.zero_le _⟩ (by simp; omega) ?_
   rintro s ⟨i, q1, q2⟩ next hn
   rw [e11]
   refine Ok.bv fun z4 e4 => Ok.it (fun c => ?_) fun c => ?_
   · rw [e4, q1, decide_eq_true_eq] at c
     refine Ok.ck (by omega) (Ok.bv fun x ex => Ok.bv fun z5 e5 => ?_)
     rw [(wI64 e5).2 (by omega), right_ok d x (h3 x (by rw [ex, q1]; exact gel_mem (by omega))) k (e - 1) (by omega) (by omega) (by omega)]
     refine Ok.os fun y ey => Ok.bv fun z6 e6 => Ok.it (fun h => ?_) fun _ => Ok.bv fun z7 e7 => ?_
     · rw [e6, ey] at h
       cases h
     · rw [q1] at e7
       have e7' := succ64 e7 (by omega)
       exact hn _ ⟨i + 1, e7', by omega⟩ (by simp only [e7', q1]; omega)
   · rw [e9]
     exact Ok.sm rfl
  obtain ⟨v, k1, rfl⟩ := key
  exact k1
theorem zero_q : okQ zeroPl := ⟨zeroPl_len, fun v hv => by
 unfold zeroPl at hv
 exact .inl (List.eq_of_mem_replicate hv)⟩
theorem set_q {p : List V} (h : okQ p) (i : Nat) {k : Int} (hk : 1 ≤ k ∧ k ≤ 255) : okQ (p.set i ⟨1, k * 1000000, []⟩) := by
 refine ⟨by rw [List.length_set]; exact h.1, fun v hv => ?_⟩
 rcases List.mem_or_eq_of_mem_set hv with hv | rfl
 · exact h.2 v hv
 · exact .inr ⟨k, hk, rfl⟩
theorem fit15 : reckonerlaw15_fit = some true := by kernel_rfl
theorem Eval_q {n : Nd} {self : C} {p : List V} {r : Gt × List (C × Bool)} (h : eval_run_eval KK ⟨p, self⟩ n [] = some r) (hm : r.2.length ≤ 4000000) : ∃ x, eval_Eval n self p = some x ∧ x.v = r.1.v := by
 unfold eval_Eval
 rw [h]
 simp only [obind, bindv, chk]
 by_cases hk : r.1.v.k = 4
 · rw [if_pos (show decide (r.1.v.k = 4) = true by simpa using hk), if_pos (by omega)]
   exact ⟨_, rfl, rfl⟩
 · rw [if_neg (show ¬ decide (r.1.v.k = 4) = true by simpa using hk), if_pos (by omega)]
   exact ⟨_, rfl, rfl⟩
theorem u8_pos : ∀ n : Fin 256, 0 < bits .and .u8 (n.val : Int) 3 → 1 ≤ n.val := by decide +kernel
theorem PolyMeans_tot {x0 x1 : List Int} (hb0 : ∀ b ∈ x0, 0 ≤ b ∧ b ≤ 255) (hb1 : ∀ b ∈ x1, 0 ≤ b ∧ b ≤ 255) : Ok (reckonerlaw15_PolyMeans x0 x1) fun r => r = true := by
 unfold reckonerlaw15_PolyMeans
 rw [fit15]
 refine Ok.os fun y ey => Ok.bv fun z1 e1 => Ok.it (fun h => ?_) fun _ => Ok.bv fun z2 e2 => Ok.bv fun z3 e3 => Ok.bv fun z4 e4 => Ok.it (fun _ => Ok.sm rfl) fun h => ?_
 · rw [e1, ey] at h
   cases h
 rw [e4, e3, e2] at h
 simp only [Bool.or_eq_false_iff, decide_eq_false_iff_not] at h
 refine Ok.ob (formulaQ_ok pf_seeded (N := 60) (by omega) 4 KK x0 (by omega) (by unfold KK; omega) ⟨by omega, hb0⟩) fun fn _ hfn => Ok.bv fun J17 e17 => ?_
 obtain ⟨hPf, _⟩ := hfn
 have hJ : ∀ s, okQ s → Ok (J17 s) fun r => r = true := by
  intro s hs
  rw [e17]
  refine Ok.ob (means (R := ⟨s, ⟨0, 0, 0⟩⟩) hs 5 fn.1 hPf KK (by unfold KK; omega)) fun q _ hq => Ok.bv fun z5 e5 => Ok.it (fun _ => Ok.sm rfl) fun h5 => ?_
  have hq2 : q.2 = true := by rw [e5] at h5; simpa using h5
  obtain ⟨q1, q2⟩ := hq hq2
  obtain ⟨g, m', k1, k2, k3⟩ := q2 KK (by unfold KK; omega) []
  have k3 : m'.length ≤ 354294 := Nat.le_trans k3 (by decide)
  obtain ⟨x, x1', x2⟩ := Eval_q k1 (by dsimp only; omega)
  refine Ok.ob (poly_Num_q (g := pN s) q1.fi.1 q1.vl (fun c => Means1_eq hs c) (fun c => (at_q hs c).bd)) fun r _ hr => ?_
  rw [x1']
  refine Ok.os fun y ey => ?_
  subst ey
  unfold tree_Right
  rw [right_ok 5 fn.1 hPf KK 200 (by unfold KK; omega) (by omega) (by omega)]
  refine Ok.ob (R := fun b => b = true) (Ok.os fun y ey => Ok.sm ey) fun y _ ey => ?_
  subst ey
  refine Ok.bv fun z6 e6 => Ok.bv fun z7 e7 => Ok.bv fun z8 e8 => Ok.bv fun z9 e9 => Ok.bv fun z10 e10 => ?_
  have hA : Ok (if (true && !z10) = true then value_Num r.1 else some default) fun v => z10 = false → v = ⟨1, r.1, []⟩ := Ok.it (fun _ => Ok.sm fun _ => rfl) fun h => Ok.sm fun h' => by rw [h'] at h; cases h
  refine Ok.ob hA fun v1 _ hv1 => Ok.bv fun z11 e11 => Ok.bv fun z12 e12 => ?_
  have hB : Ok (if (true && !z12) = true then value_Fail 5 else some default) fun v => z12 = false → v = ⟨4, 5, []⟩ := Ok.it (fun _ => Ok.sm fun _ => rfl) fun h => Ok.sm fun h' => by rw [h'] at h; cases h
  refine Ok.ob hB fun v2 _ hv2 => Ok.bv fun z13 e13 => Ok.bv fun z14 e14 => Ok.bv fun z15 e15 => Ok.sm ?_
  rw [e15, e14]
  cases h12 : z12 with
  | true => rfl
  | false =>
   rw [hv2 h12] at e13
   rw [h12] at e12
   have h10 : z10 = false := by
    cases h : z10 with
    | true => rw [h] at e12; cases e12
    | false => rfl
   rw [h10] at e12 e10
   rw [hv1 h10] at e11
   have hr2 : r.2 = true := by
    cases h : r.2 with
    | true => rfl
    | false =>
     rw [e6, h] at e10
     cases e10
   obtain ⟨r1, r2⟩ := hr hr2
   rw [x2] at e11 e13 e7
   dsimp only at k2
   rcases k2 with ⟨hv, hN⟩ | ⟨hv, hN⟩ | hv
   · exfalso
     rw [hN] at r1
     rw [e9, e8, e7, hv, r1] at e10
     simp at e10
   · exfalso
     rw [hv, ← r1] at e11
     rw [e11] at e12
     simp at e12
   · rw [e13, hv]
     simp
 clear e17
 refine Ok.bv fun B44 e44 => ?_
 refine Ok.lp (fun s => ∃ i : Nat, s.1 = (i : Int) ∧ i ≤ x1.length ∧ okQ s.2) (fun s => x1.length - s.1.toNat) ⟨0, rfl, Nat.zero_le _, zero_q⟩ (by simp; omega) ?_
 rintro s ⟨i, h1, h2, h3⟩ next hn
 rw [e44]
 refine Ok.bv fun z5 e5 => Ok.it (fun c => ?_) fun _ => hJ _ h3
 rw [e5, h1, decide_eq_true_eq] at c
 refine Ok.ck (by omega) (Ok.bv fun x ex => Ok.bv fun z6 e6 => Ok.bv fun z7 e7 => Ok.bv fun z8 e8 => Ok.bv fun z9 e9 => ?_)
 have hx := gelP hb1 ex (by omega)
 have fwd : ∀ (z : Int) (p : List V), z = IntKind.wrap .i64 (s.1 + 1) → okQ p → Ok (next (z, p)) fun r => r = true := by
  intro z p ez hp
  rw [h1] at ez
  have ez' := succ64 ez (by omega)
  exact hn _ ⟨i + 1, ez', by omega, hp⟩ (by simp only [ez', h1]; omega)
 refine Ok.it (fun c9 => ?_) fun _ => Ok.bv fun z10 e10 => fwd z10 _ e10 h3
 rw [e9, e8, e7, e6, Bool.and_eq_true, decide_eq_true_eq, decide_eq_true_eq] at c9
 refine Ok.bv fun z10 e10 => Ok.bv fun z11 e11 => Ok.bv fun z12 e12 => Ok.bv fun z13 e13 => Ok.ob (R := fun v : V => v = ⟨1, z13, []⟩) (Ok.sm rfl) fun v _ hv => ?_
 have h10 := and1 s.1
 rw [← e10] at h10
 have h11 := (wI64 e11).2 (by rw [h1, Int.tdiv_eq_ediv_of_nonneg (by omega)]; omega)
 rw [h1, Int.tdiv_eq_ediv_of_nonneg (by omega)] at h11
 have h12 := (wI64 e12).2 (by omega)
 have h13 := (wI64 e13).2 (by omega)
 refine Ok.ck (by omega) (Ok.ck (by rw [h1] at c9; omega) (Ok.bv fun p' ep => Ok.bv fun z14 e14 => fwd z14 _ e14 ?_))
 rw [ep, hv, h13, h12]
 refine set_q h3 _ ⟨?_, hx.2⟩
 have := u8_pos ⟨x.toNat, by omega⟩
 simp only at this
 rw [show ((x.toNat : Nat) : Int) = x by omega] at this
 have := this c9.2
 omega
theorem PolyMeans_true {x0 x1 : List Int} (hb0 : ∀ b ∈ x0, 0 ≤ b ∧ b ≤ 255) (hb1 : ∀ b ∈ x1, 0 ≤ b ∧ b ≤ 255) : reckonerlaw15_PolyMeans x0 x1 = some true := by
 obtain ⟨v, h, rfl⟩ := PolyMeans_tot hb0 hb1
 exact h
end Go.Sp
end
