/- Polynomials: their texts. -/
import Derived.Test.YtlpfcclecmalhaaDoorPlMake
set_option linter.unusedSimpArgs false
set_option linter.unusedVariables false
set_option linter.unusedSectionVars false
namespace Go.Sp
open Go.Stp Go.ValP
/-- Pieces with a sign between. -/
def joinS (sep : UInt8) : List (List UInt8) → List UInt8
  | [] => []
  | [x] => x
  | x :: y :: l => x ++ sep :: joinS sep (y :: l)
theorem joinS_snoc {sep : UInt8} {x : List UInt8} : ∀ {l : List (List UInt8)}, l ≠ [] → joinS sep (l ++ [x]) = joinS sep l ++ sep :: x
  | [], h => absurd rfl h
  | [y], _ => rfl
  | y :: z :: l, _ => by
    have ih := joinS_snoc (sep := sep) (x := x) (l := z :: l) (by simp)
    simp only [List.cons_append, joinS] at ih ⊢
    rw [ih]
    simp
theorem split_at {sep : UInt8} : ∀ {a b r s : List UInt8}, sep ∉ a → sep ∉ b → a ++ sep :: r = b ++ sep :: s → a = b ∧ r = s
  | [], [], r, s, _, _, h => by simpa using h
  | [], y :: b, r, s, _, hb, h => by
    simp only [List.nil_append, List.cons_append, List.cons.injEq] at h
    exact absurd (by rw [h.1]; simp) hb
  | x :: a, [], r, s, ha, _, h => by
    simp only [List.nil_append, List.cons_append, List.cons.injEq] at h
    exact absurd (by rw [← h.1]; simp) ha
  | x :: a, y :: b, r, s, ha, hb, h => by
    simp only [List.cons_append, List.cons.injEq] at h
    obtain ⟨h1, h2⟩ := split_at (fun hm => ha (by simp [hm])) (fun hm => hb (by simp [hm])) h.2
    exact ⟨by rw [h.1, h1], h2⟩
theorem no_split {sep : UInt8} {a b r : List UInt8} (ha : sep ∉ a) (h : a = b ++ sep :: r) : False := ha (by rw [h]; simp)
/-- Pieces without that sign are known by what they are together. -/
theorem joinS_inj {sep : UInt8} : ∀ {l m : List (List UInt8)}, l ≠ [] → m ≠ [] → (∀ x ∈ l, sep ∉ x) → (∀ x ∈ m, sep ∉ x) → joinS sep l = joinS sep m → l = m
  | [], _, h, _, _, _, _ => absurd rfl h
  | _, [], _, h, _, _, _ => absurd rfl h
  | [x], [y], _, _, _, _, h => by simp only [joinS] at h; rw [h]
  | [x], y :: z :: m, _, _, hl, _, h => by
    simp only [joinS] at h
    exact (no_split (hl x (by simp)) h).elim
  | x :: z :: l, [y], _, _, _, hm, h => by
    simp only [joinS] at h
    exact (no_split (hm y (by simp)) h.symm).elim
  | x :: z :: l, y :: u :: m, _, _, hl, hm, h => by
    simp only [joinS] at h
    obtain ⟨h1, h2⟩ := split_at (hl x (by simp)) (hm y (by simp)) h
    rw [h1, joinS_inj (by simp) (by simp) (fun w hw => hl w (by simp [hw])) (fun w hw => hm w (by simp [hw])) h2]
/-! ### digits -/
theorem dig_mem : ∀ (n : Nat), ∀ b ∈ Lib.decDigits n, 48 ≤ b.toNat ∧ b.toNat ≤ 57 := by
  intro n
  induction n using Nat.strongRecOn with
  | _ n ih =>
    intro b hb
    have one : ∀ k, k < 10 → b = UInt8.ofNat (48 + k) → 48 ≤ b.toNat ∧ b.toNat ≤ 57 := by
      intro k hk e
      rw [e]
      have : (UInt8.ofNat (48 + k)).toNat = 48 + k := by simp; omega
      omega
    rw [Lib.decDigits] at hb
    split at hb
    · exact one n (by omega) (by simpa using hb)
    · rcases List.mem_append.1 hb with hb | hb
      · exact ih (n / 10) (by omega) b hb
      · exact one (n % 10) (by omega) (by simpa using hb)
theorem dig_ne (n : Nat) : Lib.decDigits n ≠ [] := by
  rw [Lib.decDigits]
  split
  · simp
  · simp
theorem dig_inj : ∀ (n m : Nat), Lib.decDigits n = Lib.decDigits m → n = m := by
  intro n
  induction n using Nat.strongRecOn with
  | _ n ih =>
    intro m h
    have ofn : ∀ a b : Nat, a < 10 → b < 10 → UInt8.ofNat (48 + a) = UInt8.ofNat (48 + b) → a = b := by
      intro a b ha hb e
      have := congrArg UInt8.toNat e
      simp at this
      omega
    conv at h => lhs; rw [Lib.decDigits]
    conv at h => rhs; rw [Lib.decDigits]
    split at h <;> split at h
    · exact ofn n m (by omega) (by omega) (by simpa using h)
    · have hl := congrArg List.length h
      have := dig_ne (m / 10)
      have : 0 < (Lib.decDigits (m / 10)).length := List.length_pos_iff.2 this
      simp only [List.length_append, List.length_cons, List.length_nil] at hl
      omega
    · have hl := congrArg List.length h
      have := dig_ne (n / 10)
      have : 0 < (Lib.decDigits (n / 10)).length := List.length_pos_iff.2 this
      simp only [List.length_append, List.length_cons, List.length_nil] at hl
      omega
    · obtain ⟨h1, h2⟩ := List.append_inj' h rfl
      have h3 := ih (n / 10) (by omega) (m / 10) h1
      have h4 := ofn (n % 10) (m % 10) (by omega) (by omega) (by simpa using h2)
      omega
theorem dig_len : ∀ (n : Nat), (Lib.decDigits n).length ≤ n + 1 := by
  intro n
  induction n using Nat.strongRecOn with
  | _ n ih =>
    rw [Lib.decDigits]
    split
    · simp
    · have := ih (n / 10) (by omega)
      simp
      omega
/-! ### cells, terms -/
def cellS (c : C) : List UInt8 := [83, 49, 33, UInt8.ofNat (65 + c.c).toNat, 49]
theorem itoa_one : Lib.itoa 1 = [49] := by
  rw [Lib.itoa, if_neg (by omega), Lib.decDigits]
  simp
theorem addr_Print_eq {c : C} (h : c.s = 0 ∧ c.r = 0 ∧ 0 ≤ c.c ∧ c.c ≤ 3) : addr_Print c = some (cellS c) := by
  have : Ok (addr_Print c) (fun r => r = cellS c) := by
    unfold addr_Print addr_PrintRef
    refine Ok.ob (R := fun r => r = cellS c) ?_ fun y _ hy => Ok.sm hy
    refine Ok.bv fun J hJ => ?_
    refine Ok.bv fun z1 e1 => ?_
    have : z1 = true := by rw [e1]; simp; omega
    rw [this, if_pos rfl]
    refine Ok.bv fun z2 e2 => ?_
    have e2' : z2 = 1 := by have := (wI64 e2).2 (by simp only; omega); simp only at this; omega
    subst e2'
    refine Ok.ck (by omega) ?_
    refine Ok.bv fun z3 e3 => ?_
    rw [itoa_one] at e3
    subst e3
    refine Ok.ck (by simp) ?_
    refine Ok.bv fun z4 e4 => ?_
    subst e4
    refine Ok.ck (by simp) ?_
    refine Ok.bv fun z5 e5 => ?_
    subst e5
    rw [hJ]
    refine Ok.bv fun J5 hJ5 => ?_
    simp only [Bool.false_eq_true, if_false]
    rw [hJ5]
    refine Ok.bv fun z6 e6 => ?_
    have e6' : z6 = 65 + c.c := (wI64 e6).2 (by simp only; omega)
    refine Ok.bv fun z7 e7 => ?_
    have e7' : z7 = 65 + c.c := by have := (wI32 e7).2 (by omega); omega
    refine Ok.ck (by omega) ?_
    refine Ok.bv fun z8 e8 => ?_
    subst e8
    refine Ok.ck (by simp) ?_
    refine Ok.bv fun z9 e9 => ?_
    subst e9
    refine Ok.bv fun J13 hJ13 => ?_
    simp only [Bool.false_eq_true, if_false]
    rw [hJ13]
    refine Ok.bv fun za ea => ?_
    have ea' : za = 1 := by have := (wI64 ea).2 (by simp only; omega); simp only at this; omega
    subst ea'
    refine Ok.ck (by omega) ?_
    refine Ok.bv fun zb eb => ?_
    rw [itoa_one] at eb
    subst eb
    refine Ok.ck (by simp) ?_
    refine Ok.bv fun zc ec => Ok.sm ?_
    subst ec
    rw [e7']
    rfl
  obtain ⟨v, h, rfl⟩ := this
  exact h
def isN (t : T) : Bool := !decide (t.n = 1) || decide ((t.v.length : Int) = 0)
def pieces (t : T) : List (List UInt8) := (if isN t = true then [Lib.itoa t.n] else []) ++ t.v.map cellS
def termS (t : T) : List UInt8 := joinS 42 (pieces t)
def polyS (p : List T) : List UInt8 := if p = [] then [48] else joinS 43 (p.map termS)
/-- What may be told. -/
structure Told (t : T) : Prop where
  n : 0 < t.n ∧ t.n ≤ 1000000
  l : t.v.length ≤ 4
  c : ∀ c ∈ t.v, c.s = 0 ∧ c.r = 0 ∧ 0 ≤ c.c ∧ c.c ≤ 3
theorem MkP.told {k : Nat} {p : List T} (h : MkP k p) : ∀ t ∈ p, Told t := fun t ht => ⟨⟨(h.vl t ht).1, (h.vl t ht).2.1⟩, (h.vl t ht).2.2, h.ce t ht⟩
theorem cellS_len (c : C) : (cellS c).length = 5 := rfl
theorem itoa_len {n : Int} (h : 0 < n ∧ n ≤ 1000000) : (Lib.itoa n).length ≤ 1000001 := by
  rw [Lib.itoa, if_neg (by omega)]
  have := dig_len n.toNat
  omega
theorem pieces_ne (t : T) : pieces t ≠ [] := by
  unfold pieces
  split
  · simp
  · rename_i h
    have : isN t = false := by simpa using h
    unfold isN at this
    simp at this
    cases hv : t.v with
    | nil => rw [hv] at this; simp at this
    | cons c l => simp
theorem poly_Print_tot {p : List T} (hl : p.length ≤ 1000) (ht : ∀ t ∈ p, Told t) : Ok (poly_Print p) (fun r => r = polyS p) := by
  unfold poly_Print
  refine Ok.bv fun z1 e1 => Ok.it (fun h1 => ?_) fun h1 => ?_
  · refine Ok.sm ?_
    have : p = [] := by rw [e1] at h1; simp at h1; exact h1
    unfold polyS
    rw [if_pos this]
  have hne : p ≠ [] := by rw [e1] at h1; simpa using h1
  refine Ok.bv fun J hJ => ?_
  refine Ok.bv fun B hB => ?_
  subst hB
  refine Ok.lp (fun s : List UInt8 × Int => 0 ≤ s.2 ∧ s.2 ≤ p.length ∧ s.1 = joinS 43 ((p.take s.2.toNat).map termS) ∧ (s.1.length : Int) ≤ 2000000 * s.2) (fun s => (p.length - s.2).toNat) ⟨by simp, by simp, by simp [joinS], by simp⟩ (by simp only; omega) ?_
  rintro ⟨s, i⟩ ⟨s0, s1, s2, s3⟩ next ih
  simp only at s0 s1 s2 s3 ⊢
  refine Ok.bv fun z2 e2 => Ok.it (fun h2 => ?_) fun h2 => ?_
  · have hlt : i < p.length := by rw [e2] at h2; simpa using h2
    refine Ok.ck ⟨s0, hlt⟩ ?_
    refine Ok.bv fun t et => ?_
    have htt : Told t := by rw [et]; exact ht _ (gel_mem ⟨s0, hlt⟩)
    refine Ok.bv fun J18 hJ18 => ?_
    -- the term, behind what there is
    have h18 : ∀ u : List UInt8, (u.length : Int) ≤ 2000000 * i + 1 → u ++ termS t = joinS 43 ((p.take (i + 1).toNat).map termS) → Ok (J18 u) (fun r => r = polyS p) := by
      intro u hu hue
      rw [hJ18]
      refine Ok.bv fun J20 hJ20 => ?_
      have h20 : ∀ (q : List UInt8) (pre : List (List UInt8)), (q.length : Int) ≤ 2000000 * i + 1000100 → pieces t = pre ++ t.v.map cellS → q = u ++ (joinS 42 pre ++ (if pre ≠ [] ∧ t.v ≠ [] then [42] else [])) → Ok (J20 q) (fun r => r = polyS p) := by
        intro q pre hq hp hqe
        rw [hJ20]
        refine Ok.bv fun B2 hB2 => ?_
        subst hB2
        refine Ok.lp (fun w : List UInt8 × Int => 0 ≤ w.2 ∧ w.2 ≤ t.v.length ∧ (w.1.length : Int) ≤ 2000000 * i + 1000100 + 10 * w.2 ∧
          (if w.2 = 0 then w.1 = q else w.1 = u ++ joinS 42 (pre ++ (t.v.take w.2.toNat).map cellS))) (fun w => (t.v.length - w.2).toNat) ⟨by simp, by simp, by simpa using hq, by simp⟩ (by have := htt.l; simp only; omega) ?_
        rintro ⟨w, j⟩ ⟨w0, w1, w2, w3⟩ next2 ih2
        simp only at w0 w1 w2 w3 ⊢
        have hvl := htt.l
        refine Ok.bv fun z3 e3 => Ok.it (fun h3 => ?_) fun h3 => ?_
        · have hlt2 : j < t.v.length := by rw [e3] at h3; simpa using h3
          refine Ok.ck ⟨w0, hlt2⟩ ?_
          refine Ok.bv fun c ec => ?_
          have hcc := htt.c c (by rw [ec]; exact gel_mem ⟨w0, hlt2⟩)
          refine Ok.bv fun J32 hJ32 => ?_
          have h32 : ∀ x : List UInt8, (x.length : Int) ≤ 2000000 * i + 1000100 + 10 * j + 1 → x ++ cellS c = u ++ joinS 42 (pre ++ (t.v.take (j + 1).toNat).map cellS) → Ok (J32 x) (fun r => r = polyS p) := by
            intro x hx hxe
            rw [hJ32, addr_Print_eq hcc]
            refine Ok.os fun y ey => ?_
            subst ey
            have hcl := cellS_len c
            refine Ok.ck (by omega) ?_
            refine Ok.bv fun z4 e4 => Ok.bv fun z5 e5 => ?_
            have e5' : z5 = j + 1 := (wI64 e5).2 (by omega)
            refine ih2 _ ⟨by simp only; omega, by simp only; omega, by simp only [e4, List.length_append]; omega, ?_⟩ (by simp only; omega)
            simp only
            rw [if_neg (by omega), e4, hxe, e5']
          have htk := take_gel w0 hlt2
          rw [← ec] at htk
          refine Ok.bv fun z4 e4 => Ok.it (fun h4 => ?_) fun h4 => ?_
          · have hj : 0 < j := by rw [e4] at h4; simpa using h4
            rw [if_neg (by omega)] at w3
            refine Ok.ck (by simp; omega) ?_
            refine Ok.bv fun z5 e5 => ?_
            refine h32 _ (by rw [e5]; simp; omega) ?_
            rw [e5, w3, htk, List.map_append, ← List.append_assoc, List.map_cons, List.map_nil, joinS_snoc]
            · simp
            · intro e
              have := congrArg List.length e
              simp only [List.length_append, List.length_map, List.length_take, List.length_nil] at this
              omega
          · have hj : j = 0 := by rw [e4] at h4; simp at h4; omega
            subst hj
            rw [if_pos rfl] at w3
            refine h32 _ (by omega) ?_
            rw [w3, hqe, htk]
            have hvne : t.v ≠ [] := by intro e; rw [e] at hlt2; simp at hlt2
            simp only [Int.toNat_zero, List.take_zero, List.nil_append, List.map_cons, List.map_nil]
            by_cases hpre : pre = []
            · subst hpre
              simp [joinS]
            · rw [joinS_snoc hpre]
              simp [hpre, hvne]
        · have hge : ¬ j < t.v.length := by rw [e3] at h3; simpa using h3
          refine Ok.bv fun z5 e5 => ?_
          have e5' : z5 = i + 1 := (wI64 e5).2 (by omega)
          refine ih _ ⟨by simp only; omega, by simp only; omega, ?_, by simp only; omega⟩ (by simp only; omega)
          simp only [e5', ← hue]
          unfold termS
          rw [hp]
          by_cases hj : j = 0
          · subst hj
            rw [if_pos rfl] at w3
            have hv : t.v = [] := List.eq_nil_of_length_eq_zero (by omega)
            rw [w3, hqe, hv]
            simp
          · rw [if_neg hj, List.take_of_length_le (by omega)] at w3
            exact w3
      clear hJ20
      refine Ok.bv fun z3 e3 => Ok.bv fun z4 e4 => Ok.bv fun z5 e5 => ?_
      have hz : z5 = isN t := by rw [e5, e3, e4]; rfl
      have hil := itoa_len htt.n
      refine Ok.it (fun h5 => ?_) fun h5 => ?_
      · rw [hz] at h5
        have hp : pieces t = [Lib.itoa t.n] ++ t.v.map cellS := by unfold pieces; rw [if_pos h5]
        refine Ok.ck ⟨⟨by have := htt.n; omega, by have := htt.n; omega⟩, trivial⟩ ?_
        refine Ok.bv fun z6 e6 => ?_
        subst e6
        refine Ok.ck (by omega) ?_
        refine Ok.bv fun z7 e7 => Ok.bv fun z8 e8 => Ok.it (fun h8 => ?_) fun h8 => ?_
        · have hv : t.v ≠ [] := by rw [e8] at h8; intro e; rw [e] at h8; simp at h8
          refine Ok.ck (by rw [e7]; simp; omega) ?_
          refine Ok.bv fun z9 e9 => ?_
          refine h20 _ _ (by rw [e9, e7]; simp; omega) hp ?_
          rw [e9, e7]
          simp [joinS, hv]
        · have hv : t.v = [] := by
            rw [e8] at h8
            simp at h8
            exact h8
          refine h20 _ _ (by rw [e7]; simp; omega) hp ?_
          rw [e7]
          simp [joinS, hv]
      · rw [hz] at h5
        have hp : pieces t = [] ++ t.v.map cellS := by unfold pieces; rw [if_neg (by rw [h5]; simp)]
        exact h20 _ _ (by omega) hp (by simp [joinS])
    clear hJ18
    have htk := take_gel s0 hlt
    rw [← et] at htk
    refine Ok.bv fun z3 e3 => Ok.it (fun h3 => ?_) fun h3 => ?_
    · have hi : 0 < i := by rw [e3] at h3; simpa using h3
      refine Ok.ck (by simp; omega) ?_
      refine Ok.bv fun z4 e4 => ?_
      refine h18 _ (by rw [e4]; simp; omega) ?_
      rw [e4, s2, htk, List.map_append, List.map_cons, List.map_nil, joinS_snoc]
      · simp
      · intro e
        have := congrArg List.length e
        simp only [List.length_map, List.length_take, List.length_nil] at this
        omega
    · have hi : i = 0 := by rw [e3] at h3; simp at h3; omega
      subst hi
      refine h18 _ (by omega) ?_
      rw [s2, htk]
      simp [joinS]
  · have hge : ¬ i < p.length := by rw [e2] at h2; simpa using h2
    rw [hJ]
    refine Ok.sm ?_
    rw [List.take_of_length_le (by omega)] at s2
    unfold polyS
    rw [if_neg hne]
    exact s2
theorem poly_Print_eq {p : List T} (hl : p.length ≤ 1000) (ht : ∀ t ∈ p, Told t) : poly_Print p = some (polyS p) := by
  obtain ⟨v, h, rfl⟩ := poly_Print_tot hl ht
  exact h
/-! ### unlike ones have unlike texts -/
theorem cellS_inj {a b : C} (ha : a.s = 0 ∧ a.r = 0 ∧ 0 ≤ a.c ∧ a.c ≤ 3) (hb : b.s = 0 ∧ b.r = 0 ∧ 0 ≤ b.c ∧ b.c ≤ 3) (h : cellS a = cellS b) : a = b := by
  unfold cellS at h
  simp only [List.cons.injEq, and_true, true_and] at h
  have := congrArg UInt8.toNat h
  simp at this
  exact C_ext (by omega) (by omega) (by omega)
theorem cellS_mem {c : C} (h : 0 ≤ c.c ∧ c.c ≤ 3) {b : UInt8} (hb : b ∈ cellS c) : b ≠ 42 ∧ b ≠ 43 := by
  unfold cellS at hb
  simp only [List.mem_cons, List.not_mem_nil, or_false] at hb
  have : b = 83 ∨ b = 49 ∨ b = 33 ∨ b = UInt8.ofNat (65 + c.c).toNat := by
    rcases hb with h | h | h | h | h <;> simp [h]
  rcases this with rfl | rfl | rfl | rfl
  · decide
  · decide
  · decide
  · constructor <;> · intro e; have := congrArg UInt8.toNat e; simp at this; omega
theorem itoa_mem {n : Int} (h : 0 < n) {b : UInt8} (hb : b ∈ Lib.itoa n) : b ≠ 42 ∧ b ≠ 43 := by
  rw [Lib.itoa, if_neg (by omega)] at hb
  have := dig_mem _ b hb
  constructor <;> · intro e; rw [e] at this; exact absurd this (by decide)
theorem pieces_mem {t : T} (ht : Told t) {x : List UInt8} (hx : x ∈ pieces t) : (42 : UInt8) ∉ x ∧ (43 : UInt8) ∉ x := by
  have key : (∃ c ∈ t.v, x = cellS c) ∨ x = Lib.itoa t.n := by
    unfold pieces at hx
    rcases List.mem_append.1 hx with h | h
    · split at h
      · exact .inr (by simpa using h)
      · cases h
    · obtain ⟨c, h1, h2⟩ := List.mem_map.1 h
      exact .inl ⟨c, h1, h2.symm⟩
  rcases key with ⟨c, hc, rfl⟩ | rfl
  · have := ht.c c hc
    exact ⟨fun h => (cellS_mem ⟨this.2.2.1, this.2.2.2⟩ h).1 rfl, fun h => (cellS_mem ⟨this.2.2.1, this.2.2.2⟩ h).2 rfl⟩
  · exact ⟨fun h => (itoa_mem ht.n.1 h).1 rfl, fun h => (itoa_mem ht.n.1 h).2 rfl⟩
theorem map_cellS_inj : ∀ {a b : List C}, (∀ c ∈ a, c.s = 0 ∧ c.r = 0 ∧ 0 ≤ c.c ∧ c.c ≤ 3) → (∀ c ∈ b, c.s = 0 ∧ c.r = 0 ∧ 0 ≤ c.c ∧ c.c ≤ 3) → a.map cellS = b.map cellS → a = b
  | [], [], _, _, _ => rfl
  | [], _ :: _, _, _, h => by simp at h
  | _ :: _, [], _, _, h => by simp at h
  | x :: a, y :: b, ha, hb, h => by
    simp only [List.map_cons, List.cons.injEq] at h
    rw [cellS_inj (ha x (by simp)) (hb y (by simp)) h.1, map_cellS_inj (fun c hc => ha c (by simp [hc])) (fun c hc => hb c (by simp [hc])) h.2]
theorem itoa_head {n : Int} (h : 0 < n) {c : C} : Lib.itoa n ≠ cellS c := by
  intro e
  rw [Lib.itoa, if_neg (by omega)] at e
  have := dig_mem n.toNat 83 (by rw [e]; simp [cellS])
  exact absurd this (by decide)
theorem pieces_inj {t u : T} (ht : Told t) (hu : Told u) (h : pieces t = pieces u) : t = u := by
  have itoa_inj : Lib.itoa t.n = Lib.itoa u.n → t.n = u.n := by
    have h1 := ht.n
    have h2 := hu.n
    rw [Lib.itoa, Lib.itoa, if_neg (by omega), if_neg (by omega)]
    intro e
    have := dig_inj _ _ e
    omega
  have ext : t.n = u.n → t.v = u.v → t = u := by
    intro h1 h2
    cases t; cases u; simp_all
  unfold pieces at h
  cases h1 : isN t <;> cases h2 : isN u
  · simp only [h1, h2, Bool.false_eq_true, if_false, List.nil_append] at h
    refine ext ?_ (map_cellS_inj ht.c hu.c h)
    unfold isN at h1 h2
    simp at h1 h2
    omega
  · simp only [h1, h2, Bool.false_eq_true, if_false, if_true, List.nil_append] at h
    cases hv : t.v with
    | nil => rw [hv] at h; simp at h
    | cons c l =>
      rw [hv] at h
      simp only [List.map_cons, List.cons_append, List.cons.injEq] at h
      exact absurd h.1.symm (itoa_head hu.n.1)
  · simp only [h1, h2, Bool.false_eq_true, if_false, if_true, List.nil_append] at h
    cases hv : u.v with
    | nil => rw [hv] at h; simp at h
    | cons c l =>
      rw [hv] at h
      simp only [List.map_cons, List.cons_append, List.cons.injEq] at h
      exact absurd h.1 (itoa_head ht.n.1)
  · simp only [h1, h2, if_true, List.cons_append, List.nil_append, List.cons.injEq] at h
    exact ext (itoa_inj h.1) (map_cellS_inj ht.c hu.c h.2)
theorem termS_inj {t u : T} (ht : Told t) (hu : Told u) (h : termS t = termS u) : t = u :=
  pieces_inj ht hu (joinS_inj (pieces_ne t) (pieces_ne u) (fun x hx => (pieces_mem ht hx).1) (fun x hx => (pieces_mem hu hx).1) h)
theorem joinS_mem {sep b : UInt8} : ∀ {l : List (List UInt8)}, b ∈ joinS sep l → b = sep ∨ ∃ x ∈ l, b ∈ x
  | [], h => by cases h
  | [x], h => .inr ⟨x, by simp, h⟩
  | x :: y :: l, h => by
    simp only [joinS, List.mem_append, List.mem_cons] at h
    rcases h with h | h | h
    · exact .inr ⟨x, by simp, h⟩
    · exact .inl h
    · rcases joinS_mem h with h | ⟨z, h1, h2⟩
      · exact .inl h
      · exact .inr ⟨z, List.mem_cons_of_mem _ h1, h2⟩
theorem termS_mem {t : T} (ht : Told t) : (43 : UInt8) ∉ termS t := fun h => by
  rcases joinS_mem h with h | ⟨x, h1, h2⟩
  · exact absurd h (by decide)
  · exact (pieces_mem ht h1).2 h2
theorem map_termS_inj : ∀ {a b : List T}, (∀ t ∈ a, Told t) → (∀ t ∈ b, Told t) → a.map termS = b.map termS → a = b
  | [], [], _, _, _ => rfl
  | [], _ :: _, _, _, h => by simp at h
  | _ :: _, [], _, _, h => by simp at h
  | x :: a, y :: b, ha, hb, h => by
    simp only [List.map_cons, List.cons.injEq] at h
    rw [termS_inj (ha x (by simp)) (hb y (by simp)) h.1, map_termS_inj (fun c hc => ha c (by simp [hc])) (fun c hc => hb c (by simp [hc])) h.2]
/-- The text of none is none of another one's. -/
theorem zero_ne {p : List T} (hp : ∀ t ∈ p, Told t) (hne : p ≠ []) : joinS 43 (p.map termS) ≠ [48] := by
  intro e
  have h1 : joinS 43 (p.map termS) = joinS 43 [[48]] := e
  have h2 := joinS_inj (by simpa using hne) (by simp) (fun x hx => by
    obtain ⟨t, h3, rfl⟩ := List.mem_map.1 hx
    exact termS_mem (hp t h3)) (by simp) h1
  match p, hne with
  | t :: l, _ =>
    simp only [List.map_cons, List.cons.injEq] at h2
    have ht := hp t (by simp)
    have h3 : joinS 42 (pieces t) = joinS 42 [[48]] := h2.1
    have h4 := joinS_inj (pieces_ne t) (by simp) (fun x hx => (pieces_mem ht hx).1) (by simp) h3
    unfold pieces at h4
    split at h4
    · simp only [List.cons_append, List.nil_append, List.cons.injEq] at h4
      have h5 := h4.1
      have hn := ht.n
      rw [Lib.itoa, if_neg (by omega)] at h5
      have : Lib.decDigits 0 = [48] := by rw [Lib.decDigits]; simp
      rw [← this] at h5
      have := dig_inj _ _ h5
      omega
    · cases hv : t.v with
      | nil => rw [hv] at h4; simp at h4
      | cons c l =>
        rw [hv] at h4
        simp [cellS] at h4
theorem polyS_inj {a b : List T} (ha : ∀ t ∈ a, Told t) (hb : ∀ t ∈ b, Told t) (h : polyS a = polyS b) : a = b := by
  unfold polyS at h
  by_cases h1 : a = [] <;> by_cases h2 : b = []
  · rw [h1, h2]
  · rw [if_pos h1, if_neg h2] at h
    exact absurd h.symm (zero_ne hb h2)
  · rw [if_neg h1, if_pos h2] at h
    exact absurd h (zero_ne ha h1)
  · rw [if_neg h1, if_neg h2] at h
    exact map_termS_inj ha hb (joinS_inj (by simpa using h1) (by simpa using h2) (fun x hx => by
      obtain ⟨t, h3, rfl⟩ := List.mem_map.1 hx
      exact termS_mem (ha t h3)) (fun x hx => by
      obtain ⟨t, h3, rfl⟩ := List.mem_map.1 hx
      exact termS_mem (hb t h3)) h)
end Go.Sp
