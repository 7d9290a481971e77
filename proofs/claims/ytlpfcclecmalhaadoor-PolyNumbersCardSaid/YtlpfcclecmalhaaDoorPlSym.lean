/- Sorting by merging where things lie: what it leaves is sorted, and a permutation. -/
import Derived.Test.YtlpfcclecmalhaaDoorPlNorm
set_option linter.unusedSimpArgs false
set_option linter.unusedVariables false
set_option linter.unusedSectionVars false
namespace Go.Sp
open Go.Stp Go.ValP
namespace Sym
variable {P Q R : List T}
theorem gel_at {L P R : List T} {x : T} {i : Int} (e : L = P ++ x :: R) (hi : i = P.length) : gel L i = x := by
  subst e
  exact InsT.gel_mid hi
theorem swap_two {L P M R : List T} {x y : T} {i j : Int} (e : L = P ++ x :: (M ++ y :: R)) (hi : i = P.length) (hj : j = P.length + M.length + 1) :
    (L.set (Int.toNat i) (gel L j)).set (Int.toNat j) (gel L i) = P ++ y :: (M ++ x :: R) := by
  have h1 : gel L i = x := gel_at e hi
  have h2 : gel L j = y := gel_at (P := P ++ x :: M) (R := R) (by rw [e]; simp) (by simp; omega)
  rw [h1, h2, e]
  have e1 : Int.toNat i = P.length := by omega
  have e2 : Int.toNat j = P.length + (M.length + 1) := by omega
  rw [e1, e2]
  rw [List.set_append_right _ _ (by omega), List.set_append_right _ _ (by omega)]
  simp
theorem swap_two' {L P M R : List T} {x y : T} {i j : Int} (e : L = P ++ x :: (M ++ y :: R)) (hi : i = P.length) (hj : j = P.length + M.length + 1) :
    (L.set (Int.toNat j) (gel L i)).set (Int.toNat i) (gel L j) = P ++ y :: (M ++ x :: R) := by
  rw [← swap_two e hi hj, List.set_comm]
  omega
/-- Two parts of one length change places. -/
theorem swapRange_ok {cmp : T → T → Option Int} {P U M V R : List T} {a b n : Int} (hl : (P ++ U ++ M ++ V ++ R).length ≤ 1000) (ha : a = P.length) (hb : b = P.length + U.length + M.length) (hu : n = U.length) (hv : V.length = U.length) :
    Ok (slices_swapRangeCmpFunc_Term (P ++ U ++ M ++ V ++ R) a b n cmp) (fun r => r = P ++ V ++ M ++ U ++ R) := by
  unfold slices_swapRangeCmpFunc_Term
  simp only [List.length_append] at hl
  refine Ok.bv fun B hB => ?_
  subst hB
  refine Ok.lp (fun s : Int × List T => 0 ≤ s.1 ∧ s.1 ≤ n ∧ s.2 = P ++ (V.take s.1.toNat ++ U.drop s.1.toNat) ++ M ++ (U.take s.1.toNat ++ V.drop s.1.toNat) ++ R) (fun s => (n - s.1).toNat) ⟨by simp, by simp only; omega, by simp⟩ (by simp only; omega) ?_
  rintro ⟨i, l⟩ ⟨s0, s1, s2⟩ next ih
  simp only at s0 s1 s2 ⊢
  have hll : l.length = P.length + U.length + M.length + V.length + R.length := by
    rw [s2]
    simp only [List.length_append, List.length_take, List.length_drop]
    omega
  refine Ok.bv fun z1 e1 => Ok.it (fun h => ?_) fun h => ?_
  · have hlt : i < n := by rw [e1] at h; simpa using h
    refine Ok.bv fun z2 e2 => Ok.bv fun z3 e3 => ?_
    have e2' : z2 = a + i := (wI64 e2).2 (by omega)
    have e3' : z3 = b + i := (wI64 e3).2 (by omega)
    refine Ok.ck (by omega) (Ok.ck (by omega) (Ok.bv fun l2 el => Ok.bv fun z4 e4 => ?_))
    have e4' : z4 = i + 1 := (wI64 e4).2 (by omega)
    have hu' : i < (U.length : Int) := by omega
    have hv' : i < (V.length : Int) := by omega
    refine ih _ ⟨by simp only; omega, by simp only; omega, ?_⟩ (by simp only; omega)
    simp only [e4', take_gel s0 hu', take_gel s0 hv']
    rw [el, e2', e3']
    rw [drop_gel s0 hu', drop_gel s0 hv'] at s2
    generalize gel U i = x at *
    generalize gel V i = y at *
    have s3 : l = (P ++ V.take i.toNat) ++ x :: ((U.drop (i + 1).toNat ++ M ++ U.take i.toNat) ++ y :: (V.drop (i + 1).toNat ++ R)) := by rw [s2]; simp
    rw [swap_two s3 (by simp; omega) (by simp; omega)]
    simp
  · have hge : ¬ i < n := by rw [e1] at h; simpa using h
    refine Ok.sm ?_
    rw [s2, List.take_of_length_le (by omega), List.take_of_length_le (by omega), List.drop_eq_nil_of_le (by omega), List.drop_eq_nil_of_le (by omega)]
    simp
/-- Two parts that lie side by side change places. -/
theorem rotate_ok {cmp : T → T → Option Int} {P X Y R : List T} {a m b : Int} (hl : (P ++ X ++ Y ++ R).length ≤ 1000) (ha : a = P.length) (hm : m = P.length + X.length) (hb : b = P.length + X.length + Y.length) (hx : X ≠ []) (hy : Y ≠ []) :
    Ok (slices_rotateCmpFunc_Term (P ++ X ++ Y ++ R) a m b cmp) (fun r => r = P ++ Y ++ X ++ R) := by
  have hxl := List.length_pos_iff.2 hx
  have hyl := List.length_pos_iff.2 hy
  unfold slices_rotateCmpFunc_Term
  simp only [List.length_append] at hl
  refine Ok.bv fun z1 e1 => Ok.bv fun z2 e2 => Ok.bv fun J hJ => ?_
  have e1' : z1 = X.length := by have := (wI64 e1).2 (by omega); omega
  have e2' : z2 = Y.length := by have := (wI64 e2).2 (by omega); omega
  refine Ok.bv fun B hB => ?_
  subst hB
  refine Ok.lp (fun s : Int × Int × List T => ∃ P' X' Y' R' : List T, X' ≠ [] ∧ Y' ≠ [] ∧ s.1 = X'.length ∧ s.2.1 = Y'.length ∧ m = P'.length + X'.length ∧ s.2.2 = P' ++ X' ++ Y' ++ R' ∧ P' ++ Y' ++ X' ++ R' = P ++ Y ++ X ++ R ∧ s.2.2.length = P.length + X.length + Y.length + R.length) (fun s => (s.1 + s.2.1).toNat) ⟨P, X, Y, R, hx, hy, e1', e2', hm, rfl, rfl, by simp only [List.length_append]⟩ (by simp only; omega) ?_
  rintro ⟨i, j, l⟩ ⟨P', X', Y', R', q1, q2, q3, q4, q5, q6, q7, q8⟩ next ih
  simp only at q3 q4 q6 q8 ⊢
  have q1' := List.length_pos_iff.2 q1
  have q2' := List.length_pos_iff.2 q2
  have hlen : P'.length + X'.length + Y'.length + R'.length ≤ 1000 := by
    have := congrArg List.length q6
    simp only [List.length_append] at this
    omega
  refine Ok.bv fun z3 e3 => Ok.it (fun h => ?_) fun h => ?_
  · have hne : ¬ i = j := by rw [e3] at h; simpa using h
    refine Ok.bv fun z4 e4 => Ok.it (fun h4 => ?_) fun h4 => ?_
    · have hlt : j < i := by rw [e4] at h4; simpa using h4
      refine Ok.bv fun z5 e5 => ?_
      have e5' : z5 = m - i := (wI64 e5).2 (by omega)
      -- X' = X1 ++ X2, X1 as long as Y'
      have hX : X' = X'.take Y'.length ++ X'.drop Y'.length := (List.take_append_drop _ _).symm
      have hX1 : (X'.take Y'.length).length = Y'.length := by rw [List.length_take]; omega
      have hX2 : (X'.drop Y'.length).length = X'.length - Y'.length := List.length_drop
      generalize X'.take Y'.length = X1 at *
      generalize X'.drop Y'.length = X2 at *
      subst hX
      simp only [List.length_append] at q1' q3 q5 hlen q8 hX2
      have hin : l = P' ++ X1 ++ X2 ++ Y' ++ R' := by rw [q6]; simp
      rw [hin]
      refine Ok.ob (swapRange_ok (by simp only [List.length_append]; omega) (by omega) (by omega) (by omega) (by omega)) fun y _ hy => Ok.bv fun z6 e6 => ?_
      have e6' : z6 = i - j := (wI64 e6).2 (by omega)
      refine ih _ ⟨P' ++ Y', X2, X1, R', ?_, ?_, by simp only; omega, by simp only; omega, by simp only [List.length_append]; omega, by simp only; rw [hy], ?_, ?_⟩ (by simp only; omega)
      · intro e; rw [e] at q3; simp only [List.length_nil] at q3; omega
      · intro e; rw [e] at hX1; simp only [List.length_nil] at hX1; omega
      · rw [← q7]; simp
      · simp only [hy]
        rw [hin] at q8
        simp only [List.length_append] at q8 ⊢
        omega
    · have hlt : i < j := by rw [e4] at h4; simp at h4; omega
      refine Ok.bv fun z5 e5 => Ok.bv fun z6 e6 => Ok.bv fun z7 e7 => ?_
      have e5' : z5 = m - i := (wI64 e5).2 (by omega)
      have e6' : z6 = m + j := (wI64 e6).2 (by omega)
      have e7' : z7 = m + j - i := by have := (wI64 e7).2 (by omega); omega
      have hY : Y' = Y'.take (Y'.length - X'.length) ++ Y'.drop (Y'.length - X'.length) := (List.take_append_drop _ _).symm
      have hY1 : (Y'.take (Y'.length - X'.length)).length = Y'.length - X'.length := by rw [List.length_take]; omega
      have hY2 : (Y'.drop (Y'.length - X'.length)).length = X'.length := by rw [List.length_drop]; omega
      generalize Y'.take (Y'.length - X'.length) = Y1 at *
      generalize Y'.drop (Y'.length - X'.length) = Y2 at *
      subst hY
      simp only [List.length_append] at q2' q4 hlen q8 hY1 hY2
      have hin : l = P' ++ X' ++ Y1 ++ Y2 ++ R' := by rw [q6]; simp
      rw [hin]
      refine Ok.ob (swapRange_ok (by simp only [List.length_append]; omega) (by omega) (by omega) (by omega) (by omega)) fun y _ hy => Ok.bv fun z8 e8 => ?_
      have e8' : z8 = j - i := (wI64 e8).2 (by omega)
      refine ih _ ⟨P', Y2, Y1, X' ++ R', ?_, ?_, by simp only; omega, by simp only; omega, by omega, by simp only; rw [hy]; simp, ?_, ?_⟩ (by simp only; omega)
      · intro e; rw [e] at hY2; simp only [List.length_nil] at hY2; omega
      · intro e; rw [e] at q4; simp only [List.length_nil] at q4; omega
      · rw [← q7]; simp
      · simp only [hy]
        rw [hin] at q8
        simp only [List.length_append] at q8 ⊢
        omega
  · have he : i = j := by rw [e3] at h; simpa using h
    rw [hJ]
    refine Ok.bv fun z5 e5 => ?_
    simp only at e5 ⊢
    have e5' : z5 = m - i := (wI64 e5).2 (by omega)
    have hin : l = P' ++ X' ++ [] ++ Y' ++ R' := by rw [q6]; simp
    rw [hin]
    refine Ok.ob (swapRange_ok (by simp only [List.length_append, List.length_nil]; omega) (by omega) (by simp; omega) (by omega) (by omega)) fun y _ hy => Ok.sm ?_
    rw [hy, ← q7]
    simp
theorem shr1 {z x : Int} (h : 0 ≤ x) (e : z = shrI .u64 x 1) : z = x / 2 := by
  subst e
  unfold shrI
  have : min (1 : Int).toNat (IntKind.u64.bits) = 1 := rfl
  rw [this, Int.fdiv_eq_ediv_of_nonneg _ (by decide)]
  rfl
/-- An element is carried to the left. -/
theorem carryL {P A : List T} {x : T} {R : List T} {i : Int} (hi : i = P.length) (hl : (P ++ A ++ x :: R).length ≤ 1000) {ρ : Type} {K : List T → Option ρ} {Q : ρ → Prop} (hK : Ok (K (P ++ x :: A ++ R)) Q) {k : Int} (hk : k = P.length + A.length) {B : ((Int × List T) → Option ρ) → (Int × List T) → Option ρ}
    (hB : B = fun (n76 : (Int × (List T)) → Option ρ) (s76 : Int × (List T)) =>
      bindv (decide (i < s76.1) : Bool) fun z110_80 =>
      if z110_80 = true then (
       bindv (IntKind.wrap .i64 (s76.1 - 1) : Int) fun z117_83 =>
       chk ((0 : Int) ≤ z117_83 ∧ z117_83 < (s76.2.length : Int)) <|
       chk ((0 : Int) ≤ s76.1 ∧ s76.1 < (s76.2.length : Int)) <|
       bindv ((s76.2.set (Int.toNat s76.1) (gel s76.2 z117_83)).set (Int.toNat z117_83) (gel s76.2 s76.1) : List (T)) fun zrow_87 =>
       bindv (IntKind.wrap .i64 (s76.1 - 1) : Int) fun z112_89 =>
       n76 (z112_89, zrow_87)
      ) else K s76.2) : Ok (loopF B KK (k, P ++ A ++ x :: R)) Q := by
  subst hB
  simp only [List.length_append, List.length_cons] at hl
  refine Ok.lp (fun s : Int × List T => ∃ A1 A2, A = A1 ++ A2 ∧ s.1 = P.length + A1.length ∧ s.2 = P ++ A1 ++ x :: A2 ++ R) (fun s => (s.1 - i).toNat) ⟨A, [], by simp, by simp only; omega, by simp⟩ (by simp only; omega) ?_
  rintro ⟨k, l⟩ ⟨A1, A2, rfl, q1, q2⟩ next ih
  simp only at q1 q2 ⊢
  rw [List.length_append] at hl
  have hll : l.length = P.length + A1.length + A2.length + 1 + R.length := by
    rw [q2]; simp only [List.length_append, List.length_cons]; omega
  refine Ok.bv fun z1 e1 => Ok.it (fun h => ?_) fun h => ?_
  · have hlt : i < k := by rw [e1] at h; simpa using h
    obtain ⟨A0, y, rfl⟩ : ∃ S0 y, A1 = S0 ++ [y] := by
      rcases List.eq_nil_or_concat A1 with rfl | ⟨S0, y, h⟩
      · simp at q1; omega
      · exact ⟨S0, y, by simpa using h⟩
    simp only [List.length_append, List.length_cons, List.length_nil] at *
    refine Ok.bv fun z2 e2 => ?_
    have e2' : z2 = k - 1 := (wI64 e2).2 (by omega)
    refine Ok.ck (by omega) (Ok.ck (by omega) (Ok.bv fun l2 el => Ok.bv fun z3 e3 => ?_))
    have e3' : z3 = k - 1 := (wI64 e3).2 (by omega)
    refine ih _ ⟨A0, y :: A2, by simp, by simp only; omega, ?_⟩ (by simp only; omega)
    simp only
    have q3 : l = (P ++ A0) ++ y :: ([] ++ x :: (A2 ++ R)) := by rw [q2]; simp
    rw [el, swap_two' q3 (by simp; omega) (by simp; omega)]
    simp
  · have hge : ¬ i < k := by rw [e1] at h; simpa using h
    have : A1 = [] := List.eq_nil_of_length_eq_zero (by omega)
    subst this
    rw [q2]
    simpa using hK
/-- An element is carried to the right. -/
theorem carryR {P A : List T} {x : T} {R : List T} {i : Int} (hi : i = P.length + A.length + 1) (hl : (P ++ x :: A ++ R).length ≤ 1000) {ρ : Type} {K : List T → Option ρ} {Q : ρ → Prop} (hK : Ok (K (P ++ A ++ x :: R)) Q) {k : Int} (hk : k = P.length) {B : ((Int × List T) → Option ρ) → (Int × List T) → Option ρ}
    (hB : B = fun (n119 : (Int × (List T)) → Option ρ) (s119 : Int × (List T)) =>
    bindv (IntKind.wrap .i64 (i - 1) : Int) fun z57_123 =>
    bindv (decide (s119.1 < z57_123) : Bool) fun z58_124 =>
    if z58_124 = true then (
     bindv (IntKind.wrap .i64 (s119.1 + 1) : Int) fun z65_127 =>
     chk ((0 : Int) ≤ z65_127 ∧ z65_127 < (s119.2.length : Int)) <|
     chk ((0 : Int) ≤ s119.1 ∧ s119.1 < (s119.2.length : Int)) <|
     bindv ((s119.2.set (Int.toNat s119.1) (gel s119.2 z65_127)).set (Int.toNat z65_127) (gel s119.2 s119.1) : List (T)) fun zrow_131 =>
     bindv (IntKind.wrap .i64 (s119.1 + 1) : Int) fun z60_133 =>
     n119 (z60_133, zrow_131)
    ) else K s119.2) : Ok (loopF B KK (k, P ++ x :: A ++ R)) Q := by
  subst hB
  simp only [List.length_append, List.length_cons] at hl
  refine Ok.lp (fun s : Int × List T => ∃ A1 A2, A = A1 ++ A2 ∧ s.1 = P.length + A1.length ∧ s.2 = P ++ A1 ++ x :: A2 ++ R) (fun s => (i - s.1).toNat) ⟨[], A, by simp, by simp only [List.length_nil]; omega, by simp⟩ (by simp only; omega) ?_
  rintro ⟨k, l⟩ ⟨A1, A2, rfl, q1, q2⟩ next ih
  simp only at q1 q2 ⊢
  rw [List.length_append] at hl hi
  have hll : l.length = P.length + A1.length + A2.length + 1 + R.length := by
    rw [q2]; simp only [List.length_append, List.length_cons]; omega
  refine Ok.bv fun z0 e0 => Ok.bv fun z1 e1 => Ok.it (fun h => ?_) fun h => ?_
  · have e0' : z0 = i - 1 := (wI64 e0).2 (by omega)
    have hlt : k < i - 1 := by rw [e1, e0'] at h; simpa using h
    obtain ⟨y, A2, rfl⟩ : ∃ y A2', A2 = y :: A2' := by
      cases A2 with
      | nil => simp at hi; omega
      | cons y A2 => exact ⟨y, A2, rfl⟩
    simp only [List.length_cons] at *
    refine Ok.bv fun z2 e2 => ?_
    have e2' : z2 = k + 1 := (wI64 e2).2 (by omega)
    refine Ok.ck (by omega) (Ok.ck (by omega) (Ok.bv fun l2 el => Ok.bv fun z3 e3 => ?_))
    have e3' : z3 = k + 1 := (wI64 e3).2 (by omega)
    refine ih _ ⟨A1 ++ [y], A2, by simp, by simp; omega, ?_⟩ (by simp only; omega)
    simp only
    have q3 : l = (P ++ A1) ++ x :: ([] ++ y :: (A2 ++ R)) := by rw [q2]; simp
    rw [el, swap_two q3 (by simp; omega) (by simp; omega)]
    simp
  · have e0' : z0 = i - 1 := (wI64 e0).2 (by omega)
    have hge : ¬ k < i - 1 := by rw [e1, e0'] at h; simpa using h
    have : A2 = [] := List.eq_nil_of_length_eq_zero (by omega)
    subst this
    rw [q2]
    simpa using hK
/-- A place is looked for. -/
theorem bsearch {ρ : Type} {K : Int → Option ρ} {Q : ρ → Prop} {lo hi : Int} (f : Int → Bool) {S : Int → (Int × Int → Option ρ) → Int × Int → Option ρ} (h0 : 0 ≤ lo ∧ lo ≤ hi ∧ hi ≤ 100000) {B : (Int × Int → Option ρ) → Int × Int → Option ρ}
    (hB : B = fun (n90 : (Int × Int) → Option ρ) (s90 : Int × Int) =>
    bindv (decide (s90.1 < s90.2) : Bool) fun z85_93 =>
    if z85_93 = true then (
     bindv (IntKind.wrap .i64 (s90.1 + s90.2) : Int) fun z88_96 =>
     bindv (IntKind.wrap .u64 z88_96 : Int) fun z89_97 =>
     chk ((0 : Int) ≤ 1) <|
     bindv (shrI .u64 z89_97 1 : Int) fun z90_99 =>
     bindv (IntKind.wrap .i64 z90_99 : Int) fun z91_100 =>
     S z91_100 n90 s90
    ) else K s90.1)
    (st : ∀ c, lo ≤ c → c < hi → ∀ (n : Int × Int → Option ρ) (s : Int × Int), (f c = true → Ok (n (c + 1, s.2)) Q → Ok (S c n s) Q) ∧ (f c = false → Ok (n (s.1, c)) Q → Ok (S c n s) Q))
    (hK : ∀ r, lo ≤ r → r ≤ hi → (r = lo ∨ f (r - 1) = true) → (r = hi ∨ f r = false) → Ok (K r) Q) : Ok (loopF B KK (lo, hi)) Q := by
  subst hB
  refine Ok.lp (fun s : Int × Int => lo ≤ s.1 ∧ s.1 ≤ s.2 ∧ s.2 ≤ hi ∧ (s.1 = lo ∨ f (s.1 - 1) = true) ∧ (s.2 = hi ∨ f s.2 = false)) (fun s => (s.2 - s.1).toNat) ⟨by simp, by simp only; omega, by simp, .inl rfl, .inl rfl⟩ (by simp only; omega) ?_
  rintro ⟨i, j⟩ ⟨s0, s1, s2, s3, s4⟩ next ih
  simp only at s0 s1 s2 s3 s4 ⊢
  refine Ok.bv fun z1 e1 => Ok.it (fun h => ?_) fun h => ?_
  · have hlt : i < j := by rw [e1] at h; simpa using h
    refine Ok.bv fun z2 e2 => Ok.bv fun z3 e3 => Ok.ck (by omega) (Ok.bv fun z4 e4 => Ok.bv fun c ec => ?_)
    have e2' : z2 = i + j := (wI64 e2).2 (by omega)
    have e3' : z3 = i + j := by have := (wU64 e3).2 (by omega); omega
    have e4' := shr1 (by omega) e4
    have ec' : c = (i + j) / 2 := by have := (wI64 ec).2 (by omega); omega
    have hst := st c (by omega) (by omega) next (i, j)
    cases hf : f c with
    | true => exact hst.1 hf (ih _ ⟨by simp only; omega, by simp only; omega, s2, .inr (by simp only; rw [show c + 1 - 1 = c by omega]; exact hf), s4⟩ (by simp only; omega))
    | false => exact hst.2 hf (ih _ ⟨s0, by simp only; omega, by simp only; omega, s3, .inr hf⟩ (by simp only; omega))
  · have hge : ¬ i < j := by rw [e1] at h; simpa using h
    obtain rfl : i = j := by omega
    exact hK i s0 s2 s3 s4
/-! ### sorted lists -/
section
variable {cf : T → T → Int} (C : InsT.Cmp cf)
include C
theorem self (x : T) : cf x x = 0 := by have := C.anti x x; omega
theorem le_of {x y : T} (h : ¬ cf y x < 0) : cf x y ≤ 0 := by have := C.anti y x; omega
end
def Srt (cf : T → T → Int) (l : List T) : Prop := l.Pairwise (fun x y => cf x y ≤ 0)
theorem srt_left {cf : T → T → Int} (C : InsT.Cmp cf) {l : List T} (h : Srt cf l) {k : Int} (h0 : 0 < k) (h1 : k ≤ l.length) : ∀ y ∈ l.take k.toNat, cf y (gel l (k - 1)) ≤ 0 := by
  intro y hy
  have e := take_gel (l := l) (i := k - 1) (by omega) (by omega)
  rw [show k - 1 + 1 = k by omega] at e
  have hs : Srt cf (l.take k.toNat) := List.Pairwise.sublist (List.take_sublist _ _) h
  rw [e] at hy hs
  rcases List.mem_append.1 hy with hy | hy
  · exact (List.pairwise_append.1 hs).2.2 y hy _ (by simp)
  · rw [List.mem_singleton.1 hy, self C]
    omega
theorem srt_right {cf : T → T → Int} (C : InsT.Cmp cf) {l : List T} (h : Srt cf l) {k : Int} (h0 : 0 ≤ k) (h1 : k < l.length) : ∀ y ∈ l.drop k.toNat, cf (gel l k) y ≤ 0 := by
  intro y hy
  have hs : Srt cf (l.drop k.toNat) := List.Pairwise.sublist (List.drop_sublist _ _) h
  rw [drop_gel h0 h1] at hy hs
  rcases List.mem_cons.1 hy with rfl | hy
  · rw [self C]
    omega
  · exact (List.pairwise_cons.1 hs).1 y hy
theorem gel_X {P X R : List T} {c : Int} (h0 : (P.length : Int) ≤ c) (h1 : c < P.length + X.length) : gel (P ++ X ++ R) c = gel X (c - P.length) := by
  unfold gel
  rw [List.getD_eq_getElem?_getD, List.getD_eq_getElem?_getD, List.append_assoc, List.getElem?_append_right (by omega), List.getElem?_append_left (by omega)]
  congr 2
  omega
theorem len2 {l : List T} (h : ¬ l.length = 1) (hn : l ≠ []) : 2 ≤ l.length := by
  have := List.length_pos_iff.2 hn
  omega
/-- Two sorted parts that lie side by side are one. -/
theorem symMerge_ok {cmp : T → T → Option Int} {cf : T → T → Int} (C : InsT.Cmp cf) : ∀ (k : Nat) (P X Y R : List T) (a m b : Int), X ≠ [] → Y ≠ [] → Srt cf X → Srt cf Y → (∀ x ∈ X ++ Y, ∀ y ∈ X ++ Y, cmp x y = some (cf x y)) →
    P.length + X.length + Y.length + R.length ≤ 1000 → a = P.length → m = P.length + X.length → b = P.length + X.length + Y.length → X.length + Y.length ≤ k →
    Ok (slices_symMergeCmpFunc_Term k (P ++ X ++ Y ++ R) a m b cmp) (fun r => ∃ M, r = P ++ M ++ R ∧ M.Perm (X ++ Y) ∧ Srt cf M) := by
  intro k
  induction k with
  | zero =>
    intro P X Y R a m b hx _ _ _ _ _ _ _ _ hk
    have := List.length_pos_iff.2 hx
    omega
  | succ k IH =>
  intro P X Y R a m b hx hy sx sy hc hl ha hm hb hk
  have hxl := List.length_pos_iff.2 hx
  have hyl := List.length_pos_iff.2 hy
  have hL : (P ++ X ++ Y ++ R).length = P.length + X.length + Y.length + R.length := by simp only [List.length_append]
  have gX : ∀ c, a ≤ c → c < m → gel (P ++ X ++ Y ++ R) c = gel X (c - a) ∧ gel X (c - a) ∈ X := fun c h1 h2 => by
    refine ⟨?_, gel_mem (by omega)⟩
    rw [List.append_assoc (P ++ X), gel_X (by omega) (by omega), ha]
  have gY : ∀ c, m ≤ c → c < b → gel (P ++ X ++ Y ++ R) c = gel Y (c - m) ∧ gel Y (c - m) ∈ Y := fun c h1 h2 => by
    refine ⟨?_, gel_mem (by omega)⟩
    rw [gel_X (P := P ++ X) (by simp only [List.length_append]; omega) (by simp only [List.length_append]; omega), hm]
    simp only [List.length_append]
    congr 1
    try omega
  unfold slices_symMergeCmpFunc_Term slices_symMergeCmpFunc_Term_B
  refine Ok.bv fun J2 hJ2 => Ok.bv fun z27 e27 => Ok.bv fun z28 e28 => ?_
  have e27' : z27 = X.length := by have := (wI64 e27).2 (by omega); omega
  refine Ok.it (fun h => ?_) fun h => ?_
  · -- one on the left
    have hx1 : X.length = 1 := by rw [e28, e27'] at h; simp at h; omega
    obtain ⟨x, rfl⟩ : ∃ x, X = [x] := List.length_eq_one_iff.1 hx1
    clear hJ2 e28 e27 e27' h
    refine Ok.bv fun J116 hJ => Ok.bv fun B hB => ?_
    have g2 := gX a (by omega) (by omega)
    have g3 : gel [x] (a - a) = x := by rw [Int.sub_self]; rfl
    rw [g3] at g2
    refine bsearch (K := J116) (fun c => decide (cf (gel Y (c - m)) x < 0)) (by omega) hB (fun c c0 c1 n s => ?_) fun r r0 r1 r2 r3 => ?_
    · have g1 := gY c c0 c1
      have hcc := hc _ (List.mem_append_right [x] g1.2) x (by simp)
      constructor
      all_goals
        intro hf hn
        refine Ok.ck (by omega) (Ok.bv fun u eu => Ok.ck (by omega) (Ok.bv fun v ev => ?_))
        rw [eu, ev, g1.1, g2.1, hcc]
        refine Ok.os fun q eq => Ok.bv fun z ez => ?_
        rw [ez, eq]
        rw [hf]
      · rw [if_pos rfl]
        refine Ok.bv fun z' ez' => ?_
        have ez2 := (wI64 ez').2 (by omega)
        rw [ez2]
        exact hn
      · rw [if_neg Bool.false_ne_true]
        exact hn
    · rw [hJ]
      clear hB
      refine Ok.bv fun B2 hB2 => ?_
      have hxl1 : [x].length = 1 := rfl
      have hY : Y = Y.take (r - m).toNat ++ Y.drop (r - m).toNat := (List.take_append_drop _ _).symm
      have hY1 : (Y.take (r - m).toNat).length = (r - m).toNat := by rw [List.length_take]; omega
      have f1 : ∀ u ∈ Y.take (r - m).toNat, cf u x ≤ 0 := by
        intro u hu
        by_cases hr : r = m
        · rw [hr, Int.sub_self] at hu; simp at hu
        · have h1 := r2.resolve_left hr
          rw [decide_eq_true_eq] at h1
          have h2 := srt_left C sy (k := r - m) (by omega) (by omega) u hu
          rw [show r - 1 - m = r - m - 1 by omega] at h1
          exact C.trans _ _ _ h2 (by omega)
      have f2 : ∀ u ∈ Y.drop (r - m).toNat, cf x u ≤ 0 := by
        intro u hu
        by_cases hr : r = b
        · rw [List.drop_eq_nil_of_le (by omega)] at hu; cases hu
        · have h1 := r3.resolve_left hr
          rw [decide_eq_false_iff_not] at h1
          have h2 := srt_right C sy (k := r - m) (by omega) (by omega) u hu
          exact C.trans _ _ _ (le_of C h1) h2
      generalize Y.take (r - m).toNat = Y1 at *
      generalize Y.drop (r - m).toNat = Y2 at *
      subst hY
      simp only [List.length_append] at hl
      have hin : P ++ [x] ++ (Y1 ++ Y2) ++ R = P ++ x :: Y1 ++ (Y2 ++ R) := by simp
      rw [hin]
      refine carryR (K := some) (by omega) (by simp only [List.length_append, List.length_cons]; omega) (Ok.sm ⟨Y1 ++ x :: Y2, by simp, ?_, ?_⟩) (by omega) hB2
      · exact List.perm_middle.trans (by simp)
      · obtain ⟨s1, s2, s3⟩ := List.pairwise_append.1 sy
        refine List.pairwise_append.2 ⟨s1, List.pairwise_cons.2 ⟨f2, s2⟩, fun u hu v hv => ?_⟩
        rcases List.mem_cons.1 hv with rfl | hv
        · exact f1 u hu
        · exact s3 u hu v hv
  have hxn : ¬ X.length = 1 := by rw [e28, e27'] at h; simp at h; omega
  rw [hJ2]
  clear hJ2 e28 e27 e27' h
  refine Ok.bv fun J5 hJ5 => Ok.bv fun z79 e79 => Ok.bv fun z80 e80 => ?_
  have e79' : z79 = Y.length := by have := (wI64 e79).2 (by omega); omega
  refine Ok.it (fun h => ?_) fun h => ?_
  · -- one on the right
    have hy1 : Y.length = 1 := by rw [e80, e79'] at h; simp at h; omega
    obtain ⟨y, rfl⟩ : ∃ y, Y = [y] := List.length_eq_one_iff.1 hy1
    clear hJ5 e80 e79 e79' h
    refine Ok.bv fun J73 hJ => Ok.bv fun B hB => ?_
    have g2 := gY m (by omega) (by omega)
    have g3 : gel [y] (m - m) = y := by rw [Int.sub_self]; rfl
    rw [g3] at g2
    refine bsearch (K := J73) (fun c => !decide (cf y (gel X (c - a)) < 0)) (by omega) hB (fun c c0 c1 n s => ?_) fun r r0 r1 r2 r3 => ?_
    · have g1 := gX c c0 c1
      have hcc := hc y (by simp) _ (List.mem_append_left [y] g1.2)
      constructor
      all_goals
        intro hf hn
        refine Ok.ck (by omega) (Ok.bv fun u eu => Ok.ck (by omega) (Ok.bv fun v ev => ?_))
        rw [eu, ev, g1.1, g2.1, hcc]
        refine Ok.os fun q eq => Ok.bv fun z ez => Ok.bv fun z2 ez2 => ?_
        rw [ez2, ez, eq]
        rw [hf]
      · rw [if_pos rfl]
        refine Ok.bv fun z' ez' => ?_
        have ez2 := (wI64 ez').2 (by omega)
        rw [ez2]
        exact hn
      · rw [if_neg Bool.false_ne_true]
        exact hn
    · rw [hJ]
      clear hB
      refine Ok.bv fun B2 hB2 => ?_
      have hyl1 : [y].length = 1 := rfl
      have hX : X = X.take (r - a).toNat ++ X.drop (r - a).toNat := (List.take_append_drop _ _).symm
      have hX1 : (X.take (r - a).toNat).length = (r - a).toNat := by rw [List.length_take]; omega
      have f1 : ∀ u ∈ X.take (r - a).toNat, cf u y ≤ 0 := by
        intro u hu
        by_cases hr : r = a
        · rw [hr, Int.sub_self] at hu; simp at hu
        · have h1 := r2.resolve_left hr
          simp only [Bool.not_eq_true', decide_eq_false_iff_not] at h1
          have h2 := srt_left C sx (k := r - a) (by omega) (by omega) u hu
          rw [show r - 1 - a = r - a - 1 by omega] at h1
          exact C.trans _ _ _ h2 (le_of C h1)
      have f2 : ∀ u ∈ X.drop (r - a).toNat, cf y u ≤ 0 := by
        intro u hu
        by_cases hr : r = m
        · rw [List.drop_eq_nil_of_le (by omega)] at hu; cases hu
        · have h1 := r3.resolve_left hr
          simp only [Bool.not_eq_false', decide_eq_true_eq] at h1
          have h2 := srt_right C sx (k := r - a) (by omega) (by omega) u hu
          exact C.trans _ _ _ (by omega) h2
      generalize X.take (r - a).toNat = X1 at *
      generalize X.drop (r - a).toNat = X2 at *
      subst hX
      simp only [List.length_append] at hl hm
      have hin : P ++ (X1 ++ X2) ++ [y] ++ R = (P ++ X1) ++ X2 ++ y :: R := by simp
      rw [hin]
      refine carryL (K := some) (by rw [List.length_append]; omega) (by simp only [List.length_append, List.length_cons]; omega) (Ok.sm ⟨X1 ++ y :: X2, by simp, ?_, ?_⟩) (by rw [List.length_append]; omega) hB2
      · exact List.perm_middle.trans (List.perm_append_comm (l₁ := [y]) (l₂ := X1 ++ X2))
      · obtain ⟨s1, s2, s3⟩ := List.pairwise_append.1 sx
        refine List.pairwise_append.2 ⟨s1, List.pairwise_cons.2 ⟨f2, s2⟩, fun u hu v hv => ?_⟩
        rcases List.mem_cons.1 hv with rfl | hv
        · exact f1 u hu
        · exact s3 u hu v hv
  have hyn : ¬ Y.length = 1 := by rw [e80, e79'] at h; simp at h; omega
  rw [hJ5]
  clear hJ5 e80 e79 e79' h
  refine Ok.bv fun z131 e131 => Ok.bv fun z132 e132 => Ok.ck (by omega) (Ok.bv fun z133 e133 => Ok.bv fun mid emid => Ok.bv fun n en => ?_)
  have e131' : z131 = a + b := (wI64 e131).2 (by omega)
  have e132' : z132 = a + b := by have := (wU64 e132).2 (by omega); omega
  have e133' := shr1 (by omega) e133
  have emid' : mid = (a + b) / 2 := by have := (wI64 emid).2 (by omega); omega
  have en' : n = mid + m := (wI64 en).2 (by omega)
  clear e131 e132 e133 emid en
  refine Ok.bv fun J14 hJ14 => ?_
  have h14 : ∀ lo hi, a ≤ lo → lo ≤ hi → hi ≤ m → (∀ c, lo ≤ c → c < hi → m ≤ n - 1 - c ∧ n - 1 - c < b) → ((lo = a ∧ n - a ≤ b) ∨ lo = n - b) → ((hi = m ∧ m ≤ n - m) ∨ hi = n - m) →
      Ok (J14 (lo, hi)) (fun r => ∃ M, r = P ++ M ++ R ∧ M.Perm (X ++ Y) ∧ Srt cf M) := by
    intro lo hi l0 l1 l2 l3 l4 l5
    rw [hJ14]
    clear hJ14
    refine Ok.bv fun p ep => Ok.bv fun J17 hJ17 => Ok.bv fun B hB => ?_
    have ep' : p = n - 1 := (wI64 ep).2 (by omega)
    refine bsearch (K := J17) (fun c => !decide (cf (gel Y (n - 1 - c - m)) (gel X (c - a)) < 0)) (by omega) hB (fun c c0 c1 nx s => ?_) fun r r0 r1 r2 r3 => ?_
    · have hcb := l3 c c0 c1
      have g1 := gX c (by omega) (by omega)
      have g2 := gY (n - 1 - c) hcb.1 hcb.2
      have hcc := hc _ (List.mem_append_right X g2.2) _ (List.mem_append_left Y g1.2)
      constructor
      all_goals
        intro hf hn
        refine Ok.bv fun pc epc => ?_
        have epc' : pc = n - 1 - c := by have := (wI64 epc).2 (by omega); omega
        refine Ok.ck (by omega) (Ok.bv fun u eu => Ok.ck (by omega) (Ok.bv fun v ev => ?_))
        rw [eu, ev, epc', g1.1, g2.1, hcc]
        refine Ok.os fun q eq => Ok.bv fun z ez => Ok.bv fun z2 ez2 => ?_
        rw [ez2, ez, eq]
        rw [hf]
      · rw [if_pos rfl]
        refine Ok.bv fun z' ez' => ?_
        have ez2 := (wI64 ez').2 (by omega)
        rw [ez2]
        exact hn
      · rw [if_neg Bool.false_ne_true]
        exact hn
    -- the halves
    clear hB
    rw [hJ17]
    clear hJ17
    refine Ok.bv fun en2 een => ?_
    have een' : en2 = n - r := (wI64 een).2 (by omega)
    have hen : m ≤ en2 ∧ en2 ≤ b := by
      constructor
      · by_cases hr : r = hi
        · rcases l5 with ⟨h, _⟩ | h <;> omega
        · have := (l3 r (by omega) (by omega)).1
          omega
      · by_cases hr : r = lo
        · rcases l4 with ⟨h, _⟩ | h <;> omega
        · have := (l3 (r - 1) (by omega) (by omega)).2
          omega
    have hX : X = X.take (r - a).toNat ++ X.drop (r - a).toNat := (List.take_append_drop _ _).symm
    have hX1 : (X.take (r - a).toNat).length = (r - a).toNat := by rw [List.length_take]; omega
    have hX2 : (X.drop (r - a).toNat).length = X.length - (r - a).toNat := List.length_drop
    have hY : Y = Y.take (en2 - m).toNat ++ Y.drop (en2 - m).toNat := (List.take_append_drop _ _).symm
    have hY1 : (Y.take (en2 - m).toNat).length = (en2 - m).toNat := by rw [List.length_take]; omega
    have hY2 : (Y.drop (en2 - m).toNat).length = Y.length - (en2 - m).toNat := List.length_drop
    have fA : ∀ u ∈ X.take (r - a).toNat, ∀ v ∈ Y.drop (en2 - m).toNat, cf u v ≤ 0 := by
      intro u hu v hv
      have k1 : 0 < r - a := by
        by_cases h : r = a
        · rw [h, Int.sub_self] at hu; simp at hu
        · omega
      have k2 : en2 < b := by
        by_cases h : en2 = b
        · rw [List.drop_eq_nil_of_le (by omega)] at hv; cases hv
        · omega
      have h1 := r2.resolve_left (by rcases l4 with ⟨h, _⟩ | h <;> omega)
      simp only [Bool.not_eq_true', decide_eq_false_iff_not] at h1
      rw [show n - 1 - (r - 1) - m = en2 - m by omega, show r - 1 - a = r - a - 1 by omega] at h1
      have h2 := srt_left C sx (k := r - a) k1 (by omega) u hu
      have h3 := srt_right C sy (k := en2 - m) (by omega) (by omega) v hv
      exact C.trans _ _ _ h2 (C.trans _ _ _ (le_of C h1) h3)
    have fB : ∀ u ∈ Y.take (en2 - m).toNat, ∀ v ∈ X.drop (r - a).toNat, cf u v ≤ 0 := by
      intro u hu v hv
      have k1 : 0 < en2 - m := by
        by_cases h : en2 = m
        · rw [h, Int.sub_self] at hu; simp at hu
        · omega
      have k2 : r < m := by
        by_cases h : r = m
        · rw [List.drop_eq_nil_of_le (by omega)] at hv; cases hv
        · omega
      have h1 := r3.resolve_left (by rcases l5 with ⟨h, _⟩ | h <;> omega)
      simp only [Bool.not_eq_false', decide_eq_true_eq] at h1
      rw [show n - 1 - r - m = en2 - m - 1 by omega] at h1
      have h2 := srt_left C sy (k := en2 - m) k1 (by omega) u hu
      have h3 := srt_right C sx (k := r - a) (by omega) (by omega) v hv
      exact C.trans _ _ _ h2 (C.trans _ _ _ (by omega) h3)
    clear r2 r3 l3
    have iX1 : ((X.take (r - a).toNat).length : Int) = r - a := by omega
    have iX2 : ((X.drop (r - a).toNat).length : Int) = m - r := by omega
    have iY1 : ((Y.take (en2 - m).toNat).length : Int) = en2 - m := by omega
    have iY2 : ((Y.drop (en2 - m).toNat).length : Int) = b - en2 := by omega
    clear hX1 hX2 hY1 hY2
    generalize X.take (r - a).toNat = X1 at *
    generalize X.drop (r - a).toNat = X2 at *
    generalize Y.take (en2 - m).toNat = Y1 at *
    generalize Y.drop (en2 - m).toNat = Y2 at *
    subst hX hY
    simp only [List.length_append] at hxl hyl hxn hyn hl hm hb hk
    obtain ⟨sx1, sx2, sx3⟩ := List.pairwise_append.1 sx
    obtain ⟨sy1, sy2, sy3⟩ := List.pairwise_append.1 sy
    have hmem : ∀ u ∈ (X1 ++ Y1) ++ (X2 ++ Y2), u ∈ (X1 ++ X2) ++ (Y1 ++ Y2) := fun u hu => by
      simp only [List.mem_append] at hu ⊢
      rcases hu with (h | h) | (h | h) <;> simp [h]
    refine Ok.bv fun J20 hJ20 => ?_
    have h20 : Ok (J20 (P ++ X1 ++ Y1 ++ (X2 ++ Y2 ++ R))) (fun r => ∃ M, r = P ++ M ++ R ∧ M.Perm (X1 ++ X2 ++ (Y1 ++ Y2)) ∧ Srt cf M) := by
      rw [hJ20]
      refine Ok.bv fun J23 hJ23 => ?_
      have h23 : ∀ M1 : List T, M1.Perm (X1 ++ Y1) → Srt cf M1 → Ok (J23 (P ++ M1 ++ (X2 ++ Y2 ++ R))) (fun r => ∃ M, r = P ++ M ++ R ∧ M.Perm (X1 ++ X2 ++ (Y1 ++ Y2)) ∧ Srt cf M) := by
        intro M1 p1 q1
        rw [hJ23]
        have hp1 := p1.length_eq
        rw [List.length_append] at hp1
        have fin : ∀ M2 : List T, M2.Perm (X2 ++ Y2) → Srt cf M2 → ∃ M, P ++ M1 ++ (M2 ++ R) = P ++ M ++ R ∧ M.Perm (X1 ++ X2 ++ (Y1 ++ Y2)) ∧ Srt cf M := by
          intro M2 p2 q2
          refine ⟨M1 ++ M2, by simp, (p1.append p2).trans ?_, List.pairwise_append.2 ⟨q1, q2, fun u hu v hv => ?_⟩⟩
          · rw [List.append_assoc, List.append_assoc]
            refine List.Perm.append_left X1 ?_
            rw [← List.append_assoc, ← List.append_assoc]
            exact List.Perm.append_right Y2 List.perm_append_comm
          · rcases List.mem_append.1 (p1.mem_iff.1 hu) with hu | hu <;> rcases List.mem_append.1 (p2.mem_iff.1 hv) with hv | hv
            · exact sx3 u hu v hv
            · exact fA u hu v hv
            · exact fB u hu v hv
            · exact sy3 u hu v hv
        refine Ok.bv fun z1 e1 => Ok.bv fun z2 e2 => Ok.bv fun z3 e3 => Ok.it (fun h => ?_) fun h => Ok.sm ?_
        · rw [e3, e1, e2] at h
          simp only [Bool.and_eq_true, decide_eq_true_eq] at h
          have hin : P ++ M1 ++ (X2 ++ Y2 ++ R) = (P ++ M1) ++ X2 ++ Y2 ++ R := by simp
          rw [hin]
          refine Ok.ob (IH (P ++ M1) X2 Y2 R mid en2 b ?_ ?_ sx2 sy2 (fun u hu v hv => hc u (hmem u (List.mem_append_right _ hu)) v (hmem v (List.mem_append_right _ hv))) ?_ ?_ ?_ ?_ ?_) fun q _ hq => Ok.sm ?_
          · intro e; rw [e] at iX2; simp only [List.length_nil] at iX2; omega
          · intro e; rw [e] at iY2; simp only [List.length_nil] at iY2; omega
          all_goals try first | omega | (simp only [List.length_append]; omega)
          · obtain ⟨M2, rfl, p2, q2⟩ := hq
            obtain ⟨M, h1, h2, h3⟩ := fin M2 p2 q2
            exact ⟨M, by rw [← h1]; simp, h2, h3⟩
        · have : X2 = [] ∨ Y2 = [] := by
            rw [e3, e1, e2] at h
            simp only [Bool.and_eq_false_iff, decide_eq_false_iff_not] at h
            rcases h with h | h
            · left; exact List.eq_nil_of_length_eq_zero (by omega)
            · right; exact List.eq_nil_of_length_eq_zero (by omega)
          refine fin (X2 ++ Y2) (.refl _) ?_
          rcases this with rfl | rfl
          · rw [List.nil_append]; exact sy2
          · rw [List.append_nil]; exact sx2
      clear hJ23
      refine Ok.bv fun z1 e1 => Ok.bv fun z2 e2 => Ok.bv fun z3 e3 => Ok.it (fun h => ?_) fun h => ?_
      · rw [e3, e1, e2] at h
        simp only [Bool.and_eq_true, decide_eq_true_eq] at h
        refine Ok.ob (IH P X1 Y1 (X2 ++ Y2 ++ R) a r mid ?_ ?_ sx1 sy1 (fun u hu v hv => hc u (hmem u (List.mem_append_left _ hu)) v (hmem v (List.mem_append_left _ hv))) ?_ ?_ ?_ ?_ ?_) fun q _ hq => ?_
        · intro e; rw [e] at iX1; simp only [List.length_nil] at iX1; omega
        · intro e; rw [e] at iY1; simp only [List.length_nil] at iY1; omega
        all_goals try first | omega | (simp only [List.length_append]; omega)
        · obtain ⟨M1, rfl, p1, q1⟩ := hq
          exact h23 M1 p1 q1
      · have : X1 = [] ∨ Y1 = [] := by
          rw [e3, e1, e2] at h
          simp only [Bool.and_eq_false_iff, decide_eq_false_iff_not] at h
          rcases h with h | h
          · left; exact List.eq_nil_of_length_eq_zero (by omega)
          · right; exact List.eq_nil_of_length_eq_zero (by omega)
        have := h23 (X1 ++ Y1) (.refl _) (by
          rcases this with rfl | rfl
          · rw [List.nil_append]; exact sy1
          · rw [List.append_nil]; exact sx1)
        simpa using this
    clear hJ20
    refine Ok.bv fun z1 e1 => Ok.bv fun z2 e2 => Ok.bv fun z3 e3 => Ok.it (fun h => ?_) fun h => ?_
    · rw [e3, e1, e2] at h
      simp only [Bool.and_eq_true, decide_eq_true_eq] at h
      have hin : P ++ (X1 ++ X2) ++ (Y1 ++ Y2) ++ R = (P ++ X1) ++ X2 ++ Y1 ++ (Y2 ++ R) := by simp
      rw [hin]
      refine Ok.ob (rotate_ok (P := P ++ X1) (X := X2) (Y := Y1) (R := Y2 ++ R) ?_ ?_ ?_ ?_ ?_ ?_) fun q _ hq => ?_
      all_goals try first | omega | (simp only [List.length_append]; omega)
      · intro e; rw [e] at iX2; simp only [List.length_nil] at iX2; omega
      · intro e; rw [e] at iY1; simp only [List.length_nil] at iY1; omega
      · rw [hq]
        simpa using h20
    · have : X2 = [] ∨ Y1 = [] := by
        rw [e3, e1, e2] at h
        simp only [Bool.and_eq_false_iff, decide_eq_false_iff_not] at h
        rcases h with h | h
        · left; exact List.eq_nil_of_length_eq_zero (by omega)
        · right; exact List.eq_nil_of_length_eq_zero (by omega)
      rcases this with rfl | rfl
      · simpa using h20
      · simpa using h20
  clear hJ14
  refine Ok.bv fun z1 e1 => Ok.it (fun h => ?_) fun h => ?_
  · have hlt : mid < m := by rw [e1] at h; simpa using h
    refine Ok.bv fun z2 e2 => ?_
    have e2' : z2 = n - b := (wI64 e2).2 (by omega)
    rw [e2']
    exact h14 _ _ (by omega) (by omega) (by omega) (fun c c0 c1 => by omega) (.inr rfl) (.inr (by omega))
  · have hge : ¬ mid < m := by rw [e1] at h; simpa using h
    exact h14 _ _ (by omega) (by omega) (by omega) (fun c c0 c1 => by omega) (.inl ⟨rfl, by omega⟩) (.inl ⟨rfl, by omega⟩)
/-- Blocks, each sorted. -/
theorem stable_ok {cmp : T → T → Option Int} {cf : T → T → Int} (C : InsT.Cmp cf) {l : List T} {n : Int} (hn : n = l.length) (hl : l.length ≤ 1000) (hc : ∀ x ∈ l, ∀ y ∈ l, cmp x y = some (cf x y)) :
    Ok (slices_stableCmpFunc_Term l n cmp) (fun r => r.Perm l ∧ Srt cf r) := by
  unfold slices_stableCmpFunc_Term
  refine Ok.bv fun J2 hJ2 => ?_
  have h2 : ∀ (Bs : List (List T)) (U : List T) (a : Int), (∀ B ∈ Bs, B.length = 20 ∧ Srt cf B) → a = Bs.flatten.length → U.length < 20 → (Bs.flatten ++ U).Perm l → Ok (J2 (a, Bs.flatten ++ U)) (fun r => r.Perm l ∧ Srt cf r) := by
    intro Bs U a hB ha hU hp
    have hpl := hp.length_eq
    rw [List.length_append] at hpl
    rw [hJ2]
    have hin := InsT.ins_ok C Bs.flatten U [] (cmp := cmp) (fun x hx y hy => hc x (hp.mem_iff.1 (List.mem_append_right _ hx)) y (hp.mem_iff.1 (List.mem_append_right _ hy))) (by simp only [List.length_nil]; omega) (a := a) (b := n) ha (by omega)
    simp only [List.append_nil] at hin
    refine Ok.ob hin fun y _ hy => Ok.bv fun B hB' => ?_
    obtain ⟨V, rfl, p1, s1⟩ := hy
    subst hB'
    have hVl := p1.length_eq
    refine Ok.lp (fun s : Int × List T => ∃ (b : Nat) (Bs : List (List T)) (V : List T), s.1 = b ∧ 20 ≤ b ∧ b ≤ 2000 ∧ (∀ B ∈ Bs, B.length = b ∧ Srt cf B) ∧ Srt cf V ∧ V.length < b ∧ s.2 = Bs.flatten ++ V ∧ s.2.Perm l) (fun s => (2000 - s.1).toNat) ⟨20, Bs, V, rfl, by omega, by omega, hB, s1, by omega, rfl, (p1.append_left _).trans hp⟩ (by simp only; omega) ?_
    clear hpl
    rintro ⟨bI, d⟩ ⟨b, B0, V0, hbI, b0, b1, q1, q2, q3, hd, q5⟩ next ih
    simp only at hbI hd q5 ⊢
    subst hbI hd
    have hpl := q5.length_eq
    rw [List.length_append] at hpl
    have hfl : ∀ {k : Nat} {B0 : List (List T)}, (∀ B ∈ B0, B.length = k ∧ Srt cf B) → B0.flatten.length = B0.length * k := by
      intro k B0
      induction B0 with
      | nil => simp
      | cons B B0 ih =>
        intro h
        rw [List.flatten_cons, List.length_append, ih fun D hD => h D (by simp [hD]), (h B (by simp)).1, List.length_cons, Nat.add_mul]
        omega
    refine Ok.bv fun z1 e1 => Ok.it (fun h => ?_) fun h => ?_
    · have hlt : (b : Int) < n := by rw [e1] at h; simpa using h
      refine Ok.bv fun z2 e2 => ?_
      have e2' : z2 = 2 * b := (wI64 e2).2 (by omega)
      refine Ok.bv fun J16 hJ16 => ?_
      have h16 : ∀ (Ds Cs : List (List T)) (a : Int), (∀ B ∈ Ds, B.length = 2 * b ∧ Srt cf B) → (∀ B ∈ Cs, B.length = b ∧ Srt cf B) → a = Ds.flatten.length → n < a + 2 * b → (Ds.flatten ++ (Cs.flatten ++ V0)).Perm l → Ok (J16 (a, Ds.flatten ++ (Cs.flatten ++ V0))) (fun r => r.Perm l ∧ Srt cf r) := by
        intro Ds Cs a k1 k2 k3 k4 k5
        have kl := k5.length_eq
        simp only [List.length_append] at kl
        rw [hJ16]
        refine Ok.bv fun J19 hJ19 => ?_
        have h19 : ∀ W : List T, Srt cf W → W.length < 2 * b → (Ds.flatten ++ W).Perm l → Ok (J19 (Ds.flatten ++ W)) (fun r => r.Perm l ∧ Srt cf r) := by
          intro W w1 w2 w3
          rw [hJ19]
          refine Ok.bv fun z3 e3 => ?_
          have e3' : z3 = ((2 * b : Nat) : Int) := by have := (wI64 e3).2 (by omega); omega
          exact ih _ ⟨2 * b, Ds, W, e3', by omega, by omega, k1, w1, w2, rfl, w3⟩ (by simp only; omega)
        clear hJ19
        refine Ok.bv fun z3 e3 => Ok.bv fun z4 e4 => ?_
        simp only at e3 e4 ⊢
        have e3' : z3 = a + b := (wI64 e3).2 (by omega)
        have kcl := hfl k2
        have hCs : Cs = [] ∨ ∃ B, Cs = [B] := by
          match Cs with
          | [] => exact .inl rfl
          | [B] => exact .inr ⟨B, rfl⟩
          | B :: B' :: Cs =>
            simp only [List.length_cons] at kcl
            have : b * 2 ≤ (Cs.length + 1 + 1) * b := by rw [Nat.add_mul, Nat.add_mul]; omega
            omega
        refine Ok.it (fun h4 => ?_) fun h4 => ?_
        · have hm : a + b < n := by rw [e4, e3'] at h4; simpa using h4
          rcases hCs with rfl | ⟨B, rfl⟩
          · simp only [List.flatten_nil, List.length_nil] at kl; omega
          · have kB := k2 B (by simp)
            simp only [List.flatten_cons, List.flatten_nil, List.append_nil] at kl k5 ⊢
            have hV : V0 ≠ [] := by intro e; rw [e] at kl; simp only [List.length_nil] at kl; omega
            have hB : B ≠ [] := by intro e; rw [e] at kB; simp at kB; omega
            have hmg := symMerge_ok C ((Ds.flatten ++ (B ++ V0)).length + 1) Ds.flatten B V0 [] a z3 n hB hV kB.2 q2 (fun x hx y hy => hc x (k5.mem_iff.1 (List.mem_append_right _ hx)) y (k5.mem_iff.1 (List.mem_append_right _ hy))) (by simp only [List.length_nil]; omega) k3 (by omega) (by omega) (by simp only [List.length_append]; omega)
            simp only [List.append_nil, List.append_assoc] at hmg
            refine Ok.ob hmg fun y _ hy => ?_
            obtain ⟨M, rfl, m1, m2⟩ := hy
            have := m1.length_eq
            rw [List.length_append] at this
            exact h19 M m2 (by omega) ((m1.append_left _).trans k5)
        · have hm : ¬ a + b < n := by rw [e4, e3'] at h4; simpa using h4
          rcases hCs with rfl | ⟨B, rfl⟩
          · simp only [List.flatten_nil, List.nil_append] at k5 ⊢
            exact h19 V0 q2 (by omega) k5
          · have kB := k2 B (by simp)
            simp only [List.flatten_cons, List.flatten_nil, List.append_nil] at kl k5 ⊢
            have hV : V0 = [] := List.eq_nil_of_length_eq_zero (by omega)
            subst hV
            simp only [List.append_nil] at k5 ⊢
            exact h19 B kB.2 (by omega) k5
      clear hJ16
      refine Ok.bv fun B hB' => ?_
      subst hB'
      refine Ok.lp (fun s : Int × Int × List T => ∃ Ds Cs : List (List T), (∀ B ∈ Ds, B.length = 2 * b ∧ Srt cf B) ∧ (∀ B ∈ Cs, B.length = b ∧ Srt cf B) ∧ s.1 = Ds.flatten.length ∧ s.2.1 = s.1 + 2 * b ∧ s.2.2 = Ds.flatten ++ (Cs.flatten ++ V0) ∧ s.2.2.Perm l) (fun s => (5000 - s.1).toNat) ⟨[], B0, by simp, q1, by simp, by simp only; omega, by simp, q5⟩ (by simp only; omega) ?_
      rintro ⟨a, c, d⟩ ⟨Ds, Cs, k1, k2, k3, k4, hd, k5⟩ next2 ih2
      simp only at k3 k4 k5 hd ⊢
      subst hd
      have kl := k5.length_eq
      simp only [List.length_append] at kl
      refine Ok.bv fun z3 e3 => Ok.it (fun h3 => ?_) fun h3 => ?_
      · have hle : c ≤ n := by rw [e3] at h3; simpa using h3
        refine Ok.bv fun z4 e4 => ?_
        have e4' : z4 = a + b := (wI64 e4).2 (by omega)
        have kcl := hfl k2
        obtain ⟨B, B', Cs, rfl⟩ : ∃ B B' Cs', Cs = B :: B' :: Cs' := by
          match Cs with
          | [] => simp only [List.flatten_nil, List.length_nil] at kl; omega
          | [B] => simp only [List.length_cons, List.length_nil] at kcl; omega
          | B :: B' :: Cs => exact ⟨B, B', Cs, rfl⟩
        have kB := k2 B (by simp)
        have kB' := k2 B' (by simp)
        have hB : B ≠ [] := by intro e; rw [e] at kB; simp at kB; omega
        have hB' : B' ≠ [] := by intro e; rw [e] at kB'; simp at kB'; omega
        simp only [List.flatten_cons, List.length_append] at kl k5 ⊢
        have hin : Ds.flatten ++ (B ++ (B' ++ Cs.flatten) ++ V0) = Ds.flatten ++ B ++ B' ++ (Cs.flatten ++ V0) := by simp
        have hmm : ∀ x ∈ B ++ B', x ∈ l := fun x hx => k5.mem_iff.1 (by
          simp only [List.mem_append] at hx ⊢
          rcases hx with h | h <;> simp [h])
        have hmg := symMerge_ok C ((Ds.flatten ++ (B ++ (B' ++ Cs.flatten) ++ V0)).length + 1) Ds.flatten B B' (Cs.flatten ++ V0) a z4 c hB hB' kB.2 kB'.2 (fun x hx y hy => hc x (hmm x hx) y (hmm y hy)) (by simp only [List.length_append]; omega) k3 (by omega) (by omega) (by simp only [List.length_append]; omega)
        rw [← hin] at hmg
        simp only [List.length_append] at hmg ⊢
        refine Ok.ob hmg fun y _ hy => Ok.bv fun z5 e5 => Ok.bv fun z6 e6 => ?_
        obtain ⟨M, rfl, m1, m2⟩ := hy
        have e5' : z5 = 2 * b := (wI64 e5).2 (by omega)
        have e6' : z6 = c + 2 * b := by have := (wI64 e6).2 (by omega); omega
        have hM := m1.length_eq
        rw [List.length_append] at hM
        refine ih2 _ ⟨Ds ++ [M], Cs, fun D hD => ?_, fun D hD => k2 D (by simp [hD]), ?_, by simp only; omega, by simp, ?_⟩ (by simp only; omega)
        · rcases List.mem_append.1 hD with hD | hD
          · exact k1 D hD
          · rw [List.mem_singleton.1 hD]
            exact ⟨by omega, m2⟩
        · simp only [List.flatten_append, List.flatten_cons, List.flatten_nil, List.append_nil, List.length_append]; omega
        · refine List.Perm.trans ?_ k5
          simp only [List.append_assoc]
          refine List.Perm.append_left _ ?_
          rw [← List.append_assoc B]
          exact m1.append_right _
      · have hgt : ¬ c ≤ n := by rw [e3] at h3; simpa using h3
        exact h16 Ds Cs a k1 k2 k3 (by omega) k5
    · have hge : ¬ (b : Int) < n := by rw [e1] at h; simpa using h
      refine Ok.sm ⟨q5, ?_⟩
      match B0 with
      | [] => simpa using q2
      | B :: B0 =>
        have kB := q1 B (by simp)
        simp only [List.flatten_cons, List.length_append] at hpl
        have h1 : B0.flatten = [] := List.eq_nil_of_length_eq_zero (by omega)
        have h2 : V0 = [] := List.eq_nil_of_length_eq_zero (by omega)
        rw [List.flatten_cons, h1, h2]
        simpa using kB.2
  clear hJ2
  refine Ok.bv fun B hB' => ?_
  subst hB'
  refine Ok.lp (fun s : Int × Int × List T => ∃ (Bs : List (List T)) (U : List T), (∀ B ∈ Bs, B.length = 20 ∧ Srt cf B) ∧ s.1 = Bs.flatten.length ∧ s.2.1 = s.1 + 20 ∧ s.2.2 = Bs.flatten ++ U ∧ s.2.2.Perm l) (fun s => (5000 - s.1).toNat) ⟨[], l, by simp, by simp, by simp, by simp, by simp⟩ (by simp only; omega) ?_
  rintro ⟨a, c, d⟩ ⟨Bs, U, k1, k3, k4, hd, k5⟩ next2 ih2
  simp only at k3 k4 k5 hd ⊢
  subst hd
  have kl := k5.length_eq
  simp only [List.length_append] at kl
  refine Ok.bv fun z3 e3 => Ok.it (fun h3 => ?_) fun h3 => ?_
  · have hle : c ≤ n := by rw [e3] at h3; simpa using h3
    have hU : U = U.take 20 ++ U.drop 20 := (List.take_append_drop _ _).symm
    have hU1 : (U.take 20).length = 20 := by rw [List.length_take]; omega
    generalize U.take 20 = U1 at *
    generalize U.drop 20 = U2 at *
    subst hU
    rw [List.length_append] at kl
    have hmm : ∀ x ∈ U1, x ∈ l := fun x hx => k5.mem_iff.1 (by simp [hx])
    have hin := InsT.ins_ok C Bs.flatten U1 U2 (cmp := cmp) (fun x hx y hy => hc x (hmm x hx) y (hmm y hy)) (by omega) (a := a) (b := c) k3 (by omega)
    rw [List.append_assoc] at hin
    refine Ok.ob hin fun y _ hy => Ok.bv fun z4 e4 => ?_
    obtain ⟨V, rfl, p1, s1⟩ := hy
    have e4' : z4 = c + 20 := (wI64 e4).2 (by omega)
    have hVl := p1.length_eq
    refine ih2 _ ⟨Bs ++ [V], U2, fun D hD => ?_, ?_, by simp only; omega, by simp, ?_⟩ (by simp only; omega)
    · rcases List.mem_append.1 hD with hD | hD
      · exact k1 D hD
      · rw [List.mem_singleton.1 hD]
        exact ⟨by omega, s1⟩
    · simp only [List.flatten_append, List.flatten_cons, List.flatten_nil, List.append_nil, List.length_append]; omega
    · refine List.Perm.trans ?_ k5
      simp only [List.append_assoc]
      exact List.Perm.append_left _ (p1.append_right _)
  · have hgt : ¬ c ≤ n := by rw [e3] at h3; simpa using h3
    exact h2 Bs U a k1 k3 (by omega) k5
end Sym
theorem sortT_tot {l : List T} (hl : l.length ≤ 1000) (hv : ∀ t ∈ l, t.v.length ≤ 1000) : SortsT l := by
  unfold SortsT slices_SortStableFunc_Term
  exact Ok.ob (Sym.stable_ok cmpT (cmp := poly_norm_1) rfl hl fun x hx y hy => norm1_eq (hv x hx) (hv y hy)) fun y _ hy => Ok.sm hy
end Go.Sp
