/- Sorting by insertion: what it leaves is sorted, and a permutation (C). -/
import Derived.Test.YtlpfcclecmalhaaDoorSpC
import Derived.Test.YtlpfcclecmalhaaDoorPlOk
set_option linter.unusedSimpArgs false
set_option linter.unusedVariables false
set_option linter.unusedSectionVars false
namespace Go.Sp
open Go.Stp Go.ValP
namespace InsC
/-- An order that is whole, told by a number. -/
structure Cmp (cf : C → C → Int) : Prop where
  anti : ∀ x y, cf x y < 0 ↔ 0 < cf y x
  trans : ∀ x y z, cf x y ≤ 0 → cf y z ≤ 0 → cf x z ≤ 0
theorem gel_mid {P R : List C} {x : C} {i : Int} (hi : i = P.length) : gel (P ++ x :: R) i = x := by
  subst hi
  unfold gel
  rw [List.getD_eq_getElem?_getD]
  simp
theorem swap_mid {A B : List C} {y x : C} {j : Int} (hj : j = A.length + 1) :
    ((A ++ y :: x :: B).set (Int.toNat j) (gel (A ++ y :: x :: B) (j - 1))).set (Int.toNat (j - 1)) (gel (A ++ y :: x :: B) j) = A ++ x :: y :: B := by
  have h1 : gel (A ++ y :: x :: B) (j - 1) = y := gel_mid (by omega)
  have h2 : gel (A ++ y :: x :: B) j = x := by
    have := gel_mid (P := A ++ [y]) (R := B) (x := x) (i := j) (by simp; omega)
    simpa using this
  rw [h1, h2]
  have e1 : Int.toNat j = A.length + 1 := by omega
  have e2 : Int.toNat (j - 1) = A.length := by omega
  rw [e1, e2]
  rw [List.set_append_right _ _ (by omega), List.set_append_right _ _ (by omega)]
  simp
theorem ins_ok {cmp : C → C → Option Int} {cf : C → C → Int} (K : Cmp cf) (P M R : List C) (hc : ∀ x ∈ M, ∀ y ∈ M, cmp x y = some (cf x y)) (hlen : P.length + M.length + R.length ≤ 1000) {a b : Int} (ha : a = P.length) (hb : b = P.length + M.length) :
    Ok (slices_insertionSortCmpFunc_Cell (P ++ M ++ R) a b cmp) (fun r => ∃ M', r = P ++ M' ++ R ∧ M'.Perm M ∧ M'.Pairwise (fun x y => cf x y ≤ 0)) := by
  unfold slices_insertionSortCmpFunc_Cell
  refine Ok.bv fun z1 e1 => ?_
  have e1' : z1 = a + 1 := (wI64 e1).2 (by omega)
  refine Ok.bv fun B hB => ?_
  subst hB
  refine Ok.lp (fun s : Int × List C => (M = [] ∧ s.2 = P ++ M ++ R ∧ b ≤ s.1) ∨ ∃ S U, s.2 = P ++ S ++ U ++ R ∧ s.1 = P.length + S.length ∧ (S ++ U).Perm M ∧ S.Pairwise (fun x y => cf x y ≤ 0)) (fun s => (b - s.1).toNat) ?_ (by simp only; omega) ?_
  · cases M with
    | nil => exact .inl ⟨rfl, rfl, by simp at hb; simp only; omega⟩
    | cons m M => exact .inr ⟨[m], M, by simp, by simp; omega, by simp, List.pairwise_singleton _ _⟩
  intro s hs next ih
  refine Ok.bv fun z2 e2 => ?_
  refine Ok.it (fun ht => ?_) fun hf => ?_
  · -- a round
    rw [e2, decide_eq_true_eq] at ht
    obtain ⟨S, U, h1, h2, h3, h4⟩ : ∃ S U, s.2 = P ++ S ++ U ++ R ∧ s.1 = P.length + S.length ∧ (S ++ U).Perm M ∧ S.Pairwise (fun x y => cf x y ≤ 0) := by
      rcases hs with ⟨_, _, h⟩ | h
      · omega
      · exact h
    have hl := h3.length_eq
    rw [List.length_append] at hl
    obtain ⟨x, U, rfl⟩ : ∃ x U', U = x :: U' := by
      cases U with
      | nil => simp at hl; omega
      | cons x U => exact ⟨x, U, rfl⟩
    have hmem : ∀ z ∈ S ++ x :: U, z ∈ M := fun z hz => h3.mem_iff.1 hz
    refine Ok.bv fun J hJ => ?_
    have hJ' : ∀ S', S'.Perm (S ++ [x]) → S'.Pairwise (fun x y => cf x y ≤ 0) → Ok (J (P ++ S' ++ U ++ R)) (fun r => ∃ M', r = P ++ M' ++ R ∧ M'.Perm M ∧ M'.Pairwise (fun x y => cf x y ≤ 0)) := by
      intro S' p1 p2
      rw [hJ]
      have hl2 := p1.length_eq
      simp only [List.length_append, List.length_cons, List.length_nil] at hl2 hl
      refine Ok.bv fun z4 e4 => ?_
      have e4' : z4 = s.1 + 1 := (wI64 e4).2 (by omega)
      refine ih _ (.inr ⟨S', U, rfl, by simp only; omega, ?_, p2⟩) (by simp only; omega)
      refine (p1.append_right U).trans ?_
      rw [List.append_assoc]
      exact h3
    clear hJ
    refine Ok.bv fun B hB => ?_
    subst hB
    refine Ok.lp (fun t : Int × List C => ∃ S1 S2, t.2 = P ++ S1 ++ x :: S2 ++ U ++ R ∧ t.1 = P.length + S1.length ∧ S1 ++ S2 = S ∧ ∀ y ∈ S2, cf x y < 0) (fun t => (t.1 - a).toNat) ⟨S, [], by simp only [h1]; simp, by simp only; omega, by simp, by simp⟩ (by simp only; simp only [List.length_cons] at hl; omega) ?_
    rintro t ⟨S1, S2, t1, t2, t3, t4⟩ next2 ih2
    have hS : S1.length + S2.length = S.length := by rw [← t3, List.length_append]
    simp only [List.length_cons] at hl
    have hlt : t.2.length = P.length + M.length + R.length := by
      rw [t1]
      simp only [List.length_append, List.length_cons]
      omega
    refine Ok.bv fun z5 e5 => ?_
    refine Ok.ckf (fun hz => by rw [e5, decide_eq_true_eq] at hz; omega) fun c1 => ?_
    refine Ok.bv fun z6 e6 => ?_
    refine Ok.bv fun z7 e7 => ?_
    have e7' : z7 = t.1 - 1 := (wI64 e7).2 (by omega)
    refine Ok.ckf (fun hz => by rw [e5, decide_eq_true_eq] at hz; omega) fun c2 => ?_
    refine Ok.bv fun z8 e8 => ?_
    have g6 : z6 = x := by
      rw [e6, t1]
      have := gel_mid (P := P ++ S1) (R := S2 ++ U ++ R) (x := x) (i := t.1) (by simp; omega)
      simpa using this
    -- the fin
    have fin : (S1 = [] ∨ ∃ S0 y, S1 = S0 ++ [y] ∧ 0 ≤ cf x y) → Ok (J t.2) (fun r => ∃ M', r = P ++ M' ++ R ∧ M'.Perm M ∧ M'.Pairwise (fun x y => cf x y ≤ 0)) := by
      intro hcase
      have e : t.2 = P ++ (S1 ++ x :: S2) ++ U ++ R := by rw [t1]; simp
      rw [e]
      refine hJ' _ ?_ ?_
      · rw [← t3]
        refine List.perm_middle.trans ?_
        rw [List.append_assoc]
        exact (List.perm_append_comm (l₁ := [x]) (l₂ := S1 ++ S2)).trans (by rw [List.append_assoc])
      · rw [← t3] at h4
        obtain ⟨q1, q2, q3⟩ := List.pairwise_append.1 h4
        refine List.pairwise_append.2 ⟨q1, List.pairwise_cons.2 ⟨fun y hy => by have := t4 y hy; omega, q2⟩, fun u hu v hv => ?_⟩
        rcases List.mem_cons.1 hv with rfl | hv
        · rcases hcase with rfl | ⟨S0, y, rfl, hy⟩
          · cases hu
          · have hyx : cf y v ≤ 0 := by
              by_cases h : 0 < cf y v
              · have := (K.anti v y).2 h
                omega
              · omega
            rcases List.mem_append.1 hu with hu | hu
            · exact K.trans _ _ _ ((List.pairwise_append.1 q1).2.2 u hu y (by simp)) hyx
            · obtain rfl : u = y := by simpa using hu
              exact hyx
        · exact q3 u hu v hv
    by_cases hj : a < t.1
    · -- more to the left
      obtain ⟨S0, y, rfl⟩ : ∃ S0 y, S1 = S0 ++ [y] := by
        rcases List.eq_nil_or_concat S1 with rfl | ⟨S0, y, h⟩
        · simp at t2; omega
        · exact ⟨S0, y, by simpa using h⟩
      have g8 : z8 = y := by
        rw [e8, t1]
        have := gel_mid (P := P ++ S0) (R := x :: S2 ++ U ++ R) (x := y) (i := z7) (by simp at t2 ⊢; omega)
        simpa using this
      have hz5 : z5 = true := by rw [e5]; simpa using hj
      have hcm : cmp z6 z8 = some (cf x y) := by
        rw [g6, g8]
        exact hc x (hmem x (by simp)) y (hmem y (by rw [← t3]; simp))
      rw [hz5]
      simp only [if_true, hcm]
      refine Ok.os fun y9 e9 => ?_
      refine Ok.bv fun z10 e10 => ?_
      refine Ok.bv fun z11 e11 => ?_
      refine Ok.it (fun hlt2 => ?_) fun hge => ?_
      · have hxy : cf x y < 0 := by
          rw [e11, e10, e9] at hlt2
          simpa using hlt2
        refine Ok.bv fun z12 e12 => ?_
        have e12' : z12 = t.1 - 1 := (wI64 e12).2 (by omega)
        have hlen3 : t.1 < (t.2.length : Int) := by omega
        refine Ok.ck (by omega) ?_
        refine Ok.ck (by omega) ?_
        refine Ok.bv fun z13 e13 => ?_
        refine Ok.bv fun z14 e14 => ?_
        have e14' : z14 = t.1 - 1 := (wI64 e14).2 (by omega)
        refine ih2 _ ⟨S0, y :: S2, ?_, by simp at t2 ⊢; omega, by rw [← t3]; simp, fun u hu => ?_⟩ (by simp only; omega)
        · simp only
          rw [e13, e12', t1]
          have := swap_mid (A := P ++ S0) (B := S2 ++ U ++ R) (y := y) (x := x) (j := t.1) (by simp at t2 ⊢; omega)
          simpa using this
        · rcases List.mem_cons.1 hu with rfl | hu
          · exact hxy
          · exact t4 u hu
      · have hxy : 0 ≤ cf x y := by
          rw [e11, e10, e9] at hge
          simpa using hge
        exact fin (.inr ⟨S0, y, rfl, hxy⟩)
    · have hz5 : z5 = false := by rw [e5]; simpa using hj
      rw [hz5]
      simp only [Bool.false_eq_true, if_false]
      refine Ok.os fun y9 e9 => ?_
      refine Ok.bv fun z10 e10 => ?_
      refine Ok.bv fun z11 e11 => ?_
      rw [e11]
      simp only [Bool.false_and, Bool.false_eq_true, if_false]
      refine fin (.inl ?_)
      cases S1 with
      | nil => rfl
      | cons y S1 => simp at t2; omega
  · -- the end
    rw [e2, decide_eq_false_iff_not] at hf
    refine Ok.sm ?_
    rcases hs with ⟨rfl, h, _⟩ | ⟨S, U, h1, h2, h3, h4⟩
    · exact ⟨[], by simpa using h, .refl _, List.Pairwise.nil⟩
    · have hl := h3.length_eq
      rw [List.length_append] at hl
      have : U = [] := List.eq_nil_of_length_eq_zero (by omega)
      subst this
      exact ⟨S, by simpa using h1, by simpa using h3, h4⟩
end InsC
end Go.Sp
