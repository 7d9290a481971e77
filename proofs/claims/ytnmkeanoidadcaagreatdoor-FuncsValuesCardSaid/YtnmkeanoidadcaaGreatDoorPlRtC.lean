/- Functions that have an answer: packages lists, texts. -/
import Derived.Test.YtnmkeanoidadcaaGreatDoorPlRtB
import Derived.Lib.SplitLaws
set_option linter.unusedSimpArgs false
set_option linter.unusedVariables false
set_option linter.unusedSectionVars false
set_option linter.unusedSimpArgs false
set_option linter.unusedVariables false
set_option maxRecDepth 100000
namespace Go.Sp
open Go.Stp Go.ValP
theorem cutS_len (l : List UInt8) (a b : Int) (h : 0 ≤ a ∧ a ≤ b ∧ b ≤ (l.length : Int)) : ((cutS l a b).length : Int) = b - a := by
  rw [cutS_length]
  omega
theorem lens_le : ∀ {l : List (List UInt8)}, (∀ t ∈ l, t.length ≤ 64) → Lib.lens l ≤ 64 * l.length
  | [], _ => by simp [Lib.lens]
  | a :: l, h => by
    have h1 := h a (List.mem_cons_self ..)
    have h2 := lens_le (l := l) fun t ht => h t (List.mem_cons_of_mem _ ht)
    have e : Lib.lens (a :: l) = a.length + Lib.lens l := by simp [Lib.lens]
    rw [e, List.length_cons]
    omega
theorem join_le {l : List (List UInt8)} (h : ∀ t ∈ l, t.length ≤ 64) : (Lib.join l []).length ≤ 64 * l.length := by
  cases l with
  | nil => simp [Lib.join]
  | cons a l =>
    rw [Lib.join_length, List.length_nil, Nat.zero_mul, Nat.zero_add]
    exact lens_le h
theorem rep_le {a b c : List UInt8} (ha : a.length ≤ 64) (hb : 1 ≤ b.length) (hc : c.length ≤ 64) : a.length < 4294967281 ∧ 1 ≤ b.length ∧ a.length + Lib.countB ⟨a.toArray⟩ ⟨b.toArray⟩ * c.length ≤ 140737488355328 := by
  refine ⟨by omega, hb, ?_⟩
  have h := Lib.countB_le ⟨b.toArray⟩ hb a.length ⟨a.toArray⟩ (Nat.le_refl _)
  have h2 : Lib.countB ⟨a.toArray⟩ ⟨b.toArray⟩ ≤ 64 := Nat.le_trans h ha
  have := Nat.mul_le_mul h2 hc
  omega
theorem ofB_ok (l : List UInt8) : (ofB l).length = l.length ∧ bytesOk (ofB l) = true := by
  refine ⟨by simp [ofB], ?_⟩
  unfold bytesOk ofB
  rw [List.all_map, List.all_eq_true]
  intro x _
  have := x.toNat_lt
  simp
  omega
theorem lists_Index_tot {x0 : Int} {x1 : Int} {x2 : Int} {x3 : List (V)} (hl : x3.length ≤ 1000) (hx : ∀ x ∈ x3, Rt x) (h0 : x0 = 1 ∨ x0 = 2) (h1 : -9223372036854775808 ≤ x1 ∧ x1 ≤ 9223372036854775807) (h2 : -9223372036854775808 ≤ x2 ∧ x2 ≤ 9223372036854775807) : Ok (lists_Index x0 x1 x2 x3) (Rt) := by
  rcases h0 with rfl | rfl
  all_goals
    unfold lists_Index
    refine Ok.bv fun z10_3 ez10_3 => ?_
    refine Ok.bv fun z13_4 ez13_4 => ?_
    refine Ok.bv fun z14_5 ez14_5 => ?_
    refine Ok.bv fun z17_6 ez17_6 => ?_
    refine Ok.bv fun z18_7 ez18_7 => ?_
    refine Ok.bv fun z22_8 ez22_8 => ?_
    refine Ok.bv fun z23_9 ez23_9 => ?_
    refine Ok.ckf (by first | (simp only [ez23_9, ez22_8, ez18_7, ez17_6, ez14_5, ez13_4, ez10_3, decide_eq_true_eq, decide_eq_false_iff_not, Bool.or_eq_true, Bool.and_eq_true, Bool.or_eq_false_iff, Bool.and_eq_false_iff, Bool.not_eq_true', Bool.not_eq_false', Bool.not_eq_eq_eq_not, Bool.not_true, Bool.not_false, ne_eq, decide_not]; omega) | (simp [ez23_9, ez22_8, ez18_7, ez17_6, ez14_5, ez13_4, ez10_3]; omega) | (simp [ez23_9, ez22_8, ez18_7, ez17_6, ez14_5, ez13_4, ez10_3]; done) | first | omega | decide | (simp; omega) | (simp; done)) fun k1 => ?_
    refine Ok.bv fun z29_11 ez29_11 => ?_
    rw [Int.tdiv_eq_ediv_of_nonneg (by omega)] at ez29_11
    try have qz29_11 := tdiv_nat (x3.length : Int) x0
    have rz29_11 := (wI64 ez29_11).1
    try replace ez29_11 := (wI64 ez29_11).2 (by omega)
    refine Ok.bv fun z30_12 ez30_12 => ?_
    refine Ok.bv fun z31_13 ez31_13 => ?_
    refine Ok.it (fun c => ?_) (fun c => ?_)
    · skip
      try simp only [ez31_13, ez30_12, ez23_9, ez22_8, ez18_7, ez17_6, ez14_5, ez13_4, ez10_3, decide_eq_true_eq, decide_eq_false_iff_not, Bool.or_eq_true, Bool.and_eq_true, Bool.or_eq_false_iff, Bool.and_eq_false_iff, Bool.not_eq_true', Bool.not_eq_false', Bool.not_eq_eq_eq_not, Bool.not_true, Bool.not_false, ne_eq, decide_not] at c
      refine Ok.ob (value_Fail_tot (by first | trivial | assumption | omega | (simp only; omega) | (simp only; assumption) | (simp; omega) | (simp; done))) fun y32_15 ey32_15 hy32_15 => ?_
      exact Ok.sm (by first | exact hy32_15 | exact hy32_15.1 | first | trivial | assumption | omega | (simp only; omega))
    · skip
      try simp only [ez31_13, ez30_12, ez23_9, ez22_8, ez18_7, ez17_6, ez14_5, ez13_4, ez10_3, decide_eq_true_eq, decide_eq_false_iff_not, Bool.or_eq_true, Bool.and_eq_true, Bool.or_eq_false_iff, Bool.and_eq_false_iff, Bool.not_eq_true', Bool.not_eq_false', Bool.not_eq_eq_eq_not, Bool.not_true, Bool.not_false, ne_eq, decide_not] at c
      refine Ok.bv fun z35_16 ez35_16 => ?_
      have rz35_16 := (wI64 ez35_16).1
      try replace ez35_16 := (wI64 ez35_16).2 (by omega)
      refine Ok.bv fun z37_17 ez37_17 => ?_
      have rz37_17 := (wI64 ez37_17).1
      try replace ez37_17 := (wI64 ez37_17).2 (by omega)
      refine Ok.bv fun z39_18 ez39_18 => ?_
      have rz39_18 := (wI64 ez39_18).1
      try replace ez39_18 := (wI64 ez39_18).2 (by omega)
      refine Ok.bv fun z40_19 ez40_19 => ?_
      have rz40_19 := (wI64 ez40_19).1
      try replace ez40_19 := (wI64 ez40_19).2 (by omega)
      refine Ok.ckf (by first | omega | decide | (simp; omega) | (simp; done)) fun k2 => ?_
      refine Ok.bv fun z41_21 ez41_21 => ?_
      exact Ok.sm (by first | exact gelP (by assumption) ez41_21 (by omega) | first | trivial | assumption | omega | (simp only; omega))

theorem lists_VLookup_tot {x0 : V} {x1 : Int} {x2 : Int} {x3 : List (V)} (hl : x3.length ≤ 1000) (hx : ∀ x ∈ x3, Rt x) (h1 : 1 ≤ x1 ∧ x1 ≤ 1000) (h2 : -9223372036854775808 ≤ x2 ∧ x2 ≤ 9223372036854775807) : Ok (lists_VLookup x0 x1 x2 x3) (Rt) := by
  unfold lists_VLookup
  refine Ok.bv fun z11_4 ez11_4 => ?_
  refine Ok.bv fun z14_5 ez14_5 => ?_
  refine Ok.bv fun z15_6 ez15_6 => ?_
  refine Ok.bv fun z19_7 ez19_7 => ?_
  refine Ok.bv fun z20_8 ez20_8 => ?_
  refine Ok.it (fun c => ?_) (fun c => ?_)
  · skip
    try simp only [ez20_8, ez19_7, ez15_6, ez14_5, ez11_4, decide_eq_true_eq, decide_eq_false_iff_not, Bool.or_eq_true, Bool.and_eq_true, Bool.or_eq_false_iff, Bool.and_eq_false_iff, Bool.not_eq_true', Bool.not_eq_false', Bool.not_eq_eq_eq_not, Bool.not_true, Bool.not_false, ne_eq, decide_not] at c
    refine Ok.ob (value_Fail_tot (by first | trivial | assumption | omega | (simp only; omega) | (simp only; assumption) | (simp; omega) | (simp; done))) fun y21_10 ey21_10 hy21_10 => ?_
    exact Ok.sm (by first | exact hy21_10 | exact hy21_10.1 | first | trivial | assumption | omega | (simp only; omega))
  · skip
    try simp only [ez20_8, ez19_7, ez15_6, ez14_5, ez11_4, decide_eq_true_eq, decide_eq_false_iff_not, Bool.or_eq_true, Bool.and_eq_true, Bool.or_eq_false_iff, Bool.and_eq_false_iff, Bool.not_eq_true', Bool.not_eq_false', Bool.not_eq_eq_eq_not, Bool.not_true, Bool.not_false, ne_eq, decide_not] at c
    refine Ok.bv fun J12 eJ12 => ?_
    have hJ12 : ∀ s12 : Int × Int × (List UInt8), (True) → Ok (J12 s12) (Rt) := by
      intro s12 hs12
      rw [eJ12]
      refine Ok.ob (value_Fail_tot (by first | trivial | assumption | omega | (simp only; omega) | (simp only; assumption) | (simp; omega) | (simp; done))) fun y44_13 ey44_13 hy44_13 => ?_
      exact Ok.sm (by first | exact hy44_13 | exact hy44_13.1 | first | trivial | assumption | omega | (simp only; omega))
    clear eJ12
    refine Ok.bv fun B15 eB15 => ?_
    subst eB15
    refine Ok.lp (fun s15 : Int × Int × Int × (List UInt8) => 0 ≤ s15.1 ∧ s15.1 ≤ 2000) (fun s15 => (2000 - s15.1).toNat) (by first | trivial | omega | (simp only; omega) | (simp only; refine ⟨by omega, ?_⟩; first | assumption | omega) | (simp; omega) | (simp; done)) (by first | (simp only; omega) | (simp; omega) | (simp; done)) fun s15 hs15 nextn15 ihn15 => ?_
    refine Ok.bv fun z24_18 ez24_18 => ?_
    have rz24_18 := (wI64 ez24_18).1
    try replace ez24_18 := (wI64 ez24_18).2 (by omega)
    refine Ok.bv fun z27_19 ez27_19 => ?_
    refine Ok.it (fun c => ?_) (fun c => ?_)
    · skip
      try simp only [ez27_19, decide_eq_true_eq] at c
      refine Ok.ckf (by first | omega | decide | (simp; omega) | (simp; done)) fun k1 => ?_
      refine Ok.bv fun z33_23 ez33_23 => ?_
      refine Ok.ob (lists_equal_tot) fun y36_24 ey36_24 hy36_24 => ?_
      refine Ok.it (fun c => ?_) (fun c => ?_)
      · skip
        refine Ok.bv fun z40_26 ez40_26 => ?_
        have rz40_26 := (wI64 ez40_26).1
        try replace ez40_26 := (wI64 ez40_26).2 (by omega)
        refine Ok.bv fun z41_27 ez41_27 => ?_
        have rz41_27 := (wI64 ez41_27).1
        try replace ez41_27 := (wI64 ez41_27).2 (by omega)
        refine Ok.ckf (by first | omega | decide | (simp; omega) | (simp; done)) fun k2 => ?_
        refine Ok.bv fun z42_29 ez42_29 => ?_
        exact Ok.sm (by first | exact gelP (by assumption) ez42_29 (by omega) | first | trivial | assumption | omega | (simp only; omega))
      · skip
        refine Ok.bv fun z30_30 ez30_30 => ?_
        have rz30_30 := (wI64 ez30_30).1
        try replace ez30_30 := (wI64 ez30_30).2 (by omega)
        exact ihn15 _ (by first | trivial | omega | (simp only; omega) | (simp only; refine ⟨by omega, ?_⟩; first | assumption | omega) | (simp; omega) | (simp; done)) (by first | (simp only; omega) | (simp; omega) | (simp; done))
    · skip
      try simp only [ez27_19, decide_eq_false_iff_not] at c
      exact hJ12 _ (by first | trivial | assumption | omega | (simp only; omega) | (simp only; assumption) | (simp; omega) | (simp; done))

theorem texts_trimmed_tot {x0 : List UInt8} (hl : x0.length ≤ 100000) : Ok (texts_trimmed x0) (fun r => r.length ≤ x0.length) := by
  unfold texts_trimmed
  refine Ok.bv fun J2 eJ2 => ?_
  have hJ2 : ∀ s2 : (List UInt8), (s2.length ≤ x0.length) → Ok (J2 s2) (fun r => r.length ≤ x0.length) := by
    intro s2 hs2
    rw [eJ2]
    exact Ok.sm (by first | trivial | assumption | omega | (simp only; omega))
  clear eJ2
  refine Ok.bv fun B4 eB4 => ?_
  subst eB4
  refine Ok.lp (fun s4 : (List UInt8) × Bool × Int => (0 ≤ s4.2.2 ∧ s4.2.2 ≤ (x0.length : Int)) ∧ ((s4.1.length : Int) + (if s4.2.1 = true then 1 else 0) ≤ s4.2.2)) (fun s4 => ((x0.length : Int) - s4.2.2).toNat) (by first | trivial | omega | (simp only; omega) | (simp only; refine ⟨by omega, ?_⟩; first | assumption | omega) | (simp; omega) | (simp; done)) (by first | (simp only; omega) | (simp; omega) | (simp; done)) fun s4 hs4 nextn4 ihn4 => ?_
  refine Ok.bv fun z9_6 ez9_6 => ?_
  refine Ok.it (fun c => ?_) (fun c => ?_)
  · skip
    try simp only [ez9_6, decide_eq_true_eq] at c
    refine Ok.ckf (by first | omega | decide | (simp; omega) | (simp; done)) fun k1 => ?_
    refine Ok.bv fun z13_12 ez13_12 => ?_
    refine Ok.bv fun z14_13 ez14_13 => ?_
    refine Ok.it (fun c => ?_) (fun c => ?_)
    · skip
      try simp only [ez14_13, decide_eq_true_eq] at c
      have h1 : (s4.1.length : Int) ≤ s4.2.2 := by have h1 := hs4.2; split at h1 <;> omega
      refine Ok.bv fun z16_15 ez16_15 => ?_
      refine Ok.bv fun z27_16 ez27_16 => ?_
      have rz27_16 := (wI64 ez27_16).1
      try replace ez27_16 := (wI64 ez27_16).2 (by omega)
      exact ihn4 _ (by refine ⟨by simp only; omega, ?_⟩; simp only; split <;> omega) (by first | (simp only; omega) | (simp; omega) | (simp; done))
    · skip
      try simp only [ez14_13, decide_eq_false_iff_not] at c
      refine Ok.bv fun J18 eJ18 => ?_
      have hJ18 : ∀ s18 : (List UInt8), ((s18.length : Int) ≤ s4.2.2) → Ok (J18 s18) (fun r => r.length ≤ x0.length) := by
        intro s18 hs18
        rw [eJ18]
        refine Ok.bv fun z24_19 ez24_19 => ?_
        have rz24_19 := (wI64 ez24_19).1
        try replace ez24_19 := (wI64 ez24_19).2 (by omega)
        refine Ok.ckf (by first | omega | decide | (simp; omega) | (simp; done)) fun k2 => ?_
        refine Ok.bv fun z25_21 ez25_21 => ?_
        have hc := cutS_len x0 s4.2.2 z24_19 (by omega)
        rw [← ez25_21] at hc
        refine Ok.ckf (by first | omega | decide | (simp; omega) | (simp; done)) fun k3 => ?_
        refine Ok.bv fun z26_23 ez26_23 => ?_
        have ha : z26_23.length = s18.length + z25_21.length := by rw [ez26_23, List.length_append]
        refine Ok.bv fun z27_24 ez27_24 => ?_
        have rz27_24 := (wI64 ez27_24).1
        try replace ez27_24 := (wI64 ez27_24).2 (by omega)
        exact ihn4 _ (by first | trivial | omega | (simp only; omega) | (simp only; refine ⟨by omega, ?_⟩; first | assumption | omega) | (simp; omega) | (simp; done)) (by first | (simp only; omega) | (simp; omega) | (simp; done))
      clear eJ18
      refine Ok.it (fun c => ?_) (fun c => ?_)
      · skip
        rw [if_pos c] at hs4
        refine Ok.ckf (by first | omega | decide | (simp; omega) | (simp; done)) fun k4 => ?_
        refine Ok.bv fun z19_27 ez19_27 => ?_
        have ha : z19_27.length = s4.1.length + 1 := by rw [ez19_27, List.length_append]; rfl
        exact hJ18 _ (by first | trivial | assumption | omega | (simp only; omega) | (simp only; assumption) | (simp; omega) | (simp; done))
      · skip
        rw [if_neg (by simp [c])] at hs4
        exact hJ18 _ (by first | trivial | assumption | omega | (simp only; omega) | (simp only; assumption) | (simp; omega) | (simp; done))
  · skip
    try simp only [ez9_6, decide_eq_false_iff_not] at c
    exact hJ2 _ (by have h1 := hs4.2; split at h1 <;> omega)

theorem texts_runes_tot {x0 : List UInt8} (hl : x0.length ≤ 100000) : Ok (texts_runes x0) (fun _ => True) := by
  unfold texts_runes
  refine Ok.bv fun J2 eJ2 => ?_
  have hJ2 : ∀ s2 : Int, (True) → Ok (J2 s2) (fun _ => True) := by
    intro s2 hs2
    rw [eJ2]
    exact Ok.sm (by first | trivial | assumption | omega | (simp only; omega))
  clear eJ2
  refine Ok.bv fun B5 eB5 => ?_
  subst eB5
  refine Ok.lp (fun s5 : Int × Nat => True) (fun s5 => x0.length - s5.2) (by first | trivial | omega | (simp only; omega) | (simp only; refine ⟨by omega, ?_⟩; first | assumption | omega) | (simp; omega) | (simp; done)) (by first | (simp only; omega) | (simp; omega) | (simp; done)) fun s5 hs5 nextn5 ihn5 => ?_
  refine Ok.bv fun z7_7 ez7_7 => ?_
  refine Ok.it (fun c => ?_) (fun c => ?_)
  · skip
    try simp only [ez7_7, decide_eq_true_eq] at c
    have hn := nextP_gt c
    refine Ok.bv fun z9_11 ez9_11 => ?_
    have rz9_11 := (wI64 ez9_11).1
    try replace ez9_11 := (wI64 ez9_11).2 (by omega)
    exact ihn5 _ (by first | trivial | omega | (simp only; omega) | (simp only; refine ⟨by omega, ?_⟩; first | assumption | omega) | (simp; omega) | (simp; done)) (by first | (simp only; omega) | (simp; omega) | (simp; done))
  · skip
    try simp only [ez7_7, decide_eq_false_iff_not] at c
    exact hJ2 _ (by first | trivial | assumption | omega | (simp only; omega) | (simp only; assumption) | (simp; omega) | (simp; done))

theorem texts_count_tot {x0 : Int} {x1 : List UInt8} (hl : x1.length ≤ 100000) (h0 : -9223372036854775807 ≤ x0 ∧ x0 ≤ 9223372036854775807) : Ok (texts_count x0 x1) (fun r => (0 ≤ r.1 ∧ r.1 ≤ (x1.length : Int)) ∧ (r.2 = true → 0 ≤ Int.tdiv x0 1000000)) := by
  unfold texts_count
  refine Ok.bv fun z7_1 ez7_1 => ?_
  try have qz7_1 := tdiv_nat x0 1000000
  have rz7_1 := (wI64 ez7_1).1
  try replace ez7_1 := (wI64 ez7_1).2 (by omega)
  refine Ok.bv fun z9_2 ez9_2 => ?_
  refine Ok.bv fun z12_3 ez12_3 => ?_
  refine Ok.bv fun z14_4 ez14_4 => ?_
  exact Ok.sm (by refine ⟨by simp only; omega, fun h => ?_⟩; simp only at h; rw [ez14_4, decide_eq_true_eq] at h; omega)

theorem texts_turned_tot {x0 : List UInt8} {x1 : Int} {x2 : Int} (hl : x0.length ≤ 100000) : Ok (texts_turned x0 x1 x2) (fun r => r.length = x0.length) := by
  unfold texts_turned
  refine Ok.bv fun z11_2 ez11_2 => ?_
  have hob : z11_2.length = x0.length ∧ bytesOk z11_2 = true := by rw [ez11_2]; exact ofB_ok x0
  refine Ok.bv fun J4 eJ4 => ?_
  have hJ4 : ∀ s4 : (List Int), (s4.length = x0.length ∧ bytesOk s4 = true) → Ok (J4 s4) (fun r => r.length = x0.length) := by
    intro s4 hs4
    rw [eJ4]
    refine Ok.ckf (by exact hs4.2) fun k1 => ?_
    refine Ok.bv fun z38_6 ez38_6 => ?_
    exact Ok.sm (by rw [ez38_6]; simpa [toB] using hs4.1)
  clear eJ4
  refine Ok.bv fun B8 eB8 => ?_
  subst eB8
  refine Ok.lp (fun s8 : Int × (List Int) => (0 ≤ s8.1 ∧ s8.1 ≤ (z11_2.length : Int)) ∧ s8.2.length = x0.length ∧ bytesOk s8.2 = true) (fun s8 => ((z11_2.length : Int) - s8.1).toNat) (by exact ⟨by simp only; omega, hob⟩) (by first | (simp only; omega) | (simp; omega) | (simp; done)) fun s8 hs8 nextn8 ihn8 => ?_
  refine Ok.bv fun z15_10 ez15_10 => ?_
  refine Ok.it (fun c => ?_) (fun c => ?_)
  · skip
    try simp only [ez15_10, decide_eq_true_eq] at c
    refine Ok.ckf (by first | omega | decide | (simp; omega) | (simp; done)) fun k2 => ?_
    refine Ok.bv fun z18_15 ez18_15 => ?_
    refine Ok.bv fun z21_16 ez21_16 => ?_
    refine Ok.bv fun z25_17 ez25_17 => ?_
    have rz25_17 := (wU8 ez25_17).1
    try replace ez25_17 := (wU8 ez25_17).2 (by omega)
    refine Ok.bv fun z26_18 ez26_18 => ?_
    refine Ok.bv fun z27_19 ez27_19 => ?_
    refine Ok.it (fun c => ?_) (fun c => ?_)
    · skip
      try simp only [ez27_19, ez26_18, ez21_16, decide_eq_true_eq, decide_eq_false_iff_not, Bool.or_eq_true, Bool.and_eq_true, Bool.or_eq_false_iff, Bool.and_eq_false_iff, Bool.not_eq_true', Bool.not_eq_false', Bool.not_eq_eq_eq_not, Bool.not_true, Bool.not_false, ne_eq, decide_not] at c
      refine Ok.bv fun z32_21 ez32_21 => ?_
      have rz32_21 := (wU8 ez32_21).1
      try replace ez32_21 := (wU8 ez32_21).2 (by omega)
      refine Ok.bv fun z34_22 ez34_22 => ?_
      have rz34_22 := (wU8 ez34_22).1
      try replace ez34_22 := (wU8 ez34_22).2 (by omega)
      refine Ok.ckf (by first | omega | decide | (simp; omega) | (simp; done)) fun k3 => ?_
      refine Ok.bv fun zb0_24 ezb0_24 => ?_
      refine Ok.bv fun z36_25 ez36_25 => ?_
      have rz36_25 := (wI64 ez36_25).1
      try replace ez36_25 := (wI64 ez36_25).2 (by omega)
      exact ihn8 _ (by refine ⟨by simp only; omega, by simp only [ezb0_24, List.length_set]; omega, ?_⟩; simp only [ezb0_24]; exact bOk_set hs8.2.2 _ rz34_22) (by first | (simp only; omega) | (simp; omega) | (simp; done))
    · skip
      try simp only [ez27_19, ez26_18, ez21_16, decide_eq_true_eq, decide_eq_false_iff_not, Bool.or_eq_true, Bool.and_eq_true, Bool.or_eq_false_iff, Bool.and_eq_false_iff, Bool.not_eq_true', Bool.not_eq_false', Bool.not_eq_eq_eq_not, Bool.not_true, Bool.not_false, ne_eq, decide_not] at c
      refine Ok.bv fun z36_26 ez36_26 => ?_
      have rz36_26 := (wI64 ez36_26).1
      try replace ez36_26 := (wI64 ez36_26).2 (by omega)
      exact ihn8 _ (by exact ⟨by simp only; omega, hs8.2⟩) (by first | (simp only; omega) | (simp; omega) | (simp; done))
  · skip
    try simp only [ez15_10, decide_eq_false_iff_not] at c
    exact hJ4 _ (by exact hs8.2)

theorem value_ToNum_rt {x0 : V} (h : Rt x0) : Ok (value_ToNum x0) (fun r => Rt r ∧ (r.k = 4 ∨ r.k = 1)) := by
  unfold value_ToNum
  refine Ok.bv fun J6 eJ6 => ?_
  have hJ6 : ∀ s6 : Bool, (s6 = true → x0.k = 1 ∨ x0.k = 4) → Ok (J6 s6) (fun r => Rt r ∧ (r.k = 4 ∨ r.k = 1)) := by
    intro s6 hs6
    rw [eJ6]
    have hsl := h.len
    refine Ok.it (fun c => ?_) (fun c => ?_)
    · skip
      exact Ok.sm (by exact ⟨h, (hs6 c).symm⟩)
    · skip
      refine Ok.bv fun z14_8 ez14_8 => ?_
      refine Ok.it (fun c => ?_) (fun c => ?_)
      · skip
        try simp only [ez14_8, decide_eq_true_eq] at c
        refine Ok.ob (value_Num_tot (by first | trivial | assumption | omega | (simp only; omega) | (simp only; assumption) | (simp; omega) | (simp; done))) fun y15_10 ey15_10 hy15_10 => ?_
        exact Ok.sm (by first | exact hy15_10 | exact hy15_10.1 | first | trivial | assumption | omega | (simp only; omega))
      · skip
        try simp only [ez14_8, decide_eq_false_iff_not] at c
        refine Ok.bv fun z17_11 ez17_11 => ?_
        refine Ok.it (fun c => ?_) (fun c => ?_)
        · skip
          try simp only [ez17_11, decide_eq_true_eq] at c
          have hn : x0.n = 0 ∨ x0.n = 1 := by unfold Rt at h; omega
          refine Ok.bv fun z20_13 ez20_13 => ?_
          have rz20_13 := (wI64 ez20_13).1
          try replace ez20_13 := (wI64 ez20_13).2 (by omega)
          refine Ok.ob (value_Num_tot (by omega)) fun y21_14 ey21_14 hy21_14 => ?_
          exact Ok.sm (by first | exact hy21_14 | exact hy21_14.1 | first | trivial | assumption | omega | (simp only; omega))
        · skip
          try simp only [ez17_11, decide_eq_false_iff_not] at c
          refine Ok.bv fun z25_16 ez25_16 => ?_
          have ht := trim_len x0.s [45]
          refine Ok.ob (num_Parse_tot _ (by rw [ez25_16]; simp only; omega)) fun y30_17 ey30_17 hy30_17 => ?_
          refine Ok.bv fun z34_19 ez34_19 => ?_
          refine Ok.it (fun c => ?_) (fun c => ?_)
          · skip
            try simp only [ez34_19, decide_eq_true_eq, decide_eq_false_iff_not, Bool.or_eq_true, Bool.and_eq_true, Bool.or_eq_false_iff, Bool.and_eq_false_iff, Bool.not_eq_true', Bool.not_eq_false', Bool.not_eq_eq_eq_not, Bool.not_true, Bool.not_false, ne_eq, decide_not] at c
            refine Ok.ob (value_Fail_tot (by first | trivial | assumption | omega | (simp only; omega) | (simp only; assumption) | (simp; omega) | (simp; done))) fun y35_21 ey35_21 hy35_21 => ?_
            exact Ok.sm (by first | exact hy35_21 | exact hy35_21.1 | first | trivial | assumption | omega | (simp only; omega))
          · skip
            try simp only [ez34_19, decide_eq_true_eq, decide_eq_false_iff_not, Bool.or_eq_true, Bool.and_eq_true, Bool.or_eq_false_iff, Bool.and_eq_false_iff, Bool.not_eq_true', Bool.not_eq_false', Bool.not_eq_eq_eq_not, Bool.not_true, Bool.not_false, ne_eq, decide_not] at c
            refine Ok.bv fun J23 eJ23 => ?_
            have hJ23 : ∀ s23 : Int, (-9223372036854775807 ≤ s23 ∧ s23 ≤ 9223372036854775807) → Ok (J23 s23) (fun r => Rt r ∧ (r.k = 4 ∨ r.k = 1)) := by
              intro s23 hs23
              rw [eJ23]
              refine Ok.ob (value_Num_tot hs23) fun y40_24 ey40_24 hy40_24 => ?_
              exact Ok.sm (by first | exact hy40_24 | exact hy40_24.1 | first | trivial | assumption | omega | (simp only; omega))
            clear eJ23
            refine Ok.it (fun c => ?_) (fun c => ?_)
            · skip
              refine Ok.bv fun z38_26 ez38_26 => ?_
              have rz38_26 := (wI64 ez38_26).1
              try replace ez38_26 := (wI64 ez38_26).2 (by omega)
              exact hJ23 _ (by omega)
            · skip
              exact hJ23 _ (by omega)
  clear eJ6
  refine Ok.bv fun z10_27 ez10_27 => ?_
  refine Ok.it (fun c => ?_) (fun c => ?_)
  · skip
    try simp only [ez10_27, decide_eq_true_eq] at c
    exact hJ6 _ (by intro g; rw [ez10_27, decide_eq_true_eq] at g; exact .inl g)
  · skip
    try simp only [ez10_27, decide_eq_false_iff_not] at c
    refine Ok.bv fun z11_29 ez11_29 => ?_
    exact hJ6 _ (by intro g; rw [ez11_29, decide_eq_true_eq] at g; exact .inr g)

theorem value_ToBool_tot {x0 : V} (h : Rt x0) : Ok (value_ToBool x0) (Rt) := by
  unfold value_ToBool
  refine Ok.bv fun J6 eJ6 => ?_
  have hJ6 : ∀ s6 : Bool, (True) → Ok (J6 s6) (Rt) := by
    intro s6 hs6
    rw [eJ6]
    refine Ok.it (fun c => ?_) (fun c => ?_)
    · skip
      exact Ok.sm (by exact h)
    · skip
      refine Ok.bv fun z10_8 ez10_8 => ?_
      refine Ok.it (fun c => ?_) (fun c => ?_)
      · skip
        try simp only [ez10_8, decide_eq_true_eq] at c
        refine Ok.ob (value_Bool_tot) fun y11_10 ey11_10 hy11_10 => ?_
        exact Ok.sm (by first | exact hy11_10 | exact hy11_10.1 | first | trivial | assumption | omega | (simp only; omega))
      · skip
        try simp only [ez10_8, decide_eq_false_iff_not] at c
        refine Ok.bv fun z13_11 ez13_11 => ?_
        refine Ok.it (fun c => ?_) (fun c => ?_)
        · skip
          try simp only [ez13_11, decide_eq_true_eq] at c
          refine Ok.bv fun z16_13 ez16_13 => ?_
          refine Ok.ob (value_Bool_tot) fun y17_14 ey17_14 hy17_14 => ?_
          exact Ok.sm (by first | exact hy17_14 | exact hy17_14.1 | first | trivial | assumption | omega | (simp only; omega))
        · skip
          try simp only [ez13_11, decide_eq_false_iff_not] at c
          refine Ok.bv fun z20_16 ez20_16 => ?_
          refine Ok.bv fun z24_17 ez24_17 => ?_
          refine Ok.bv fun z25_18 ez25_18 => ?_
          refine Ok.it (fun c => ?_) (fun c => ?_)
          · skip
            try simp only [ez25_18, ez24_17, ez20_16, decide_eq_true_eq, decide_eq_false_iff_not, Bool.or_eq_true, Bool.and_eq_true, Bool.or_eq_false_iff, Bool.and_eq_false_iff, Bool.not_eq_true', Bool.not_eq_false', Bool.not_eq_eq_eq_not, Bool.not_true, Bool.not_false, ne_eq, decide_not] at c
            refine Ok.bv fun z28_20 ez28_20 => ?_
            refine Ok.ob (value_Bool_tot) fun y29_21 ey29_21 hy29_21 => ?_
            exact Ok.sm (by first | exact hy29_21 | exact hy29_21.1 | first | trivial | assumption | omega | (simp only; omega))
          · skip
            try simp only [ez25_18, ez24_17, ez20_16, decide_eq_true_eq, decide_eq_false_iff_not, Bool.or_eq_true, Bool.and_eq_true, Bool.or_eq_false_iff, Bool.and_eq_false_iff, Bool.not_eq_true', Bool.not_eq_false', Bool.not_eq_eq_eq_not, Bool.not_true, Bool.not_false, ne_eq, decide_not] at c
            refine Ok.ob (value_Fail_tot (by first | trivial | assumption | omega | (simp only; omega) | (simp only; assumption) | (simp; omega) | (simp; done))) fun y30_22 ey30_22 hy30_22 => ?_
            exact Ok.sm (by first | exact hy30_22 | exact hy30_22.1 | first | trivial | assumption | omega | (simp only; omega))
  clear eJ6
  refine Ok.bv fun z6_23 ez6_23 => ?_
  refine Ok.it (fun c => ?_) (fun c => ?_)
  · skip
    try simp only [ez6_23, decide_eq_true_eq] at c
    exact hJ6 _ (by first | trivial | assumption | omega | (simp only; omega) | (simp only; assumption) | (simp; omega) | (simp; done))
  · skip
    try simp only [ez6_23, decide_eq_false_iff_not] at c
    refine Ok.bv fun z7_25 ez7_25 => ?_
    exact hJ6 _ (by first | trivial | assumption | omega | (simp only; omega) | (simp only; assumption) | (simp; omega) | (simp; done))

theorem value_ToText_tot {x0 : V} (h : Rt x0) : Ok (value_ToText x0) (Rt) := by
  unfold value_ToText
  refine Ok.bv fun z5_4 ez5_4 => ?_
  refine Ok.it (fun c => ?_) (fun c => ?_)
  · skip
    try simp only [ez5_4, decide_eq_true_eq] at c
    exact Ok.sm (by exact h)
  · skip
    try simp only [ez5_4, decide_eq_false_iff_not] at c
    refine Ok.ob (value_Show_rt h c) fun y8_6 ey8_6 hy8_6 => ?_
    refine Ok.ob (value_Text_tot) fun y9_7 ey9_7 hy9_7 => ?_
    exact Ok.sm (by first | exact hy9_7 | exact hy9_7.1 | first | trivial | assumption | omega | (simp only; omega))

theorem texts_One_tot {x0 : List UInt8} {x1 : List UInt8} (hl : x1.length ≤ 64) : Ok (texts_One x0 x1) (Rt) := by
  unfold texts_One
  refine Ok.bv fun z7_4 ez7_4 => ?_
  refine Ok.it (fun c => ?_) (fun c => ?_)
  · skip
    try simp only [ez7_4, decide_eq_true_eq] at c
    refine Ok.ob (texts_runes_tot (by first | trivial | assumption | omega | (simp only; omega) | (simp only; assumption) | (simp; omega) | (simp; done))) fun y9_6 ey9_6 hy9_6 => ?_
    refine Ok.ob (num_Of_tot) fun y10_7 ey10_7 hy10_7 => ?_
    refine Ok.ob (value_Made_tot (fun _ => hy10_7)) fun y13_8 ey13_8 hy13_8 => ?_
    exact Ok.sm (by first | exact hy13_8 | exact hy13_8.1 | first | trivial | assumption | omega | (simp only; omega))
  · skip
    try simp only [ez7_4, decide_eq_false_iff_not] at c
    refine Ok.bv fun z15_9 ez15_9 => ?_
    refine Ok.it (fun c => ?_) (fun c => ?_)
    · skip
      try simp only [ez15_9, decide_eq_true_eq] at c
      refine Ok.ob (texts_turned_tot (by first | trivial | assumption | omega | (simp only; omega) | (simp only; assumption) | (simp; omega) | (simp; done))) fun y17_11 ey17_11 hy17_11 => ?_
      refine Ok.ob (value_Text_tot) fun y18_12 ey18_12 hy18_12 => ?_
      exact Ok.sm (by first | exact hy18_12 | exact hy18_12.1 | first | trivial | assumption | omega | (simp only; omega))
    · skip
      try simp only [ez15_9, decide_eq_false_iff_not] at c
      refine Ok.bv fun z20_13 ez20_13 => ?_
      refine Ok.it (fun c => ?_) (fun c => ?_)
      · skip
        try simp only [ez20_13, decide_eq_true_eq] at c
        refine Ok.ob (texts_turned_tot (by first | trivial | assumption | omega | (simp only; omega) | (simp only; assumption) | (simp; omega) | (simp; done))) fun y22_15 ey22_15 hy22_15 => ?_
        refine Ok.ob (value_Text_tot) fun y23_16 ey23_16 hy23_16 => ?_
        exact Ok.sm (by first | exact hy23_16 | exact hy23_16.1 | first | trivial | assumption | omega | (simp only; omega))
      · skip
        try simp only [ez20_13, decide_eq_false_iff_not] at c
        refine Ok.bv fun z25_17 ez25_17 => ?_
        refine Ok.it (fun c => ?_) (fun c => ?_)
        · skip
          try simp only [ez25_17, decide_eq_true_eq] at c
          refine Ok.ob (texts_trimmed_tot (by first | trivial | assumption | omega | (simp only; omega) | (simp only; assumption) | (simp; omega) | (simp; done))) fun y27_19 ey27_19 hy27_19 => ?_
          refine Ok.ob (value_Text_tot) fun y28_20 ey28_20 hy28_20 => ?_
          exact Ok.sm (by first | exact hy28_20 | exact hy28_20.1 | first | trivial | assumption | omega | (simp only; omega))
        · skip
          try simp only [ez25_17, decide_eq_false_iff_not] at c
          refine Ok.bv fun z30_21 ez30_21 => ?_
          refine Ok.it (fun c => ?_) (fun c => ?_)
          · skip
            try simp only [ez30_21, decide_eq_true_eq] at c
            refine Ok.ob (value_ToNum_rt (.inr (.inr (.inl ⟨rfl, rfl, hl⟩)))) fun y33_23 ey33_23 hy33_23 => ?_
            exact Ok.sm (by first | exact hy33_23 | exact hy33_23.1 | first | trivial | assumption | omega | (simp only; omega))
          · skip
            try simp only [ez30_21, decide_eq_false_iff_not] at c
            refine Ok.ob (value_Fail_tot (by first | trivial | assumption | omega | (simp only; omega) | (simp only; assumption) | (simp; omega) | (simp; done))) fun y34_24 ey34_24 hy34_24 => ?_
            exact Ok.sm (by first | exact hy34_24 | exact hy34_24.1 | first | trivial | assumption | omega | (simp only; omega))

theorem texts_Part_tot {x0 : List UInt8} {x1 : List UInt8} {x2 : List (Int)} (hl : x1.length ≤ 64) (h2 : x2.length ≤ 10) (hx : ∀ x ∈ x2, -9223372036854775807 ≤ x ∧ x ≤ 9223372036854775807) (hr : x0 = [82, 69, 80, 84] → x2.length = 1) : Ok (texts_Part x0 x1 x2) (Rt) := by
  unfold texts_Part
  refine Ok.bv fun z14_3 ez14_3 => ?_
  refine Ok.it (fun c => ?_) (fun c => ?_)
  · skip
    try simp only [ez14_3, decide_eq_true_eq] at c
    refine Ok.ob (value_Fail_tot (by first | trivial | assumption | omega | (simp only; omega) | (simp only; assumption) | (simp; omega) | (simp; done))) fun y15_5 ey15_5 hy15_5 => ?_
    exact Ok.sm (by first | exact hy15_5 | exact hy15_5.1 | first | trivial | assumption | omega | (simp only; omega))
  · skip
    try simp only [ez14_3, decide_eq_false_iff_not] at c
    refine Ok.bv fun z20_6 ez20_6 => ?_
    have rz20_6 := (wI64 ez20_6).1
    try replace ez20_6 := (wI64 ez20_6).2 (by omega)
    refine Ok.ckf (by first | omega | decide | (simp; omega) | (simp; done)) fun k1 => ?_
    refine Ok.bv fun z21_8 ez21_8 => ?_
    have hz21 := gelP hx ez21_8 (by omega)
    refine Ok.ob (texts_count_tot (by omega) hz21) fun y24_9 ey24_9 hy24_9 => ?_
    refine Ok.bv fun z28_11 ez28_11 => ?_
    refine Ok.it (fun c => ?_) (fun c => ?_)
    · skip
      try simp only [ez28_11, decide_eq_true_eq, decide_eq_false_iff_not, Bool.or_eq_true, Bool.and_eq_true, Bool.or_eq_false_iff, Bool.and_eq_false_iff, Bool.not_eq_true', Bool.not_eq_false', Bool.not_eq_eq_eq_not, Bool.not_true, Bool.not_false, ne_eq, decide_not] at c
      refine Ok.ob (value_Fail_tot (by first | trivial | assumption | omega | (simp only; omega) | (simp only; assumption) | (simp; omega) | (simp; done))) fun y29_13 ey29_13 hy29_13 => ?_
      exact Ok.sm (by first | exact hy29_13 | exact hy29_13.1 | first | trivial | assumption | omega | (simp only; omega))
    · skip
      try simp only [ez28_11, decide_eq_true_eq, decide_eq_false_iff_not, Bool.or_eq_true, Bool.and_eq_true, Bool.or_eq_false_iff, Bool.and_eq_false_iff, Bool.not_eq_true', Bool.not_eq_false', Bool.not_eq_eq_eq_not, Bool.not_true, Bool.not_false, ne_eq, decide_not] at c
      have hp := hy24_9.2 c
      refine Ok.bv fun z32_16 ez32_16 => ?_
      refine Ok.it (fun c => ?_) (fun c => ?_)
      · skip
        try simp only [ez32_16, decide_eq_true_eq] at c
        refine Ok.ckf (by first | omega | decide | (simp; omega) | (simp; done)) fun k2 => ?_
        refine Ok.bv fun z35_19 ez35_19 => ?_
        refine Ok.ob (value_Text_tot) fun y36_20 ey36_20 hy36_20 => ?_
        exact Ok.sm (by first | exact hy36_20 | exact hy36_20.1 | first | trivial | assumption | omega | (simp only; omega))
      · skip
        try simp only [ez32_16, decide_eq_false_iff_not] at c
        refine Ok.bv fun z38_21 ez38_21 => ?_
        refine Ok.it (fun c => ?_) (fun c => ?_)
        · skip
          try simp only [ez38_21, decide_eq_true_eq] at c
          refine Ok.bv fun z43_23 ez43_23 => ?_
          have rz43_23 := (wI64 ez43_23).1
          try replace ez43_23 := (wI64 ez43_23).2 (by omega)
          refine Ok.ckf (by first | omega | decide | (simp; omega) | (simp; done)) fun k3 => ?_
          refine Ok.bv fun z44_25 ez44_25 => ?_
          refine Ok.ob (value_Text_tot) fun y45_26 ey45_26 hy45_26 => ?_
          exact Ok.sm (by first | exact hy45_26 | exact hy45_26.1 | first | trivial | assumption | omega | (simp only; omega))
        · skip
          try simp only [ez38_21, decide_eq_false_iff_not] at c
          refine Ok.bv fun z47_27 ez47_27 => ?_
          refine Ok.it (fun c => ?_) (fun c => ?_)
          · skip
            try simp only [ez47_27, decide_eq_true_eq] at c
            refine Ok.ckf (by first | omega | decide | (simp; omega) | (simp; done)) fun k4 => ?_
            refine Ok.bv fun z49_30 ez49_30 => ?_
            refine Ok.bv fun z51_31 ez51_31 => ?_
            try have qz51_31 := tdiv_nat z49_30 1000000
            have rz51_31 := (wI64 ez51_31).1
            try replace ez51_31 := (wI64 ez51_31).2 (by omega)
            refine Ok.bv fun z53_33 ez53_33 => ?_
            refine Ok.it (fun c => ?_) (fun c => ?_)
            · skip
              try simp only [ez53_33, decide_eq_true_eq] at c
              refine Ok.ob (value_Fail_tot (by first | trivial | assumption | omega | (simp only; omega) | (simp only; assumption) | (simp; omega) | (simp; done))) fun y54_35 ey54_35 hy54_35 => ?_
              exact Ok.sm (by first | exact hy54_35 | exact hy54_35.1 | first | trivial | assumption | omega | (simp only; omega))
            · skip
              try simp only [ez53_33, decide_eq_false_iff_not] at c
              refine Ok.bv fun z56_36 ez56_36 => ?_
              have rz56_36 := (wI64 ez56_36).1
              try replace ez56_36 := (wI64 ez56_36).2 (by omega)
              refine Ok.bv fun z59_37 ez59_37 => ?_
              refine Ok.bv fun z64_38 ez64_38 => ?_
              have rz64_38 := (wI64 ez64_38).1
              try replace ez64_38 := (wI64 ez64_38).2 (by omega)
              refine Ok.bv fun z67_39 ez67_39 => ?_
              refine Ok.ckf (by first | omega | decide | (simp; omega) | (simp; done)) fun k5 => ?_
              refine Ok.bv fun z68_41 ez68_41 => ?_
              refine Ok.ob (value_Text_tot) fun y69_42 ey69_42 hy69_42 => ?_
              exact Ok.sm (by first | exact hy69_42 | exact hy69_42.1 | first | trivial | assumption | omega | (simp only; omega))
          · skip
            try simp only [ez47_27, decide_eq_false_iff_not] at c
            refine Ok.bv fun z71_43 ez71_43 => ?_
            refine Ok.it (fun c => ?_) (fun c => ?_)
            · skip
              try simp only [ez71_43, decide_eq_true_eq] at c
              refine Ok.ckf (by first | omega | decide | (simp; omega) | (simp; done)) fun k6 => ?_
              refine Ok.bv fun z73_46 ez73_46 => ?_
              have hr1 := hr c
              have hz0 : z20_6 = 0 := by omega
              rw [hz0] at ez21_8
              have hzz : z73_46 = z21_8 := by rw [ez73_46, ez21_8]
              rw [← hzz] at hp
              refine Ok.bv fun z75_47 ez75_47 => ?_
              try have qz75_47 := tdiv_nat z73_46 1000000
              have rz75_47 := (wI64 ez75_47).1
              try replace ez75_47 := (wI64 ez75_47).2 (by omega)
              refine Ok.bv fun z77_49 ez77_49 => ?_
              refine Ok.bv fun z80_50 ez80_50 => ?_
              refine Ok.bv fun z81_51 ez81_51 => ?_
              refine Ok.it (fun c => ?_) (fun c => ?_)
              · skip
                try simp only [ez81_51, ez80_50, ez77_49, decide_eq_true_eq, decide_eq_false_iff_not, Bool.or_eq_true, Bool.and_eq_true, Bool.or_eq_false_iff, Bool.and_eq_false_iff, Bool.not_eq_true', Bool.not_eq_false', Bool.not_eq_eq_eq_not, Bool.not_true, Bool.not_false, ne_eq, decide_not] at c
                refine Ok.ob (value_Fail_tot (by first | trivial | assumption | omega | (simp only; omega) | (simp only; assumption) | (simp; omega) | (simp; done))) fun y82_53 ey82_53 hy82_53 => ?_
                exact Ok.sm (by first | exact hy82_53 | exact hy82_53.1 | first | trivial | assumption | omega | (simp only; omega))
              · skip
                try simp only [ez81_51, ez80_50, ez77_49, decide_eq_true_eq, decide_eq_false_iff_not, Bool.or_eq_true, Bool.and_eq_true, Bool.or_eq_false_iff, Bool.and_eq_false_iff, Bool.not_eq_true', Bool.not_eq_false', Bool.not_eq_eq_eq_not, Bool.not_true, Bool.not_false, ne_eq, decide_not] at c
                refine Ok.bv fun z85_54 ez85_54 => ?_
                refine Ok.ckf (by refine ⟨by omega, by omega, ?_⟩; exact Nat.le_trans (Nat.mul_le_mul hl (show z85_54.toNat ≤ 64 by omega)) (by decide)) fun k7 => ?_
                refine Ok.bv fun z86_57 ez86_57 => ?_
                refine Ok.ob (value_Text_tot) fun y87_58 ey87_58 hy87_58 => ?_
                exact Ok.sm (by first | exact hy87_58 | exact hy87_58.1 | first | trivial | assumption | omega | (simp only; omega))
            · skip
              try simp only [ez71_43, decide_eq_false_iff_not] at c
              refine Ok.ob (value_Fail_tot (by first | trivial | assumption | omega | (simp only; omega) | (simp only; assumption) | (simp; omega) | (simp; done))) fun y88_59 ey88_59 hy88_59 => ?_
              exact Ok.sm (by first | exact hy88_59 | exact hy88_59.1 | first | trivial | assumption | omega | (simp only; omega))

theorem texts_More_tot {x0 : List UInt8} {x1 : List (List UInt8)} (h2 : x1.length ≤ 10) (hx : ∀ t ∈ x1, t.length ≤ 64) : Ok (texts_More x0 x1) (Rt) := by
  unfold texts_More
  refine Ok.bv fun z8_3 ez8_3 => ?_
  refine Ok.it (fun c => ?_) (fun c => ?_)
  · skip
    try simp only [ez8_3, decide_eq_true_eq] at c
    refine Ok.ckf (by have hj := join_le hx; omega) fun k1 => ?_
    refine Ok.bv fun z10_7 ez10_7 => ?_
    refine Ok.ob (value_Text_tot) fun y11_8 ey11_8 hy11_8 => ?_
    exact Ok.sm (by first | exact hy11_8 | exact hy11_8.1 | first | trivial | assumption | omega | (simp only; omega))
  · skip
    try simp only [ez8_3, decide_eq_false_iff_not] at c
    refine Ok.bv fun z14_9 ez14_9 => ?_
    refine Ok.bv fun z18_10 ez18_10 => ?_
    refine Ok.bv fun z19_11 ez19_11 => ?_
    refine Ok.it (fun c => ?_) (fun c => ?_)
    · skip
      try simp only [ez19_11, ez18_10, ez14_9, decide_eq_true_eq, decide_eq_false_iff_not, Bool.or_eq_true, Bool.and_eq_true, Bool.or_eq_false_iff, Bool.and_eq_false_iff, Bool.not_eq_true', Bool.not_eq_false', Bool.not_eq_eq_eq_not, Bool.not_true, Bool.not_false, ne_eq, decide_not] at c
      refine Ok.ckf (by first | omega | decide | (simp; omega) | (simp; done)) fun k2 => ?_
      refine Ok.bv fun z21_14 ez21_14 => ?_
      refine Ok.ckf (by first | omega | decide | (simp; omega) | (simp; done)) fun k3 => ?_
      refine Ok.bv fun z24_16 ez24_16 => ?_
      refine Ok.bv fun z26_17 ez26_17 => ?_
      refine Ok.ob (value_Bool_tot) fun y27_18 ey27_18 hy27_18 => ?_
      exact Ok.sm (by first | exact hy27_18 | exact hy27_18.1 | first | trivial | assumption | omega | (simp only; omega))
    · skip
      try simp only [ez19_11, ez18_10, ez14_9, decide_eq_true_eq, decide_eq_false_iff_not, Bool.or_eq_true, Bool.and_eq_true, Bool.or_eq_false_iff, Bool.and_eq_false_iff, Bool.not_eq_true', Bool.not_eq_false', Bool.not_eq_eq_eq_not, Bool.not_true, Bool.not_false, ne_eq, decide_not] at c
      refine Ok.bv fun z30_19 ez30_19 => ?_
      refine Ok.bv fun z34_20 ez34_20 => ?_
      refine Ok.bv fun z35_21 ez35_21 => ?_
      refine Ok.it (fun c => ?_) (fun c => ?_)
      · skip
        try simp only [ez35_21, ez34_20, ez30_19, decide_eq_true_eq, decide_eq_false_iff_not, Bool.or_eq_true, Bool.and_eq_true, Bool.or_eq_false_iff, Bool.and_eq_false_iff, Bool.not_eq_true', Bool.not_eq_false', Bool.not_eq_eq_eq_not, Bool.not_true, Bool.not_false, ne_eq, decide_not] at c
        refine Ok.ckf (by first | omega | decide | (simp; omega) | (simp; done)) fun k4 => ?_
        refine Ok.bv fun z37_24 ez37_24 => ?_
        have hz37 := gelP hx ez37_24 (by omega)
        refine Ok.ckf (by first | omega | decide | (simp; omega) | (simp; done)) fun k5 => ?_
        refine Ok.bv fun z40_26 ez40_26 => ?_
        refine Ok.ckf (by first | omega | decide | (simp; omega) | (simp; done)) fun k6 => ?_
        refine Ok.bv fun z42_29 ez42_29 => ?_
        refine Ok.bv fun z44_31 ez44_31 => ?_
        refine Ok.it (fun c => ?_) (fun c => ?_)
        · skip
          try simp only [ez44_31, decide_eq_true_eq] at c
          refine Ok.ob (value_Fail_tot (by first | trivial | assumption | omega | (simp only; omega) | (simp only; assumption) | (simp; omega) | (simp; done))) fun y45_33 ey45_33 hy45_33 => ?_
          exact Ok.sm (by first | exact hy45_33 | exact hy45_33.1 | first | trivial | assumption | omega | (simp only; omega))
        · skip
          try simp only [ez44_31, decide_eq_false_iff_not] at c
          refine Ok.bv fun z47_34 ez47_34 => ?_
          have rz47_34 := (wI64 ez47_34).1
          try replace ez47_34 := (wI64 ez47_34).2 (by omega)
          refine Ok.ob (num_Of_tot) fun y48_35 ey48_35 hy48_35 => ?_
          refine Ok.ob (value_Made_tot (fun _ => hy48_35)) fun y51_36 ey51_36 hy51_36 => ?_
          exact Ok.sm (by first | exact hy51_36 | exact hy51_36.1 | first | trivial | assumption | omega | (simp only; omega))
      · skip
        try simp only [ez35_21, ez34_20, ez30_19, decide_eq_true_eq, decide_eq_false_iff_not, Bool.or_eq_true, Bool.and_eq_true, Bool.or_eq_false_iff, Bool.and_eq_false_iff, Bool.not_eq_true', Bool.not_eq_false', Bool.not_eq_eq_eq_not, Bool.not_true, Bool.not_false, ne_eq, decide_not] at c
        refine Ok.bv fun z54_37 ez54_37 => ?_
        refine Ok.bv fun z58_38 ez58_38 => ?_
        refine Ok.bv fun z59_39 ez59_39 => ?_
        refine Ok.it (fun c => ?_) (fun c => ?_)
        · skip
          try simp only [ez59_39, ez58_38, ez54_37, decide_eq_true_eq, decide_eq_false_iff_not, Bool.or_eq_true, Bool.and_eq_true, Bool.or_eq_false_iff, Bool.and_eq_false_iff, Bool.not_eq_true', Bool.not_eq_false', Bool.not_eq_eq_eq_not, Bool.not_true, Bool.not_false, ne_eq, decide_not] at c
          refine Ok.ckf (by first | omega | decide | (simp; omega) | (simp; done)) fun k7 => ?_
          refine Ok.bv fun z61_43 ez61_43 => ?_
          refine Ok.bv fun z63_44 ez63_44 => ?_
          refine Ok.it (fun c => ?_) (fun c => ?_)
          · skip
            try simp only [ez63_44, decide_eq_true_eq] at c
            refine Ok.ckf (by first | omega | decide | (simp; omega) | (simp; done)) fun k8 => ?_
            refine Ok.bv fun z65_47 ez65_47 => ?_
            refine Ok.ob (value_Text_tot) fun y67_48 ey67_48 hy67_48 => ?_
            exact Ok.sm (by first | exact hy67_48 | exact hy67_48.1 | first | trivial | assumption | omega | (simp only; omega))
          · skip
            try simp only [ez63_44, decide_eq_false_iff_not] at c
            have hne0 : 1 ≤ z61_43.length := List.length_pos_iff.2 c
            refine Ok.ckf (by first | omega | decide | (simp; omega) | (simp; done)) fun k9 => ?_
            refine Ok.bv fun z69_50 ez69_50 => ?_
            have hz69 := gelP hx ez69_50 (by omega)
            refine Ok.ckf (by first | omega | decide | (simp; omega) | (simp; done)) fun k10 => ?_
            refine Ok.bv fun z72_52 ez72_52 => ?_
            have h61 : z72_52 = z61_43 := by rw [ez72_52, ez61_43]
            refine Ok.ckf (by first | omega | decide | (simp; omega) | (simp; done)) fun k11 => ?_
            refine Ok.bv fun z75_54 ez75_54 => ?_
            have hz75 := gelP hx ez75_54 (by omega)
            refine Ok.ckf (by exact rep_le hz69 (by rw [h61]; exact hne0) hz75) fun k12 => ?_
            refine Ok.bv fun z77_57 ez77_57 => ?_
            refine Ok.ob (value_Text_tot) fun y78_58 ey78_58 hy78_58 => ?_
            exact Ok.sm (by first | exact hy78_58 | exact hy78_58.1 | first | trivial | assumption | omega | (simp only; omega))
        · skip
          try simp only [ez59_39, ez58_38, ez54_37, decide_eq_true_eq, decide_eq_false_iff_not, Bool.or_eq_true, Bool.and_eq_true, Bool.or_eq_false_iff, Bool.and_eq_false_iff, Bool.not_eq_true', Bool.not_eq_false', Bool.not_eq_eq_eq_not, Bool.not_true, Bool.not_false, ne_eq, decide_not] at c
          refine Ok.ob (value_Fail_tot (by first | trivial | assumption | omega | (simp only; omega) | (simp only; assumption) | (simp; omega) | (simp; done))) fun y79_59 ey79_59 hy79_59 => ?_
          exact Ok.sm (by first | exact hy79_59 | exact hy79_59.1 | first | trivial | assumption | omega | (simp only; omega))
end Go.Sp
