/- Functions that have an answer: packages num, maths, lists. -/
import Derived.Test.YtnmkeanoidadcaaGreatDoorPlRt
set_option linter.unusedSimpArgs false
set_option linter.unusedVariables false
set_option linter.unusedSectionVars false
set_option linter.unusedSimpArgs false
set_option linter.unusedVariables false
set_option maxRecDepth 100000
namespace Go.Sp
open Go.Stp Go.ValP
theorem num_Of_tot {x0 : Int}  : Ok (num_Of x0) (fun r => -9223372036854775807 ≤ r.1 ∧ r.1 ≤ 9223372036854775807) := by
  unfold num_Of
  refine Ok.bv fun z5_2 ez5_2 => ?_
  refine Ok.bv fun z8_3 ez8_3 => ?_
  refine Ok.bv fun z9_4 ez9_4 => ?_
  refine Ok.it (fun c => ?_) (fun c => ?_)
  · skip
    try simp only [ez9_4, ez8_3, ez5_2, decide_eq_true_eq, decide_eq_false_iff_not, Bool.or_eq_true, Bool.and_eq_true, Bool.or_eq_false_iff, Bool.and_eq_false_iff, Bool.not_eq_true', Bool.not_eq_false', Bool.not_eq_eq_eq_not, Bool.not_true, Bool.not_false, ne_eq, decide_not] at c
    exact Ok.sm (by first | trivial | assumption | omega | (simp only; omega))
  · skip
    try simp only [ez9_4, ez8_3, ez5_2, decide_eq_true_eq, decide_eq_false_iff_not, Bool.or_eq_true, Bool.and_eq_true, Bool.or_eq_false_iff, Bool.and_eq_false_iff, Bool.not_eq_true', Bool.not_eq_false', Bool.not_eq_eq_eq_not, Bool.not_true, Bool.not_false, ne_eq, decide_not] at c
    refine Ok.bv fun z11_6 ez11_6 => ?_
    have rz11_6 := (wI64 ez11_6).1
    try replace ez11_6 := (wI64 ez11_6).2 (by omega)
    exact Ok.sm (by first | trivial | assumption | omega | (simp only; omega))

theorem num_Floor_tot {x0 : Int}  : Ok (num_Floor x0) (fun r => r.2 = true → -9223372036854775807 ≤ r.1 ∧ r.1 ≤ 9223372036854775807) := by
  unfold num_Floor
  refine Ok.bv fun z6_1 ez6_1 => ?_
  refine Ok.bv fun J3 eJ3 => ?_
  have hJ3 : ∀ s3 : Int, (True) → Ok (J3 s3) (fun r => r.2 = true → -9223372036854775807 ≤ r.1 ∧ r.1 ≤ 9223372036854775807) := by
    intro s3 hs3
    rw [eJ3]
    refine Ok.ob (num_Sub_tot _ _) fun y13_4 ey13_4 hy13_4 => ?_
    exact Ok.sm (by exact hy13_4)
  clear eJ3
  refine Ok.bv fun z8_5 ez8_5 => ?_
  refine Ok.it (fun c => ?_) (fun c => ?_)
  · skip
    try simp only [ez8_5, decide_eq_true_eq] at c
    refine Ok.bv fun z10_7 ez10_7 => ?_
    have rz10_7 := (wI64 ez10_7).1
    try replace ez10_7 := (wI64 ez10_7).2 (by omega)
    exact hJ3 _ (by first | trivial | assumption | omega | (simp only; omega) | (simp only; assumption) | (simp; omega) | (simp; done))
  · skip
    try simp only [ez8_5, decide_eq_false_iff_not] at c
    exact hJ3 _ (by first | trivial | assumption | omega | (simp only; omega) | (simp only; assumption) | (simp; omega) | (simp; done))

theorem maths_gcd_tot {x0 : Int} {x1 : Int} (h1 : -9223372036854775808 ≤ x1 ∧ x1 ≤ 9223372036854775807) : Ok (maths_gcd x0 x1) (fun _ => True) := by
  unfold maths_gcd
  refine Ok.bv fun J2 eJ2 => ?_
  have hJ2 : ∀ s2 : Int, (True) → Ok (J2 s2) (fun _ => True) := by
    intro s2 hs2
    rw [eJ2]
    exact Ok.sm (by first | trivial | assumption | omega | (simp only; omega))
  clear eJ2
  refine Ok.bv fun B3 eB3 => ?_
  subst eB3
  refine Ok.lp (fun s3 : Int × Int => True) (fun s3 => s3.2.natAbs) (by first | trivial | omega | (simp only; omega) | (simp only; refine ⟨by omega, ?_⟩; first | assumption | omega) | (simp; omega) | (simp; done)) (by first | (simp only; omega) | (simp; omega) | (simp; done)) fun s3 hs3 nextn3 ihn3 => ?_
  refine Ok.bv fun z6_6 ez6_6 => ?_
  refine Ok.it (fun c => ?_) (fun c => ?_)
  · skip
    try simp only [ez6_6, decide_eq_true_eq, decide_eq_false_iff_not, Bool.or_eq_true, Bool.and_eq_true, Bool.or_eq_false_iff, Bool.and_eq_false_iff, Bool.not_eq_true', Bool.not_eq_false', Bool.not_eq_eq_eq_not, Bool.not_true, Bool.not_false, ne_eq, decide_not] at c
    refine Ok.ckf (by first | omega | decide | (simp; omega) | (simp; done)) fun k1 => ?_
    refine Ok.bv fun z10_10 ez10_10 => ?_
    have ht := tmod_nat s3.1 k1
    rw [← ez10_10] at ht
    exact ihn3 _ (by first | trivial | omega | (simp only; omega) | (simp only; refine ⟨by omega, ?_⟩; first | assumption | omega) | (simp; omega) | (simp; done)) (by first | (simp only; omega) | (simp; omega) | (simp; done))
  · skip
    try simp only [ez6_6, decide_eq_true_eq, decide_eq_false_iff_not, Bool.or_eq_true, Bool.and_eq_true, Bool.or_eq_false_iff, Bool.and_eq_false_iff, Bool.not_eq_true', Bool.not_eq_false', Bool.not_eq_eq_eq_not, Bool.not_true, Bool.not_false, ne_eq, decide_not] at c
    exact hJ2 _ (by first | trivial | assumption | omega | (simp only; omega) | (simp only; assumption) | (simp; omega) | (simp; done))

theorem maths_whole_tot {x0 : List (Int)} (hl : x0.length ≤ 1000) : Ok (maths_whole x0) (fun r => r.length = x0.length ∧ ∀ x ∈ r, -9223372036854775808 ≤ x ∧ x ≤ 9223372036854775807) := by
  unfold maths_whole
  refine Ok.bv fun J2 eJ2 => ?_
  have hJ2 : ∀ s2 : (List (Int)), (s2.length = x0.length ∧ ∀ x ∈ s2, -9223372036854775808 ≤ x ∧ x ≤ 9223372036854775807) → Ok (J2 s2) (fun r => r.length = x0.length ∧ ∀ x ∈ r, -9223372036854775808 ≤ x ∧ x ≤ 9223372036854775807) := by
    intro s2 hs2
    rw [eJ2]
    exact Ok.sm (by first | trivial | assumption | omega | (simp only; omega))
  clear eJ2
  refine Ok.bv fun B5 eB5 => ?_
  subst eB5
  refine Ok.lp (fun s5 : Int × (List (Int)) => (0 ≤ s5.1 ∧ s5.1 ≤ (x0.length : Int)) ∧ (s5.2.length : Int) = s5.1 ∧ ∀ x ∈ s5.2, -9223372036854775808 ≤ x ∧ x ≤ 9223372036854775807) (fun s5 => ((x0.length : Int) - s5.1).toNat) (by refine ⟨by simp only; omega, rfl, fun x hx => ?_⟩; cases hx) (by first | (simp only; omega) | (simp; omega) | (simp; done)) fun s5 hs5 nextn5 ihn5 => ?_
  refine Ok.bv fun z9_8 ez9_8 => ?_
  refine Ok.it (fun c => ?_) (fun c => ?_)
  · skip
    try simp only [ez9_8, decide_eq_true_eq] at c
    refine Ok.ckf (by first | omega | decide | (simp; omega) | (simp; done)) fun k1 => ?_
    refine Ok.bv fun z10_13 ez10_13 => ?_
    refine Ok.bv fun z14_14 ez14_14 => ?_
    try have qz14_14 := tdiv_nat z10_13 1000000
    have rz14_14 := (wI64 ez14_14).1
    try replace ez14_14 := (wI64 ez14_14).2 (by omega)
    refine Ok.ckf (by first | omega | decide | (simp; omega) | (simp; done)) fun k2 => ?_
    refine Ok.bv fun z16_18 ez16_18 => ?_
    refine Ok.bv fun z17_19 ez17_19 => ?_
    have rz17_19 := (wI64 ez17_19).1
    try replace ez17_19 := (wI64 ez17_19).2 (by omega)
    exact ihn5 _ (by refine ⟨by simp only; omega, by simp only [ez16_18, List.length_append, List.length_singleton]; omega, ?_⟩; simp only [ez16_18]; exact all_snoc hs5.2.2 rz14_14) (by first | (simp only; omega) | (simp; omega) | (simp; done))
  · skip
    try simp only [ez9_8, decide_eq_false_iff_not] at c
    exact hJ2 _ (by exact ⟨by omega, hs5.2.2⟩)

theorem maths_back_tot {x0 : Int}  : Ok (maths_back x0) (fun r => Rt r ∧ (r.k = 4 ∨ r.k = 1)) := by
  unfold maths_back
  refine Ok.ob (num_Of_tot) fun y4_2 ey4_2 hy4_2 => ?_
  refine Ok.ob (value_Made_tot (fun _ => hy4_2)) fun y7_3 ey7_3 hy7_3 => ?_
  exact Ok.sm (by first | exact hy7_3 | exact hy7_3.1 | first | trivial | assumption | omega | (simp only; omega))

theorem maths_away_tot {x0 : Int} {x1 : Bool}  : Ok (maths_away x0 x1) (fun r => Rt r ∧ (r.k = 4 ∨ r.k = 1)) := by
  unfold maths_away
  refine Ok.bv fun z8_2 ez8_2 => ?_
  try have qz8_2 := tdiv_nat x0 1000000
  have rz8_2 := (wI64 ez8_2).1
  try replace ez8_2 := (wI64 ez8_2).2 (by omega)
  refine Ok.bv fun J4 eJ4 => ?_
  have hJ4 : ∀ s4 : Int × Int, (True) → Ok (J4 s4) (fun r => Rt r ∧ (r.k = 4 ∨ r.k = 1)) := by
    intro s4 hs4
    rw [eJ4]
    refine Ok.bv fun J6 eJ6 => ?_
    have hJ6 : ∀ s6 : Int, (True) → Ok (J6 s6) (fun r => Rt r ∧ (r.k = 4 ∨ r.k = 1)) := by
      intro s6 hs6
      rw [eJ6]
      refine Ok.bv fun J8 eJ8 => ?_
      have hJ8 : ∀ s8 : Int, (True) → Ok (J8 s8) (fun r => Rt r ∧ (r.k = 4 ∨ r.k = 1)) := by
        intro s8 hs8
        rw [eJ8]
        refine Ok.bv fun z27_9 ez27_9 => ?_
        have rz27_9 := (wI64 ez27_9).1
        try replace ez27_9 := (wI64 ez27_9).2 (by omega)
        refine Ok.ob (maths_back_tot) fun y28_10 ey28_10 hy28_10 => ?_
        exact Ok.sm (by first | exact hy28_10 | exact hy28_10.1 | first | trivial | assumption | omega | (simp only; omega))
      clear eJ8
      refine Ok.bv fun z19_11 ez19_11 => ?_
      refine Ok.bv fun z20_12 ez20_12 => ?_
      refine Ok.bv fun z22_13 ez22_13 => ?_
      refine Ok.it (fun c => ?_) (fun c => ?_)
      · skip
        try simp only [ez22_13, ez20_12, decide_eq_true_eq, decide_eq_false_iff_not, Bool.or_eq_true, Bool.and_eq_true, Bool.or_eq_false_iff, Bool.and_eq_false_iff, Bool.not_eq_true', Bool.not_eq_false', Bool.not_eq_eq_eq_not, Bool.not_true, Bool.not_false, ne_eq, decide_not] at c
        refine Ok.bv fun z24_15 ez24_15 => ?_
        have rz24_15 := (wI64 ez24_15).1
        try replace ez24_15 := (wI64 ez24_15).2 (by omega)
        exact hJ8 _ (by first | trivial | assumption | omega | (simp only; omega) | (simp only; assumption) | (simp; omega) | (simp; done))
      · skip
        try simp only [ez22_13, ez20_12, decide_eq_true_eq, decide_eq_false_iff_not, Bool.or_eq_true, Bool.and_eq_true, Bool.or_eq_false_iff, Bool.and_eq_false_iff, Bool.not_eq_true', Bool.not_eq_false', Bool.not_eq_eq_eq_not, Bool.not_true, Bool.not_false, ne_eq, decide_not] at c
        exact hJ8 _ (by first | trivial | assumption | omega | (simp only; omega) | (simp only; assumption) | (simp; omega) | (simp; done))
    clear eJ6
    refine Ok.bv fun z14_16 ez14_16 => ?_
    refine Ok.bv fun z15_17 ez15_17 => ?_
    refine Ok.it (fun c => ?_) (fun c => ?_)
    · skip
      try simp only [ez15_17, decide_eq_true_eq, decide_eq_false_iff_not, Bool.or_eq_true, Bool.and_eq_true, Bool.or_eq_false_iff, Bool.and_eq_false_iff, Bool.not_eq_true', Bool.not_eq_false', Bool.not_eq_eq_eq_not, Bool.not_true, Bool.not_false, ne_eq, decide_not] at c
      refine Ok.bv fun z17_19 ez17_19 => ?_
      have rz17_19 := (wI64 ez17_19).1
      try replace ez17_19 := (wI64 ez17_19).2 (by omega)
      exact hJ6 _ (by first | trivial | assumption | omega | (simp only; omega) | (simp only; assumption) | (simp; omega) | (simp; done))
    · skip
      try simp only [ez15_17, decide_eq_true_eq, decide_eq_false_iff_not, Bool.or_eq_true, Bool.and_eq_true, Bool.or_eq_false_iff, Bool.and_eq_false_iff, Bool.not_eq_true', Bool.not_eq_false', Bool.not_eq_eq_eq_not, Bool.not_true, Bool.not_false, ne_eq, decide_not] at c
      exact hJ6 _ (by first | trivial | assumption | omega | (simp only; omega) | (simp only; assumption) | (simp; omega) | (simp; done))
  clear eJ4
  refine Ok.bv fun z10_20 ez10_20 => ?_
  refine Ok.it (fun c => ?_) (fun c => ?_)
  · skip
    try simp only [ez10_20, decide_eq_true_eq] at c
    refine Ok.bv fun z12_22 ez12_22 => ?_
    have rz12_22 := (wI64 ez12_22).1
    try replace ez12_22 := (wI64 ez12_22).2 (by omega)
    exact hJ4 _ (by first | trivial | assumption | omega | (simp only; omega) | (simp only; assumption) | (simp; omega) | (simp; done))
  · skip
    try simp only [ez10_20, decide_eq_false_iff_not] at c
    exact hJ4 _ (by first | trivial | assumption | omega | (simp only; omega) | (simp only; assumption) | (simp; omega) | (simp; done))

theorem maths_round_tot {x0 : Int} {x1 : Int} (h0 : -9223372036854775807 ≤ x0 ∧ x0 ≤ 9223372036854775807) (h1 : -6 ≤ x1 ∧ x1 ≤ 6) : Ok (maths_round x0 x1) (fun r => Rt r ∧ (r.k = 4 ∨ r.k = 1)) := by
  unfold maths_round
  refine Ok.bv fun J3 eJ3 => ?_
  have hJ3 : ∀ s3 : Int, (1 ≤ s3 ∧ s3 ≤ 1000000000000) → Ok (J3 s3) (fun r => Rt r ∧ (r.k = 4 ∨ r.k = 1)) := by
    intro s3 hs3
    rw [eJ3]
    refine Ok.ckf (by first | omega | decide | (simp; omega) | (simp; done)) fun k1 => ?_
    refine Ok.bv fun z17_5 ez17_5 => ?_
    try have qz17_5 := tdiv_nat x0 s3
    have rz17_5 := (wI64 ez17_5).1
    try replace ez17_5 := (wI64 ez17_5).2 (by omega)
    refine Ok.ckf (by first | omega | decide | (simp; omega) | (simp; done)) fun k2 => ?_
    refine Ok.bv fun z20_7 ez20_7 => ?_
    refine Ok.bv fun J9 eJ9 => ?_
    have hJ9 : ∀ s9 : Int, (True) → Ok (J9 s9) (fun r => Rt r ∧ (r.k = 4 ∨ r.k = 1)) := by
      intro s9 hs9
      rw [eJ9]
      refine Ok.bv fun J11 eJ11 => ?_
      have hJ11 : ∀ s11 : Int, (True) → Ok (J11 s11) (fun r => Rt r ∧ (r.k = 4 ∨ r.k = 1)) := by
        intro s11 hs11
        rw [eJ11]
        refine Ok.ckf (by first | omega | decide | (simp; omega) | (simp; done)) fun k3 => ?_
        refine Ok.bv fun z38_14 ez38_14 => ?_
        try have qz38_14 := tdiv_nat 9223372036854775807 s3
        have rz38_14 := (wI64 ez38_14).1
        try replace ez38_14 := (wI64 ez38_14).2 (by omega)
        refine Ok.bv fun z39_15 ez39_15 => ?_
        refine Ok.ckf (by first | (simp only [ez39_15, decide_eq_true_eq, decide_eq_false_iff_not, Bool.or_eq_true, Bool.and_eq_true, Bool.or_eq_false_iff, Bool.and_eq_false_iff, Bool.not_eq_true', Bool.not_eq_false', Bool.not_eq_eq_eq_not, Bool.not_true, Bool.not_false, ne_eq, decide_not]; omega) | (simp [ez39_15]; omega) | (simp [ez39_15]; done) | first | omega | decide | (simp; omega) | (simp; done)) fun k4 => ?_
        refine Ok.bv fun z43_17 ez43_17 => ?_
        try have qz43_17 := tdiv_nat (-9223372036854775807) s3
        have rz43_17 := (wI64 ez43_17).1
        try replace ez43_17 := (wI64 ez43_17).2 (by omega)
        refine Ok.bv fun z44_18 ez44_18 => ?_
        refine Ok.bv fun z45_19 ez45_19 => ?_
        refine Ok.it (fun c => ?_) (fun c => ?_)
        · skip
          try simp only [ez45_19, ez44_18, ez39_15, decide_eq_true_eq, decide_eq_false_iff_not, Bool.or_eq_true, Bool.and_eq_true, Bool.or_eq_false_iff, Bool.and_eq_false_iff, Bool.not_eq_true', Bool.not_eq_false', Bool.not_eq_eq_eq_not, Bool.not_true, Bool.not_false, ne_eq, decide_not] at c
          refine Ok.ob (value_Fail_tot (by first | trivial | assumption | omega | (simp only; omega) | (simp only; assumption) | (simp; omega) | (simp; done))) fun y46_21 ey46_21 hy46_21 => ?_
          exact Ok.sm (by first | exact hy46_21 | exact hy46_21.1 | first | trivial | assumption | omega | (simp only; omega))
        · skip
          try simp only [ez45_19, ez44_18, ez39_15, decide_eq_true_eq, decide_eq_false_iff_not, Bool.or_eq_true, Bool.and_eq_true, Bool.or_eq_false_iff, Bool.and_eq_false_iff, Bool.not_eq_true', Bool.not_eq_false', Bool.not_eq_eq_eq_not, Bool.not_true, Bool.not_false, ne_eq, decide_not] at c
          have hg := mul_guard (a := s11) hs3.1 (by rw [← ez38_14]; omega) (by rw [← ez43_17]; omega)
          refine Ok.bv fun z49_22 ez49_22 => ?_
          have rz49_22 := (wI64 ez49_22).1
          try replace ez49_22 := (wI64 ez49_22).2 (by omega)
          refine Ok.ob (value_Num_tot (by omega)) fun y50_23 ey50_23 hy50_23 => ?_
          exact Ok.sm (by first | exact hy50_23 | exact hy50_23.1 | first | trivial | assumption | omega | (simp only; omega))
      clear eJ11
      refine Ok.bv fun z28_24 ez28_24 => ?_
      have rz28_24 := (wI64 ez28_24).1
      try replace ez28_24 := (wI64 ez28_24).2 (by omega)
      refine Ok.bv fun z29_25 ez29_25 => ?_
      refine Ok.it (fun c => ?_) (fun c => ?_)
      · skip
        try simp only [ez29_25, decide_eq_true_eq] at c
        refine Ok.bv fun z31_27 ez31_27 => ?_
        refine Ok.it (fun c => ?_) (fun c => ?_)
        · skip
          try simp only [ez31_27, decide_eq_true_eq] at c
          refine Ok.bv fun z33_29 ez33_29 => ?_
          have rz33_29 := (wI64 ez33_29).1
          try replace ez33_29 := (wI64 ez33_29).2 (by omega)
          exact hJ11 _ (by first | trivial | assumption | omega | (simp only; omega) | (simp only; assumption) | (simp; omega) | (simp; done))
        · skip
          try simp only [ez31_27, decide_eq_false_iff_not] at c
          refine Ok.bv fun z35_30 ez35_30 => ?_
          have rz35_30 := (wI64 ez35_30).1
          try replace ez35_30 := (wI64 ez35_30).2 (by omega)
          exact hJ11 _ (by first | trivial | assumption | omega | (simp only; omega) | (simp only; assumption) | (simp; omega) | (simp; done))
      · skip
        try simp only [ez29_25, decide_eq_false_iff_not] at c
        exact hJ11 _ (by first | trivial | assumption | omega | (simp only; omega) | (simp only; assumption) | (simp; omega) | (simp; done))
    clear eJ9
    refine Ok.bv fun z22_31 ez22_31 => ?_
    refine Ok.it (fun c => ?_) (fun c => ?_)
    · skip
      try simp only [ez22_31, decide_eq_true_eq] at c
      refine Ok.bv fun z24_33 ez24_33 => ?_
      have rz24_33 := (wI64 ez24_33).1
      try replace ez24_33 := (wI64 ez24_33).2 (by omega)
      exact hJ9 _ (by first | trivial | assumption | omega | (simp only; omega) | (simp only; assumption) | (simp; omega) | (simp; done))
    · skip
      try simp only [ez22_31, decide_eq_false_iff_not] at c
      exact hJ9 _ (by first | trivial | assumption | omega | (simp only; omega) | (simp only; assumption) | (simp; omega) | (simp; done))
  clear eJ3
  refine Ok.bv fun z9_34 ez9_34 => ?_
  have rz9_34 := (wI64 ez9_34).1
  try replace ez9_34 := (wI64 ez9_34).2 (by omega)
  refine Ok.bv fun B36 eB36 => ?_
  subst eB36
  refine Ok.lp (fun s36 : Int × Int => ∃ k : Nat, s36.2 = (k : Int) ∧ k ≤ 12 ∧ s36.1 = ((10 ^ k : Nat) : Int) ∧ (k : Int) ≤ z9_34) (fun s36 => (z9_34 - s36.2).toNat) (by exact ⟨0, rfl, by decide, rfl, by omega⟩) (by first | (simp only; omega) | (simp; omega) | (simp; done)) fun s36 hs36 nextn36 ihn36 => ?_
  obtain ⟨k, hk1, hk2, hk3, hk4⟩ := hs36
  have hp : (10 ^ k : Nat) ≤ 1000000000000 := Nat.pow_le_pow_right (n := 10) (by decide) hk2
  have hp1 : 1 ≤ (10 ^ k : Nat) := Nat.pow_pos (by decide)
  refine Ok.bv fun z11_38 ez11_38 => ?_
  refine Ok.it (fun c => ?_) (fun c => ?_)
  · skip
    try simp only [ez11_38, decide_eq_true_eq] at c
    refine Ok.bv fun z13_42 ez13_42 => ?_
    have rz13_42 := (wI64 ez13_42).1
    try replace ez13_42 := (wI64 ez13_42).2 (by omega)
    refine Ok.bv fun z14_43 ez14_43 => ?_
    have rz14_43 := (wI64 ez14_43).1
    try replace ez14_43 := (wI64 ez14_43).2 (by omega)
    exact ihn36 _ (by refine ⟨k + 1, by simp only; omega, by omega, ?_, by omega⟩; simp only [ez13_42]; rw [Nat.pow_succ]; omega) (by first | (simp only; omega) | (simp; omega) | (simp; done))
  · skip
    try simp only [ez11_38, decide_eq_false_iff_not] at c
    exact hJ3 _ (by first | trivial | assumption | omega | (simp only; omega) | (simp only; assumption) | (simp; omega) | (simp; done))

theorem lists_numbers_tot {x0 : List (V)} (hl : x0.length ≤ 1000) (hx : ∀ x ∈ x0, Rt x) : Ok (lists_numbers x0) (fun r => r.length ≤ x0.length ∧ ∀ x ∈ r, -9223372036854775807 ≤ x ∧ x ≤ 9223372036854775807) := by
  unfold lists_numbers
  refine Ok.bv fun J2 eJ2 => ?_
  have hJ2 : ∀ s2 : (List (Int)), (s2.length ≤ x0.length ∧ ∀ x ∈ s2, -9223372036854775807 ≤ x ∧ x ≤ 9223372036854775807) → Ok (J2 s2) (fun r => r.length ≤ x0.length ∧ ∀ x ∈ r, -9223372036854775807 ≤ x ∧ x ≤ 9223372036854775807) := by
    intro s2 hs2
    rw [eJ2]
    exact Ok.sm (by first | trivial | assumption | omega | (simp only; omega))
  clear eJ2
  refine Ok.bv fun B5 eB5 => ?_
  subst eB5
  refine Ok.lp (fun s5 : Int × (List (Int)) => (0 ≤ s5.1 ∧ s5.1 ≤ (x0.length : Int)) ∧ (s5.2.length : Int) ≤ s5.1 ∧ ∀ x ∈ s5.2, -9223372036854775807 ≤ x ∧ x ≤ 9223372036854775807) (fun s5 => ((x0.length : Int) - s5.1).toNat) (by refine ⟨by simp only; omega, by simp, fun x hx => ?_⟩; cases hx) (by first | (simp only; omega) | (simp; omega) | (simp; done)) fun s5 hs5 nextn5 ihn5 => ?_
  refine Ok.bv fun z9_8 ez9_8 => ?_
  refine Ok.it (fun c => ?_) (fun c => ?_)
  · skip
    try simp only [ez9_8, decide_eq_true_eq] at c
    refine Ok.ckf (by first | omega | decide | (simp; omega) | (simp; done)) fun k1 => ?_
    refine Ok.bv fun z10_13 ez10_13 => ?_
    have hz := Rt.n (gelP hx ez10_13 (by omega))
    refine Ok.bv fun z14_15 ez14_15 => ?_
    refine Ok.it (fun c => ?_) (fun c => ?_)
    · skip
      try simp only [ez14_15, decide_eq_true_eq] at c
      refine Ok.ckf (by first | omega | decide | (simp; omega) | (simp; done)) fun k2 => ?_
      refine Ok.bv fun z19_20 ez19_20 => ?_
      refine Ok.bv fun z20_21 ez20_21 => ?_
      have rz20_21 := (wI64 ez20_21).1
      try replace ez20_21 := (wI64 ez20_21).2 (by omega)
      exact ihn5 _ (by refine ⟨by simp only; omega, by simp only [ez19_20, List.length_append, List.length_singleton]; omega, ?_⟩; simp only [ez19_20]; exact all_snoc hs5.2.2 hz) (by first | (simp only; omega) | (simp; omega) | (simp; done))
    · skip
      try simp only [ez14_15, decide_eq_false_iff_not] at c
      refine Ok.bv fun z20_22 ez20_22 => ?_
      have rz20_22 := (wI64 ez20_22).1
      try replace ez20_22 := (wI64 ez20_22).2 (by omega)
      exact ihn5 _ (by refine ⟨by simp only; omega, by simp only; omega, hs5.2.2⟩) (by first | (simp only; omega) | (simp; omega) | (simp; done))
  · skip
    try simp only [ez9_8, decide_eq_false_iff_not] at c
    exact hJ2 _ (by exact ⟨by omega, hs5.2.2⟩)

theorem lists_Sum_tot {x0 : List (V)} (hl : x0.length ≤ 1000) (hx : ∀ x ∈ x0, Rt x) : Ok (lists_Sum x0) (fun r => Rt r ∧ (r.k = 4 ∨ r.k = 1)) := by
  unfold lists_Sum
  refine Ok.bv fun J3 eJ3 => ?_
  have hJ3 : ∀ s3 : Int × Bool, (s3.2 = true → -9223372036854775807 ≤ s3.1 ∧ s3.1 ≤ 9223372036854775807) → Ok (J3 s3) (fun r => Rt r ∧ (r.k = 4 ∨ r.k = 1)) := by
    intro s3 hs3
    rw [eJ3]
    refine Ok.ob (value_Made_tot hs3) fun y24_4 ey24_4 hy24_4 => ?_
    exact Ok.sm (by first | exact hy24_4 | exact hy24_4.1 | first | trivial | assumption | omega | (simp only; omega))
  clear eJ3
  refine Ok.ob (lists_numbers_tot (by first | trivial | assumption | omega | (simp only; omega) | (simp only; assumption) | (simp; omega) | (simp; done)) (by first | trivial | assumption | omega | (simp only; omega) | (simp only; assumption) | (simp; omega) | (simp; done))) fun y8_5 ey8_5 hy8_5 => ?_
  obtain ⟨hyl, hyy⟩ := hy8_5
  refine Ok.bv fun B8 eB8 => ?_
  subst eB8
  refine Ok.lp (fun s8 : Int × Bool × Int => (0 ≤ s8.2.2 ∧ s8.2.2 ≤ (y8_5.length : Int)) ∧ (s8.2.1 = true → -9223372036854775807 ≤ s8.1 ∧ s8.1 ≤ 9223372036854775807)) (fun s8 => ((y8_5.length : Int) - s8.2.2).toNat) (by exact ⟨by simp only; omega, fun _ => ⟨by decide, by decide⟩⟩) (by first | (simp only; omega) | (simp; omega) | (simp; done)) fun s8 hs8 nextn8 ihn8 => ?_
  refine Ok.bv fun z11_10 ez11_10 => ?_
  refine Ok.it (fun c => ?_) (fun c => ?_)
  · skip
    try simp only [ez11_10, decide_eq_true_eq] at c
    refine Ok.ckf (by first | omega | decide | (simp; omega) | (simp; done)) fun k1 => ?_
    refine Ok.bv fun z12_15 ez12_15 => ?_
    refine Ok.it (fun c => ?_) (fun c => ?_)
    · skip
      refine Ok.ob (num_Add_tot _ _) fun y18_17 ey18_17 hy18_17 => ?_
      refine Ok.bv fun z21_18 ez21_18 => ?_
      have rz21_18 := (wI64 ez21_18).1
      try replace ez21_18 := (wI64 ez21_18).2 (by omega)
      exact ihn8 _ (by exact ⟨by simp only; omega, hy18_17⟩) (by first | (simp only; omega) | (simp; omega) | (simp; done))
    · skip
      refine Ok.bv fun z21_19 ez21_19 => ?_
      have rz21_19 := (wI64 ez21_19).1
      try replace ez21_19 := (wI64 ez21_19).2 (by omega)
      exact ihn8 _ (by exact ⟨by simp only; omega, hs8.2⟩) (by first | (simp only; omega) | (simp; omega) | (simp; done))
  · skip
    try simp only [ez11_10, decide_eq_false_iff_not] at c
    exact hJ3 _ (by exact hs8.2)

theorem lists_Extreme_tot {x0 : Bool} {x1 : List (V)} (hl : x1.length ≤ 1000) (hx : ∀ x ∈ x1, Rt x) : Ok (lists_Extreme x0 x1) (fun r => Rt r ∧ (r.k = 4 ∨ r.k = 1)) := by
  unfold lists_Extreme
  refine Ok.ob (lists_numbers_tot (by first | trivial | assumption | omega | (simp only; omega) | (simp only; assumption) | (simp; omega) | (simp; done)) (by first | trivial | assumption | omega | (simp only; omega) | (simp only; assumption) | (simp; omega) | (simp; done))) fun y10_2 ey10_2 hy10_2 => ?_
  obtain ⟨hyl, hyy⟩ := hy10_2
  refine Ok.bv fun z13_5 ez13_5 => ?_
  refine Ok.it (fun c => ?_) (fun c => ?_)
  · skip
    try simp only [ez13_5, decide_eq_true_eq] at c
    refine Ok.ob (value_Num_tot (by first | trivial | assumption | omega | (simp only; omega) | (simp only; assumption) | (simp; omega) | (simp; done))) fun y14_7 ey14_7 hy14_7 => ?_
    exact Ok.sm (by first | exact hy14_7 | exact hy14_7.1 | first | trivial | assumption | omega | (simp only; omega))
  · skip
    try simp only [ez13_5, decide_eq_false_iff_not] at c
    refine Ok.ckf (by first | omega | decide | (simp; omega) | (simp; done)) fun k1 => ?_
    refine Ok.bv fun z16_9 ez16_9 => ?_
    have hz := gelP hyy ez16_9 (by omega)
    refine Ok.bv fun J11 eJ11 => ?_
    have hJ11 : ∀ s11 : Int, (-9223372036854775807 ≤ s11 ∧ s11 ≤ 9223372036854775807) → Ok (J11 s11) (fun r => Rt r ∧ (r.k = 4 ∨ r.k = 1)) := by
      intro s11 hs11
      rw [eJ11]
      refine Ok.ob (value_Num_tot (by first | trivial | assumption | omega | (simp only; omega) | (simp only; assumption) | (simp; omega) | (simp; done))) fun y37_12 ey37_12 hy37_12 => ?_
      exact Ok.sm (by first | exact hy37_12 | exact hy37_12.1 | first | trivial | assumption | omega | (simp only; omega))
    clear eJ11
    refine Ok.bv fun B14 eB14 => ?_
    subst eB14
    refine Ok.lp (fun s14 : Int × Int => (0 ≤ s14.2 ∧ s14.2 ≤ (y10_2.length : Int)) ∧ (-9223372036854775807 ≤ s14.1 ∧ s14.1 ≤ 9223372036854775807)) (fun s14 => ((y10_2.length : Int) - s14.2).toNat) (by first | trivial | omega | (simp only; omega) | (simp only; refine ⟨by omega, ?_⟩; first | assumption | omega) | (simp; omega) | (simp; done)) (by first | (simp only; omega) | (simp; omega) | (simp; done)) fun s14 hs14 nextn14 ihn14 => ?_
    refine Ok.bv fun z21_16 ez21_16 => ?_
    refine Ok.it (fun c => ?_) (fun c => ?_)
    · skip
      try simp only [ez21_16, decide_eq_true_eq] at c
      refine Ok.ckf (by first | omega | decide | (simp; omega) | (simp; done)) fun k2 => ?_
      refine Ok.bv fun z22_21 ez22_21 => ?_
      have hz2 := gelP hyy ez22_21 (by omega)
      refine Ok.bv fun z26_22 ez26_22 => ?_
      refine Ok.bv fun z28_23 ez28_23 => ?_
      refine Ok.bv fun z32_24 ez32_24 => ?_
      refine Ok.bv fun z33_25 ez33_25 => ?_
      refine Ok.it (fun c => ?_) (fun c => ?_)
      · skip
        try simp only [ez33_25, ez32_24, ez28_23, ez26_22, decide_eq_true_eq, decide_eq_false_iff_not, Bool.or_eq_true, Bool.and_eq_true, Bool.or_eq_false_iff, Bool.and_eq_false_iff, Bool.not_eq_true', Bool.not_eq_false', Bool.not_eq_eq_eq_not, Bool.not_true, Bool.not_false, ne_eq, decide_not] at c
        refine Ok.bv fun z35_27 ez35_27 => ?_
        have rz35_27 := (wI64 ez35_27).1
        try replace ez35_27 := (wI64 ez35_27).2 (by omega)
        exact ihn14 _ (by first | trivial | omega | (simp only; omega) | (simp only; refine ⟨by omega, ?_⟩; first | assumption | omega) | (simp; omega) | (simp; done)) (by first | (simp only; omega) | (simp; omega) | (simp; done))
      · skip
        try simp only [ez33_25, ez32_24, ez28_23, ez26_22, decide_eq_true_eq, decide_eq_false_iff_not, Bool.or_eq_true, Bool.and_eq_true, Bool.or_eq_false_iff, Bool.and_eq_false_iff, Bool.not_eq_true', Bool.not_eq_false', Bool.not_eq_eq_eq_not, Bool.not_true, Bool.not_false, ne_eq, decide_not] at c
        refine Ok.bv fun z35_28 ez35_28 => ?_
        have rz35_28 := (wI64 ez35_28).1
        try replace ez35_28 := (wI64 ez35_28).2 (by omega)
        exact ihn14 _ (by first | trivial | omega | (simp only; omega) | (simp only; refine ⟨by omega, ?_⟩; first | assumption | omega) | (simp; omega) | (simp; done)) (by first | (simp only; omega) | (simp; omega) | (simp; done))
    · skip
      try simp only [ez21_16, decide_eq_false_iff_not] at c
      exact hJ11 _ (by first | trivial | assumption | omega | (simp only; omega) | (simp only; assumption) | (simp; omega) | (simp; done))

theorem lists_equal_tot {x0 : V} {x1 : V}  : Ok (lists_equal x0 x1) (fun _ => True) := by
  unfold lists_equal
  refine Ok.bv fun z9_3 ez9_3 => ?_
  refine Ok.bv fun z15_4 ez15_4 => ?_
  refine Ok.bv fun z16_5 ez16_5 => ?_
  refine Ok.bv fun z22_6 ez22_6 => ?_
  refine Ok.bv fun z23_7 ez23_7 => ?_
  exact Ok.sm (by first | trivial | assumption | omega | (simp only; omega))

theorem lists_Count_tot {x0 : Int} {x1 : Bool} {x2 : List (V)} (hl : x2.length ≤ 1000) : Ok (lists_Count x0 x1 x2) (fun r => Rt r ∧ (r.k = 4 ∨ r.k = 1)) := by
  unfold lists_Count
  refine Ok.bv fun J3 eJ3 => ?_
  have hJ3 : ∀ s3 : Int, (True) → Ok (J3 s3) (fun r => Rt r ∧ (r.k = 4 ∨ r.k = 1)) := by
    intro s3 hs3
    rw [eJ3]
    refine Ok.ob (num_Of_tot) fun y26_4 ey26_4 hy26_4 => ?_
    refine Ok.ob (value_Made_tot (fun _ => hy26_4)) fun y29_5 ey29_5 hy29_5 => ?_
    exact Ok.sm (by first | exact hy29_5 | exact hy29_5.1 | first | trivial | assumption | omega | (simp only; omega))
  clear eJ3
  refine Ok.bv fun B7 eB7 => ?_
  subst eB7
  refine Ok.lp (fun s7 : Int × Int => (0 ≤ s7.2 ∧ s7.2 ≤ (x2.length : Int))) (fun s7 => ((x2.length : Int) - s7.2).toNat) (by first | trivial | omega | (simp only; omega) | (simp only; refine ⟨by omega, ?_⟩; first | assumption | omega) | (simp; omega) | (simp; done)) (by first | (simp only; omega) | (simp; omega) | (simp; done)) fun s7 hs7 nextn7 ihn7 => ?_
  refine Ok.bv fun z13_9 ez13_9 => ?_
  refine Ok.it (fun c => ?_) (fun c => ?_)
  · skip
    try simp only [ez13_9, decide_eq_true_eq] at c
    refine Ok.ckf (by first | omega | decide | (simp; omega) | (simp; done)) fun k1 => ?_
    refine Ok.bv fun z14_14 ez14_14 => ?_
    refine Ok.bv fun z19_16 ez19_16 => ?_
    refine Ok.bv fun z21_17 ez21_17 => ?_
    refine Ok.it (fun c => ?_) (fun c => ?_)
    · skip
      try simp only [ez21_17, ez19_16, decide_eq_true_eq, decide_eq_false_iff_not, Bool.or_eq_true, Bool.and_eq_true, Bool.or_eq_false_iff, Bool.and_eq_false_iff, Bool.not_eq_true', Bool.not_eq_false', Bool.not_eq_eq_eq_not, Bool.not_true, Bool.not_false, ne_eq, decide_not] at c
      refine Ok.bv fun z23_19 ez23_19 => ?_
      have rz23_19 := (wI64 ez23_19).1
      try replace ez23_19 := (wI64 ez23_19).2 (by omega)
      refine Ok.bv fun z24_20 ez24_20 => ?_
      have rz24_20 := (wI64 ez24_20).1
      try replace ez24_20 := (wI64 ez24_20).2 (by omega)
      exact ihn7 _ (by first | trivial | omega | (simp only; omega) | (simp only; refine ⟨by omega, ?_⟩; first | assumption | omega) | (simp; omega) | (simp; done)) (by first | (simp only; omega) | (simp; omega) | (simp; done))
    · skip
      try simp only [ez21_17, ez19_16, decide_eq_true_eq, decide_eq_false_iff_not, Bool.or_eq_true, Bool.and_eq_true, Bool.or_eq_false_iff, Bool.and_eq_false_iff, Bool.not_eq_true', Bool.not_eq_false', Bool.not_eq_eq_eq_not, Bool.not_true, Bool.not_false, ne_eq, decide_not] at c
      refine Ok.bv fun z24_21 ez24_21 => ?_
      have rz24_21 := (wI64 ez24_21).1
      try replace ez24_21 := (wI64 ez24_21).2 (by omega)
      exact ihn7 _ (by first | trivial | omega | (simp only; omega) | (simp only; refine ⟨by omega, ?_⟩; first | assumption | omega) | (simp; omega) | (simp; done)) (by first | (simp only; omega) | (simp; omega) | (simp; done))
  · skip
    try simp only [ez13_9, decide_eq_false_iff_not] at c
    exact hJ3 _ (by first | trivial | assumption | omega | (simp only; omega) | (simp only; assumption) | (simp; omega) | (simp; done))

theorem lists_CountIf_tot {x0 : V} {x1 : List (V)} (hl : x1.length ≤ 1000) : Ok (lists_CountIf x0 x1) (fun r => Rt r ∧ (r.k = 4 ∨ r.k = 1)) := by
  unfold lists_CountIf
  refine Ok.bv fun J4 eJ4 => ?_
  have hJ4 : ∀ s4 : Int, (True) → Ok (J4 s4) (fun r => Rt r ∧ (r.k = 4 ∨ r.k = 1)) := by
    intro s4 hs4
    rw [eJ4]
    refine Ok.ob (num_Of_tot) fun y21_5 ey21_5 hy21_5 => ?_
    refine Ok.ob (value_Made_tot (fun _ => hy21_5)) fun y24_6 ey24_6 hy24_6 => ?_
    exact Ok.sm (by first | exact hy24_6 | exact hy24_6.1 | first | trivial | assumption | omega | (simp only; omega))
  clear eJ4
  refine Ok.bv fun B8 eB8 => ?_
  subst eB8
  refine Ok.lp (fun s8 : Int × Int => (0 ≤ s8.2 ∧ s8.2 ≤ (x1.length : Int))) (fun s8 => ((x1.length : Int) - s8.2).toNat) (by first | trivial | omega | (simp only; omega) | (simp only; refine ⟨by omega, ?_⟩; first | assumption | omega) | (simp; omega) | (simp; done)) (by first | (simp only; omega) | (simp; omega) | (simp; done)) fun s8 hs8 nextn8 ihn8 => ?_
  refine Ok.bv fun z11_10 ez11_10 => ?_
  refine Ok.it (fun c => ?_) (fun c => ?_)
  · skip
    try simp only [ez11_10, decide_eq_true_eq] at c
    refine Ok.ckf (by first | omega | decide | (simp; omega) | (simp; done)) fun k1 => ?_
    refine Ok.bv fun z12_15 ez12_15 => ?_
    refine Ok.ob (lists_equal_tot) fun y16_17 ey16_17 hy16_17 => ?_
    refine Ok.it (fun c => ?_) (fun c => ?_)
    · skip
      refine Ok.bv fun z18_19 ez18_19 => ?_
      have rz18_19 := (wI64 ez18_19).1
      try replace ez18_19 := (wI64 ez18_19).2 (by omega)
      refine Ok.bv fun z19_20 ez19_20 => ?_
      have rz19_20 := (wI64 ez19_20).1
      try replace ez19_20 := (wI64 ez19_20).2 (by omega)
      exact ihn8 _ (by first | trivial | omega | (simp only; omega) | (simp only; refine ⟨by omega, ?_⟩; first | assumption | omega) | (simp; omega) | (simp; done)) (by first | (simp only; omega) | (simp; omega) | (simp; done))
    · skip
      refine Ok.bv fun z19_21 ez19_21 => ?_
      have rz19_21 := (wI64 ez19_21).1
      try replace ez19_21 := (wI64 ez19_21).2 (by omega)
      exact ihn8 _ (by first | trivial | omega | (simp only; omega) | (simp only; refine ⟨by omega, ?_⟩; first | assumption | omega) | (simp; omega) | (simp; done)) (by first | (simp only; omega) | (simp; omega) | (simp; done))
  · skip
    try simp only [ez11_10, decide_eq_false_iff_not] at c
    exact hJ4 _ (by first | trivial | assumption | omega | (simp only; omega) | (simp only; assumption) | (simp; omega) | (simp; done))

theorem lists_SumIf_tot {x0 : V} {x1 : List (V)} (hl : x1.length ≤ 1000) (hx : ∀ x ∈ x1, Rt x) : Ok (lists_SumIf x0 x1) (fun r => Rt r ∧ (r.k = 4 ∨ r.k = 1)) := by
  unfold lists_SumIf
  refine Ok.bv fun J4 eJ4 => ?_
  have hJ4 : ∀ s4 : (List (V)), (s4.length ≤ 1000 ∧ ∀ x ∈ s4, Rt x) → Ok (J4 s4) (fun r => Rt r ∧ (r.k = 4 ∨ r.k = 1)) := by
    intro s4 hs4
    rw [eJ4]
    refine Ok.ob (lists_Sum_tot hs4.1 hs4.2) fun y23_6 ey23_6 hy23_6 => ?_
    exact Ok.sm (by first | exact hy23_6 | exact hy23_6.1 | first | trivial | assumption | omega | (simp only; omega))
  clear eJ4
  refine Ok.bv fun B8 eB8 => ?_
  subst eB8
  refine Ok.lp (fun s8 : Int × (List (V)) => (0 ≤ s8.1 ∧ s8.1 ≤ (x1.length : Int)) ∧ (s8.2.length : Int) ≤ s8.1 ∧ ∀ x ∈ s8.2, Rt x) (fun s8 => ((x1.length : Int) - s8.1).toNat) (by refine ⟨by simp only; omega, by simp, fun x hx => ?_⟩; cases hx) (by first | (simp only; omega) | (simp; omega) | (simp; done)) fun s8 hs8 nextn8 ihn8 => ?_
  refine Ok.bv fun z11_11 ez11_11 => ?_
  refine Ok.it (fun c => ?_) (fun c => ?_)
  · skip
    try simp only [ez11_11, decide_eq_true_eq] at c
    refine Ok.ckf (by first | omega | decide | (simp; omega) | (simp; done)) fun k1 => ?_
    refine Ok.bv fun z12_16 ez12_16 => ?_
    have hz := gelP hx ez12_16 (by omega)
    refine Ok.ob (lists_equal_tot) fun y16_18 ey16_18 hy16_18 => ?_
    refine Ok.it (fun c => ?_) (fun c => ?_)
    · skip
      refine Ok.ckf (by first | omega | decide | (simp; omega) | (simp; done)) fun k2 => ?_
      refine Ok.bv fun z20_23 ez20_23 => ?_
      refine Ok.bv fun z21_24 ez21_24 => ?_
      have rz21_24 := (wI64 ez21_24).1
      try replace ez21_24 := (wI64 ez21_24).2 (by omega)
      exact ihn8 _ (by refine ⟨by simp only; omega, by simp only [ez20_23, List.length_append, List.length_singleton]; omega, ?_⟩; simp only [ez20_23]; exact all_snoc hs8.2.2 hz) (by first | (simp only; omega) | (simp; omega) | (simp; done))
    · skip
      refine Ok.bv fun z21_25 ez21_25 => ?_
      have rz21_25 := (wI64 ez21_25).1
      try replace ez21_25 := (wI64 ez21_25).2 (by omega)
      exact ihn8 _ (by refine ⟨by simp only; omega, by simp only; omega, hs8.2.2⟩) (by first | (simp only; omega) | (simp; omega) | (simp; done))
  · skip
    try simp only [ez11_11, decide_eq_false_iff_not] at c
    exact hJ4 _ (by exact ⟨by omega, hs8.2.2⟩)

theorem lists_Match_tot {x0 : V} {x1 : List (V)} (hl : x1.length ≤ 1000) : Ok (lists_Match x0 x1) (fun r => Rt r ∧ (r.k = 4 ∨ r.k = 1)) := by
  unfold lists_Match
  refine Ok.bv fun J4 eJ4 => ?_
  have hJ4 : ∀ s4 : Int × Int × (List UInt8), (True) → Ok (J4 s4) (fun r => Rt r ∧ (r.k = 4 ∨ r.k = 1)) := by
    intro s4 hs4
    rw [eJ4]
    refine Ok.ob (value_Fail_tot (by first | trivial | assumption | omega | (simp only; omega) | (simp only; assumption) | (simp; omega) | (simp; done))) fun y24_5 ey24_5 hy24_5 => ?_
    exact Ok.sm (by first | exact hy24_5 | exact hy24_5.1 | first | trivial | assumption | omega | (simp only; omega))
  clear eJ4
  refine Ok.bv fun B7 eB7 => ?_
  subst eB7
  refine Ok.lp (fun s7 : Int × Int × Int × (List UInt8) => (0 ≤ s7.1 ∧ s7.1 ≤ (x1.length : Int))) (fun s7 => ((x1.length : Int) - s7.1).toNat) (by first | trivial | omega | (simp only; omega) | (simp only; refine ⟨by omega, ?_⟩; first | assumption | omega) | (simp; omega) | (simp; done)) (by first | (simp only; omega) | (simp; omega) | (simp; done)) fun s7 hs7 nextn7 ihn7 => ?_
  refine Ok.bv fun z10_9 ez10_9 => ?_
  refine Ok.it (fun c => ?_) (fun c => ?_)
  · skip
    try simp only [ez10_9, decide_eq_true_eq] at c
    refine Ok.ckf (by first | omega | decide | (simp; omega) | (simp; done)) fun k1 => ?_
    refine Ok.bv fun z12_14 ez12_14 => ?_
    refine Ok.ob (lists_equal_tot) fun y16_16 ey16_16 hy16_16 => ?_
    refine Ok.it (fun c => ?_) (fun c => ?_)
    · skip
      refine Ok.bv fun z18_18 ez18_18 => ?_
      have rz18_18 := (wI64 ez18_18).1
      try replace ez18_18 := (wI64 ez18_18).2 (by omega)
      refine Ok.ob (num_Of_tot) fun y19_19 ey19_19 hy19_19 => ?_
      refine Ok.ob (value_Made_tot (fun _ => hy19_19)) fun y22_20 ey22_20 hy22_20 => ?_
      exact Ok.sm (by first | exact hy22_20 | exact hy22_20.1 | first | trivial | assumption | omega | (simp only; omega))
    · skip
      refine Ok.bv fun z23_21 ez23_21 => ?_
      have rz23_21 := (wI64 ez23_21).1
      try replace ez23_21 := (wI64 ez23_21).2 (by omega)
      exact ihn7 _ (by first | trivial | omega | (simp only; omega) | (simp only; refine ⟨by omega, ?_⟩; first | assumption | omega) | (simp; omega) | (simp; done)) (by first | (simp only; omega) | (simp; omega) | (simp; done))
  · skip
    try simp only [ez10_9, decide_eq_false_iff_not] at c
    exact hJ4 _ (by first | trivial | assumption | omega | (simp only; omega) | (simp only; assumption) | (simp; omega) | (simp; done))

theorem maths_power_tot {x0 : Int} {x1 : Int} (h0 : -9223372036854775808 ≤ x0 ∧ x0 ≤ 9223372036854775807) (h1 : x1 ≤ 64) : Ok (maths_power x0 x1) (fun r => Rt r ∧ (r.k = 4 ∨ r.k = 1)) := by
  unfold maths_power
  refine Ok.ob (num_Of_tot) fun y8_2 ey8_2 hy8_2 => ?_
  refine Ok.bv fun J4 eJ4 => ?_
  have hJ4 : ∀ s4 : Int × Bool, (-9223372036854775807 ≤ s4.1 ∧ s4.1 ≤ 9223372036854775807) → Ok (J4 s4) (fun r => Rt r ∧ (r.k = 4 ∨ r.k = 1)) := by
    intro s4 hs4
    rw [eJ4]
    refine Ok.ob (value_Made_tot (fun _ => hs4)) fun y24_5 ey24_5 hy24_5 => ?_
    exact Ok.sm (by first | exact hy24_5 | exact hy24_5.1 | first | trivial | assumption | omega | (simp only; omega))
  clear eJ4
  refine Ok.bv fun B7 eB7 => ?_
  subst eB7
  refine Ok.lp (fun s7 : Int × Bool × Int => (0 ≤ s7.2.2) ∧ -9223372036854775807 ≤ s7.1 ∧ s7.1 ≤ 9223372036854775807) (fun s7 => (x1 - s7.2.2).toNat) (by first | trivial | omega | (simp only; omega) | (simp only; refine ⟨by omega, ?_⟩; first | assumption | omega) | (simp; omega) | (simp; done)) (by first | (simp only; omega) | (simp; omega) | (simp; done)) fun s7 hs7 nextn7 ihn7 => ?_
  refine Ok.bv fun z13_9 ez13_9 => ?_
  refine Ok.it (fun c => ?_) (fun c => ?_)
  · skip
    try simp only [ez13_9, decide_eq_true_eq] at c
    refine Ok.it (fun c => ?_) (fun c => ?_)
    · skip
      refine Ok.ob (num_Mul_tot (by omega) (by omega)) fun y18_14 ey18_14 hy18_14 => ?_
      refine Ok.bv fun z21_15 ez21_15 => ?_
      have rz21_15 := (wI64 ez21_15).1
      try replace ez21_15 := (wI64 ez21_15).2 (by omega)
      exact ihn7 _ (by first | trivial | omega | (simp only; omega) | (simp only; refine ⟨by omega, ?_⟩; first | assumption | omega) | (simp; omega) | (simp; done)) (by first | (simp only; omega) | (simp; omega) | (simp; done))
    · skip
      refine Ok.bv fun z21_16 ez21_16 => ?_
      have rz21_16 := (wI64 ez21_16).1
      try replace ez21_16 := (wI64 ez21_16).2 (by omega)
      exact ihn7 _ (by first | trivial | omega | (simp only; omega) | (simp only; refine ⟨by omega, ?_⟩; first | assumption | omega) | (simp; omega) | (simp; done)) (by first | (simp only; omega) | (simp; omega) | (simp; done))
  · skip
    try simp only [ez13_9, decide_eq_false_iff_not] at c
    exact hJ4 _ (by first | trivial | assumption | omega | (simp only; omega) | (simp only; assumption) | (simp; omega) | (simp; done))

theorem lists_Product_tot {x0 : List (V)} (hl : x0.length ≤ 1000) (hx : ∀ x ∈ x0, Rt x) : Ok (lists_Product x0) (fun r => Rt r ∧ (r.k = 4 ∨ r.k = 1)) := by
  unfold lists_Product
  refine Ok.ob (lists_numbers_tot (by first | trivial | assumption | omega | (simp only; omega) | (simp only; assumption) | (simp; omega) | (simp; done)) (by first | trivial | assumption | omega | (simp only; omega) | (simp only; assumption) | (simp; omega) | (simp; done))) fun y9_2 ey9_2 hy9_2 => ?_
  obtain ⟨hyl, hyy⟩ := hy9_2
  refine Ok.bv fun z12_5 ez12_5 => ?_
  refine Ok.it (fun c => ?_) (fun c => ?_)
  · skip
    try simp only [ez12_5, decide_eq_true_eq] at c
    refine Ok.ob (value_Num_tot (by first | trivial | assumption | omega | (simp only; omega) | (simp only; assumption) | (simp; omega) | (simp; done))) fun y13_7 ey13_7 hy13_7 => ?_
    exact Ok.sm (by first | exact hy13_7 | exact hy13_7.1 | first | trivial | assumption | omega | (simp only; omega))
  · skip
    try simp only [ez12_5, decide_eq_false_iff_not] at c
    refine Ok.ckf (by first | omega | decide | (simp; omega) | (simp; done)) fun k1 => ?_
    refine Ok.bv fun z15_9 ez15_9 => ?_
    have gz15_9 := gelP hyy ez15_9 (by omega)
    have hz := gelP hyy ez15_9 (by omega)
    refine Ok.bv fun J11 eJ11 => ?_
    have hJ11 : ∀ s11 : Int × Bool, (-9223372036854775807 ≤ s11.1 ∧ s11.1 ≤ 9223372036854775807) → Ok (J11 s11) (fun r => Rt r ∧ (r.k = 4 ∨ r.k = 1)) := by
      intro s11 hs11
      rw [eJ11]
      refine Ok.ob (value_Made_tot (fun _ => hs11)) fun y34_12 ey34_12 hy34_12 => ?_
      exact Ok.sm (by first | exact hy34_12 | exact hy34_12.1 | first | trivial | assumption | omega | (simp only; omega))
    clear eJ11
    refine Ok.ckf (by first | omega | decide | (simp; omega) | (simp; done)) fun k2 => ?_
    refine Ok.bv fun z18_14 ez18_14 => ?_
    have lz18_14 := cutL_len y9_2 (1 : Int) (y9_2.length : Int) (by omega)
    rw [← ez18_14] at lz18_14
    have az18_14 := all_cut hyy (1 : Int) (y9_2.length : Int)
    rw [← ez18_14] at az18_14
    refine Ok.bv fun B17 eB17 => ?_
    subst eB17
    refine Ok.lp (fun s17 : Int × Bool × Int => (0 ≤ s17.2.2 ∧ s17.2.2 ≤ (z18_14.length : Int)) ∧ (-9223372036854775807 ≤ s17.1 ∧ s17.1 ≤ 9223372036854775807)) (fun s17 => ((z18_14.length : Int) - s17.2.2).toNat) (by first | trivial | omega | (simp only; omega) | (simp only; refine ⟨by omega, ?_⟩; first | assumption | omega) | (simp; omega) | (simp; done)) (by first | (simp only; omega) | (simp; omega) | (simp; done)) fun s17 hs17 nextn17 ihn17 => ?_
    refine Ok.bv fun z21_19 ez21_19 => ?_
    refine Ok.it (fun c => ?_) (fun c => ?_)
    · skip
      try simp only [ez21_19, decide_eq_true_eq] at c
      refine Ok.ckf (by first | omega | decide | (simp; omega) | (simp; done)) fun k3 => ?_
      refine Ok.bv fun z22_24 ez22_24 => ?_
      have hz2 := gelP az18_14 ez22_24 (by omega)
      refine Ok.it (fun c => ?_) (fun c => ?_)
      · skip
        refine Ok.ob (num_Mul_tot (by omega) (by omega)) fun y28_26 ey28_26 hy28_26 => ?_
        refine Ok.bv fun z31_27 ez31_27 => ?_
        have rz31_27 := (wI64 ez31_27).1
        try replace ez31_27 := (wI64 ez31_27).2 (by omega)
        exact ihn17 _ (by first | trivial | omega | (simp only; omega) | (simp only; refine ⟨by omega, ?_⟩; first | assumption | omega) | (simp; omega) | (simp; done)) (by first | (simp only; omega) | (simp; omega) | (simp; done))
      · skip
        refine Ok.bv fun z31_28 ez31_28 => ?_
        have rz31_28 := (wI64 ez31_28).1
        try replace ez31_28 := (wI64 ez31_28).2 (by omega)
        exact ihn17 _ (by first | trivial | omega | (simp only; omega) | (simp only; refine ⟨by omega, ?_⟩; first | assumption | omega) | (simp; omega) | (simp; done)) (by first | (simp only; omega) | (simp; omega) | (simp; done))
    · skip
      try simp only [ez21_19, decide_eq_false_iff_not] at c
      exact hJ11 _ (by first | trivial | assumption | omega | (simp only; omega) | (simp only; assumption) | (simp; omega) | (simp; done))

theorem lists_Average_tot {x0 : List (V)} (hl : x0.length ≤ 1000) (hx : ∀ x ∈ x0, Rt x) : Ok (lists_Average x0) (fun r => Rt r ∧ (r.k = 4 ∨ r.k = 1)) := by
  unfold lists_Average
  refine Ok.ob (lists_Sum_tot (by first | trivial | assumption | omega | (simp only; omega) | (simp only; assumption) | (simp; omega) | (simp; done)) (by first | trivial | assumption | omega | (simp only; omega) | (simp only; assumption) | (simp; omega) | (simp; done))) fun y6_2 ey6_2 hy6_2 => ?_
  have hn := hy6_2.1.n
  refine Ok.ob (lists_numbers_tot (by first | trivial | assumption | omega | (simp only; omega) | (simp only; assumption) | (simp; omega) | (simp; done)) (by first | trivial | assumption | omega | (simp only; omega) | (simp only; assumption) | (simp; omega) | (simp; done))) fun y8_4 ey8_4 hy8_4 => ?_
  refine Ok.bv fun z11_7 ez11_7 => ?_
  refine Ok.it (fun c => ?_) (fun c => ?_)
  · skip
    try simp only [ez11_7, decide_eq_true_eq] at c
    refine Ok.ob (value_Fail_tot (by first | trivial | assumption | omega | (simp only; omega) | (simp only; assumption) | (simp; omega) | (simp; done))) fun y12_9 ey12_9 hy12_9 => ?_
    exact Ok.sm (by first | exact hy12_9 | exact hy12_9.1 | first | trivial | assumption | omega | (simp only; omega))
  · skip
    try simp only [ez11_7, decide_eq_false_iff_not] at c
    refine Ok.bv fun z15_11 ez15_11 => ?_
    refine Ok.it (fun c => ?_) (fun c => ?_)
    · skip
      try simp only [ez15_11, decide_eq_true_eq] at c
      exact Ok.sm (by first | exact hy6_2 | exact hy6_2.1 | first | trivial | assumption | omega | (simp only; omega))
    · skip
      try simp only [ez15_11, decide_eq_false_iff_not] at c
      refine Ok.bv fun z20_13 ez20_13 => ?_
      have rz20_13 := (wI64 ez20_13).1
      try replace ez20_13 := (wI64 ez20_13).2 (by omega)
      refine Ok.ob (num_Quo_tot (by omega) (by omega)) fun y21_14 ey21_14 hy21_14 => ?_
      refine Ok.ob (value_Made_tot (fun _ => hy21_14)) fun y24_15 ey24_15 hy24_15 => ?_
      exact Ok.sm (by first | exact hy24_15 | exact hy24_15.1 | first | trivial | assumption | omega | (simp only; omega))
end Go.Sp
