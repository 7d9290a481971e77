/- Functions that have an answer: packages maths, lists, funcs. -/
import Derived.Test.YtnmkeanoidadcaaGreatDoorPlRtC
set_option linter.unusedSimpArgs false
set_option linter.unusedVariables false
set_option linter.unusedSectionVars false
set_option linter.unusedSimpArgs false
set_option linter.unusedVariables false
set_option maxRecDepth 100000
namespace Go.Sp
open Go.Stp Go.ValP
theorem maths_One_tot {x0 : List UInt8} {x1 : Int} (h : -9223372036854775807 ≤ x1 ∧ x1 ≤ 9223372036854775807) : Ok (maths_One x0 x1) (fun r => Rt r ∧ (r.k = 4 ∨ r.k = 1)) := by
  unfold maths_One
  refine Ok.bv fun J3 eJ3 => ?_
  have hJ3 : ∀ s3 : Int × Int × (List UInt8), (True) → Ok (J3 s3) (fun r => Rt r ∧ (r.k = 4 ∨ r.k = 1)) := by
    intro s3 hs3
    rw [eJ3]
    refine Ok.ob (value_Fail_tot (by first | trivial | assumption | omega | (simp only; omega) | (simp only; assumption) | (simp; omega) | (simp; done))) fun y67_4 ey67_4 hy67_4 => ?_
    exact Ok.sm (by first | exact hy67_4 | exact hy67_4.1 | first | trivial | assumption | omega | (simp only; omega))
  clear eJ3
  refine Ok.bv fun z10_6 ez10_6 => ?_
  refine Ok.it (fun c => ?_) (fun c => ?_)
  · skip
    try simp only [ez10_6, decide_eq_true_eq] at c
    refine Ok.bv fun z13_8 ez13_8 => ?_
    have rz13_8 := (wI64 ez13_8).1
    try replace ez13_8 := (wI64 ez13_8).2 (by omega)
    refine Ok.bv fun z14_9 ez14_9 => ?_
    refine Ok.ob (value_Num_tot (by omega)) fun y15_10 ey15_10 hy15_10 => ?_
    exact Ok.sm (by first | exact hy15_10 | exact hy15_10.1 | first | trivial | assumption | omega | (simp only; omega))
  · skip
    try simp only [ez10_6, decide_eq_false_iff_not] at c
    refine Ok.bv fun z17_11 ez17_11 => ?_
    refine Ok.it (fun c => ?_) (fun c => ?_)
    · skip
      try simp only [ez17_11, decide_eq_true_eq] at c
      refine Ok.bv fun z19_13 ez19_13 => ?_
      refine Ok.bv fun z20_14 ez20_14 => ?_
      refine Ok.ob (maths_back_tot) fun y21_15 ey21_15 hy21_15 => ?_
      exact Ok.sm (by first | exact hy21_15 | exact hy21_15.1 | first | trivial | assumption | omega | (simp only; omega))
    · skip
      try simp only [ez17_11, decide_eq_false_iff_not] at c
      refine Ok.bv fun z23_16 ez23_16 => ?_
      refine Ok.it (fun c => ?_) (fun c => ?_)
      · skip
        try simp only [ez23_16, decide_eq_true_eq] at c
        refine Ok.ob (num_Floor_tot) fun y25_18 ey25_18 hy25_18 => ?_
        refine Ok.ob (value_Made_tot hy25_18) fun y28_19 ey28_19 hy28_19 => ?_
        exact Ok.sm (by first | exact hy28_19 | exact hy28_19.1 | first | trivial | assumption | omega | (simp only; omega))
      · skip
        try simp only [ez23_16, decide_eq_false_iff_not] at c
        refine Ok.bv fun z30_20 ez30_20 => ?_
        refine Ok.it (fun c => ?_) (fun c => ?_)
        · skip
          try simp only [ez30_20, decide_eq_true_eq] at c
          refine Ok.bv fun z33_22 ez33_22 => ?_
          refine Ok.bv fun z34_23 ez34_23 => ?_
          have tq := tmod_bd x1 (c := 1000000) (by decide)
          rw [← ez33_22] at tq
          have rz34_23 := (wI64 ez34_23).1
          try replace ez34_23 := (wI64 ez34_23).2 (by omega)
          refine Ok.ob (value_Num_tot (by omega)) fun y35_24 ey35_24 hy35_24 => ?_
          exact Ok.sm (by first | exact hy35_24 | exact hy35_24.1 | first | trivial | assumption | omega | (simp only; omega))
        · skip
          try simp only [ez30_20, decide_eq_false_iff_not] at c
          refine Ok.bv fun J26 eJ26 => ?_
          have hJ26 : ∀ s26 : Bool, (True) → Ok (J26 s26) (fun r => Rt r ∧ (r.k = 4 ∨ r.k = 1)) := by
            intro s26 hs26
            rw [eJ26]
            refine Ok.it (fun c => ?_) (fun c => ?_)
            · skip
              refine Ok.bv fun z41_28 ez41_28 => ?_
              refine Ok.ob (maths_away_tot) fun y42_29 ey42_29 hy42_29 => ?_
              exact Ok.sm (by first | exact hy42_29 | exact hy42_29.1 | first | trivial | assumption | omega | (simp only; omega))
            · skip
              refine Ok.bv fun z44_30 ez44_30 => ?_
              refine Ok.it (fun c => ?_) (fun c => ?_)
              · skip
                try simp only [ez44_30, decide_eq_true_eq] at c
                refine Ok.ob (maths_whole_tot (by first | trivial | assumption | omega | (simp only; omega) | (simp only; assumption) | (simp; omega) | (simp; done))) fun y47_33 ey47_33 hy47_33 => ?_
                have hw1 : y47_33.length = 1 := hy47_33.1
                refine Ok.ckf (by first | omega | decide | (simp; omega) | (simp; done)) fun k1 => ?_
                refine Ok.bv fun z48_36 ez48_36 => ?_
                refine Ok.bv fun z51_38 ez51_38 => ?_
                refine Ok.bv fun z54_39 ez54_39 => ?_
                refine Ok.bv fun z55_40 ez55_40 => ?_
                refine Ok.it (fun c => ?_) (fun c => ?_)
                · skip
                  try simp only [ez55_40, ez54_39, ez51_38, decide_eq_true_eq, decide_eq_false_iff_not, Bool.or_eq_true, Bool.and_eq_true, Bool.or_eq_false_iff, Bool.and_eq_false_iff, Bool.not_eq_true', Bool.not_eq_false', Bool.not_eq_eq_eq_not, Bool.not_true, Bool.not_false, ne_eq, decide_not] at c
                  refine Ok.ob (value_Fail_tot (by first | trivial | assumption | omega | (simp only; omega) | (simp only; assumption) | (simp; omega) | (simp; done))) fun y56_42 ey56_42 hy56_42 => ?_
                  exact Ok.sm (by first | exact hy56_42 | exact hy56_42.1 | first | trivial | assumption | omega | (simp only; omega))
                · skip
                  try simp only [ez55_40, ez54_39, ez51_38, decide_eq_true_eq, decide_eq_false_iff_not, Bool.or_eq_true, Bool.and_eq_true, Bool.or_eq_false_iff, Bool.and_eq_false_iff, Bool.not_eq_true', Bool.not_eq_false', Bool.not_eq_eq_eq_not, Bool.not_true, Bool.not_false, ne_eq, decide_not] at c
                  refine Ok.bv fun J44 eJ44 => ?_
                  have hJ44 : ∀ s44 : Int, (True) → Ok (J44 s44) (fun r => Rt r ∧ (r.k = 4 ∨ r.k = 1)) := by
                    intro s44 hs44
                    rw [eJ44]
                    refine Ok.ob (maths_back_tot) fun y66_45 ey66_45 hy66_45 => ?_
                    exact Ok.sm (by first | exact hy66_45 | exact hy66_45.1 | first | trivial | assumption | omega | (simp only; omega))
                  clear eJ44
                  refine Ok.bv fun B47 eB47 => ?_
                  subst eB47
                  refine Ok.lp (fun s47 : Int × Int => 2 ≤ s47.2 ∧ s47.2 ≤ 21) (fun s47 => (21 - s47.2).toNat) (by first | trivial | omega | (simp only; omega) | (simp only; refine ⟨by omega, ?_⟩; first | assumption | omega) | (simp; omega) | (simp; done)) (by first | (simp only; omega) | (simp; omega) | (simp; done)) fun s47 hs47 nextn47 ihn47 => ?_
                  refine Ok.bv fun z59_50 ez59_50 => ?_
                  refine Ok.it (fun c => ?_) (fun c => ?_)
                  · skip
                    try simp only [ez59_50, decide_eq_true_eq] at c
                    refine Ok.bv fun z64_53 ez64_53 => ?_
                    have rz64_53 := (wI64 ez64_53).1
                    try replace ez64_53 := (wI64 ez64_53).2 (by omega)
                    refine Ok.bv fun z61_54 ez61_54 => ?_
                    have rz61_54 := (wI64 ez61_54).1
                    try replace ez61_54 := (wI64 ez61_54).2 (by omega)
                    exact ihn47 _ (by first | trivial | omega | (simp only; omega) | (simp only; refine ⟨by omega, ?_⟩; first | assumption | omega) | (simp; omega) | (simp; done)) (by first | (simp only; omega) | (simp; omega) | (simp; done))
                  · skip
                    try simp only [ez59_50, decide_eq_false_iff_not] at c
                    exact hJ44 _ (by first | trivial | assumption | omega | (simp only; omega) | (simp only; assumption) | (simp; omega) | (simp; done))
              · skip
                try simp only [ez44_30, decide_eq_false_iff_not] at c
                exact hJ3 _ (by first | trivial | assumption | omega | (simp only; omega) | (simp only; assumption) | (simp; omega) | (simp; done))
          clear eJ26
          refine Ok.bv fun z37_55 ez37_55 => ?_
          refine Ok.it (fun c => ?_) (fun c => ?_)
          · skip
            try simp only [ez37_55, decide_eq_true_eq] at c
            exact hJ26 _ (by first | trivial | assumption | omega | (simp only; omega) | (simp only; assumption) | (simp; omega) | (simp; done))
          · skip
            try simp only [ez37_55, decide_eq_false_iff_not] at c
            refine Ok.bv fun z38_57 ez38_57 => ?_
            exact hJ26 _ (by first | trivial | assumption | omega | (simp only; omega) | (simp only; assumption) | (simp; omega) | (simp; done))

theorem maths_Two_tot {x0 : List UInt8} {x1 : Int} {x2 : Int} (h1 : -9223372036854775807 ≤ x1 ∧ x1 ≤ 9223372036854775807) (h2 : -9223372036854775807 ≤ x2 ∧ x2 ≤ 9223372036854775807) : Ok (maths_Two x0 x1 x2) (fun r => Rt r ∧ (r.k = 4 ∨ r.k = 1)) := by
  unfold maths_Two
  refine Ok.ob (maths_whole_tot (by first | trivial | assumption | omega | (simp only; omega) | (simp only; assumption) | (simp; omega) | (simp; done))) fun y14_3 ey14_3 hy14_3 => ?_
  obtain ⟨hw1, hw2⟩ := hy14_3
  have hw1 : y14_3.length = 2 := hw1
  refine Ok.bv fun z17_7 ez17_7 => ?_
  refine Ok.it (fun c => ?_) (fun c => ?_)
  · skip
    try simp only [ez17_7, decide_eq_true_eq] at c
    refine Ok.ckf (by first | omega | decide | (simp; omega) | (simp; done)) fun k1 => ?_
    refine Ok.bv fun z19_11 ez19_11 => ?_
    refine Ok.bv fun z21_12 ez21_12 => ?_
    refine Ok.ckf (by first | (simp only [ez21_12, decide_eq_true_eq, decide_eq_false_iff_not, Bool.or_eq_true, Bool.and_eq_true, Bool.or_eq_false_iff, Bool.and_eq_false_iff, Bool.not_eq_true', Bool.not_eq_false', Bool.not_eq_eq_eq_not, Bool.not_true, Bool.not_false, ne_eq, decide_not]; omega) | (simp [ez21_12]; omega) | (simp [ez21_12]; done) | first | omega | decide | (simp; omega) | (simp; done)) fun k2 => ?_
    refine Ok.bv fun z24_14 ez24_14 => ?_
    refine Ok.bv fun z26_15 ez26_15 => ?_
    refine Ok.bv fun z27_16 ez27_16 => ?_
    refine Ok.it (fun c => ?_) (fun c => ?_)
    · skip
      try simp only [ez27_16, ez26_15, ez21_12, decide_eq_true_eq, decide_eq_false_iff_not, Bool.or_eq_true, Bool.and_eq_true, Bool.or_eq_false_iff, Bool.and_eq_false_iff, Bool.not_eq_true', Bool.not_eq_false', Bool.not_eq_eq_eq_not, Bool.not_true, Bool.not_false, ne_eq, decide_not] at c
      refine Ok.ob (value_Fail_tot (by first | trivial | assumption | omega | (simp only; omega) | (simp only; assumption) | (simp; omega) | (simp; done))) fun y28_18 ey28_18 hy28_18 => ?_
      exact Ok.sm (by first | exact hy28_18 | exact hy28_18.1 | first | trivial | assumption | omega | (simp only; omega))
    · skip
      try simp only [ez27_16, ez26_15, ez21_12, decide_eq_true_eq, decide_eq_false_iff_not, Bool.or_eq_true, Bool.and_eq_true, Bool.or_eq_false_iff, Bool.and_eq_false_iff, Bool.not_eq_true', Bool.not_eq_false', Bool.not_eq_eq_eq_not, Bool.not_true, Bool.not_false, ne_eq, decide_not] at c
      refine Ok.ckf (by first | omega | decide | (simp; omega) | (simp; done)) fun k3 => ?_
      refine Ok.bv fun z31_20 ez31_20 => ?_
      have hz31 : z31_20 = z24_14 := by rw [ez31_20, ez24_14]
      have hz19 : z24_14 = z19_11 := by rw [ez24_14, ez19_11]
      refine Ok.ob (maths_round_tot h1 (by omega)) fun y33_21 ey33_21 hy33_21 => ?_
      exact Ok.sm (by first | exact hy33_21 | exact hy33_21.1 | first | trivial | assumption | omega | (simp only; omega))
  · skip
    try simp only [ez17_7, decide_eq_false_iff_not] at c
    refine Ok.bv fun z35_22 ez35_22 => ?_
    refine Ok.it (fun c => ?_) (fun c => ?_)
    · skip
      try simp only [ez35_22, decide_eq_true_eq] at c
      refine Ok.bv fun z37_25 ez37_25 => ?_
      refine Ok.it (fun c => ?_) (fun c => ?_)
      · skip
        try simp only [ez37_25, decide_eq_true_eq] at c
        refine Ok.ob (value_Fail_tot (by first | trivial | assumption | omega | (simp only; omega) | (simp only; assumption) | (simp; omega) | (simp; done))) fun y38_27 ey38_27 hy38_27 => ?_
        exact Ok.sm (by first | exact hy38_27 | exact hy38_27.1 | first | trivial | assumption | omega | (simp only; omega))
      · skip
        try simp only [ez37_25, decide_eq_false_iff_not] at c
        refine Ok.ckf (by first | omega | decide | (simp; omega) | (simp; done)) fun k4 => ?_
        refine Ok.bv fun z41_29 ez41_29 => ?_
        have tq : z41_29.natAbs < x2.natAbs ∧ (0 ≤ x1 → 0 ≤ z41_29) := by
          rw [ez41_29]
          exact ⟨tmod_nat x1 (by omega), fun h => Int.tmod_nonneg x2 h⟩
        refine Ok.bv fun J31 eJ31 => ?_
        have hJ31 : ∀ s31 : Int, (-9223372036854775807 ≤ s31 ∧ s31 ≤ 9223372036854775807) → Ok (J31 s31) (fun r => Rt r ∧ (r.k = 4 ∨ r.k = 1)) := by
          intro s31 hs31
          rw [eJ31]
          refine Ok.ob (value_Num_tot hs31) fun y55_32 ey55_32 hy55_32 => ?_
          exact Ok.sm (by first | exact hy55_32 | exact hy55_32.1 | first | trivial | assumption | omega | (simp only; omega))
        clear eJ31
        refine Ok.bv fun z43_33 ez43_33 => ?_
        refine Ok.bv fun z46_34 ez46_34 => ?_
        refine Ok.bv fun z48_35 ez48_35 => ?_
        refine Ok.bv fun z49_36 ez49_36 => ?_
        refine Ok.bv fun z50_37 ez50_37 => ?_
        refine Ok.it (fun c => ?_) (fun c => ?_)
        · skip
          try simp only [ez50_37, ez49_36, ez48_35, ez46_34, ez43_33, decide_eq_true_eq, decide_eq_false_iff_not, Bool.or_eq_true, Bool.and_eq_true, Bool.or_eq_false_iff, Bool.and_eq_false_iff, Bool.not_eq_true', Bool.not_eq_false', Bool.not_eq_eq_eq_not, Bool.not_true, Bool.not_false, ne_eq, decide_not] at c
          refine Ok.bv fun z53_39 ez53_39 => ?_
          have hsg : (z41_29 < 0 ∧ 0 < x2) ∨ (0 < z41_29 ∧ x2 < 0) := by by_cases q1 : z41_29 < 0 <;> by_cases q2 : x2 < 0 <;> simp [q1, q2] at c <;> omega
          have rz53_39 := (wI64 ez53_39).1
          try replace ez53_39 := (wI64 ez53_39).2 (by omega)
          exact hJ31 _ (by first | trivial | assumption | omega | (simp only; omega) | (simp only; assumption) | (simp; omega) | (simp; done))
        · skip
          try simp only [ez50_37, ez49_36, ez48_35, ez46_34, ez43_33, decide_eq_true_eq, decide_eq_false_iff_not, Bool.or_eq_true, Bool.and_eq_true, Bool.or_eq_false_iff, Bool.and_eq_false_iff, Bool.not_eq_true', Bool.not_eq_false', Bool.not_eq_eq_eq_not, Bool.not_true, Bool.not_false, ne_eq, decide_not] at c
          exact hJ31 _ (by first | trivial | assumption | omega | (simp only; omega) | (simp only; assumption) | (simp; omega) | (simp; done))
    · skip
      try simp only [ez35_22, decide_eq_false_iff_not] at c
      refine Ok.bv fun z57_40 ez57_40 => ?_
      refine Ok.it (fun c => ?_) (fun c => ?_)
      · skip
        try simp only [ez57_40, decide_eq_true_eq] at c
        refine Ok.bv fun z59_43 ez59_43 => ?_
        refine Ok.bv fun z60_44 ez60_44 => ?_
        refine Ok.ckf (by first | (simp only [ez60_44, decide_eq_true_eq, decide_eq_false_iff_not, Bool.or_eq_true, Bool.and_eq_true, Bool.or_eq_false_iff, Bool.and_eq_false_iff, Bool.not_eq_true', Bool.not_eq_false', Bool.not_eq_eq_eq_not, Bool.not_true, Bool.not_false, ne_eq, decide_not]; omega) | (simp [ez60_44]; omega) | (simp [ez60_44]; done) | first | omega | decide | (simp; omega) | (simp; done)) fun k5 => ?_
        refine Ok.bv fun z63_46 ez63_46 => ?_
        refine Ok.bv fun z65_47 ez65_47 => ?_
        refine Ok.bv fun z66_48 ez66_48 => ?_
        refine Ok.ckf (by first | (simp only [ez66_48, ez65_47, ez60_44, decide_eq_true_eq, decide_eq_false_iff_not, Bool.or_eq_true, Bool.and_eq_true, Bool.or_eq_false_iff, Bool.and_eq_false_iff, Bool.not_eq_true', Bool.not_eq_false', Bool.not_eq_eq_eq_not, Bool.not_true, Bool.not_false, ne_eq, decide_not]; omega) | (simp [ez66_48, ez65_47, ez60_44]; omega) | (simp [ez66_48, ez65_47, ez60_44]; done) | first | omega | decide | (simp; omega) | (simp; done)) fun k6 => ?_
        refine Ok.bv fun z69_50 ez69_50 => ?_
        refine Ok.bv fun z71_51 ez71_51 => ?_
        refine Ok.bv fun z72_52 ez72_52 => ?_
        refine Ok.it (fun c => ?_) (fun c => ?_)
        · skip
          try simp only [ez72_52, ez71_51, ez66_48, ez65_47, ez60_44, decide_eq_true_eq, decide_eq_false_iff_not, Bool.or_eq_true, Bool.and_eq_true, Bool.or_eq_false_iff, Bool.and_eq_false_iff, Bool.not_eq_true', Bool.not_eq_false', Bool.not_eq_eq_eq_not, Bool.not_true, Bool.not_false, ne_eq, decide_not] at c
          refine Ok.ob (value_Fail_tot (by first | trivial | assumption | omega | (simp only; omega) | (simp only; assumption) | (simp; omega) | (simp; done))) fun y73_54 ey73_54 hy73_54 => ?_
          exact Ok.sm (by first | exact hy73_54 | exact hy73_54.1 | first | trivial | assumption | omega | (simp only; omega))
        · skip
          try simp only [ez72_52, ez71_51, ez66_48, ez65_47, ez60_44, decide_eq_true_eq, decide_eq_false_iff_not, Bool.or_eq_true, Bool.and_eq_true, Bool.or_eq_false_iff, Bool.and_eq_false_iff, Bool.not_eq_true', Bool.not_eq_false', Bool.not_eq_eq_eq_not, Bool.not_true, Bool.not_false, ne_eq, decide_not] at c
          refine Ok.ckf (by first | omega | decide | (simp; omega) | (simp; done)) fun k7 => ?_
          refine Ok.bv fun z76_56 ez76_56 => ?_
          have hz76 : z76_56 = z69_50 := by rw [ez76_56, ez69_50]
          refine Ok.ob (maths_power_tot (by omega) (by omega)) fun y78_57 ey78_57 hy78_57 => ?_
          exact Ok.sm (by first | exact hy78_57 | exact hy78_57.1 | first | trivial | assumption | omega | (simp only; omega))
      · skip
        try simp only [ez57_40, decide_eq_false_iff_not] at c
        refine Ok.bv fun z80_58 ez80_58 => ?_
        refine Ok.it (fun c => ?_) (fun c => ?_)
        · skip
          try simp only [ez80_58, decide_eq_true_eq] at c
          refine Ok.bv fun z82_61 ez82_61 => ?_
          refine Ok.it (fun c => ?_) (fun c => ?_)
          · skip
            try simp only [ez82_61, decide_eq_true_eq] at c
            refine Ok.ob (value_Fail_tot (by first | trivial | assumption | omega | (simp only; omega) | (simp only; assumption) | (simp; omega) | (simp; done))) fun y83_63 ey83_63 hy83_63 => ?_
            exact Ok.sm (by first | exact hy83_63 | exact hy83_63.1 | first | trivial | assumption | omega | (simp only; omega))
          · skip
            try simp only [ez82_61, decide_eq_false_iff_not] at c
            refine Ok.ckf (by first | omega | decide | (simp; omega) | (simp; done)) fun k8 => ?_
            refine Ok.bv fun z86_65 ez86_65 => ?_
            try have qz86_65 := tdiv_nat x1 x2
            have rz86_65 := (wI64 ez86_65).1
            try replace ez86_65 := (wI64 ez86_65).2 (by omega)
            refine Ok.ob (maths_back_tot) fun y87_66 ey87_66 hy87_66 => ?_
            exact Ok.sm (by first | exact hy87_66 | exact hy87_66.1 | first | trivial | assumption | omega | (simp only; omega))
        · skip
          try simp only [ez80_58, decide_eq_false_iff_not] at c
          refine Ok.bv fun J68 eJ68 => ?_
          have hJ68 : ∀ s68 : Bool, (True) → Ok (J68 s68) (fun r => Rt r ∧ (r.k = 4 ∨ r.k = 1)) := by
            intro s68 hs68
            rw [eJ68]
            refine Ok.it (fun c => ?_) (fun c => ?_)
            · skip
              refine Ok.ckf (by first | omega | decide | (simp; omega) | (simp; done)) fun k9 => ?_
              refine Ok.bv fun z92_72 ez92_72 => ?_
              refine Ok.bv fun z94_73 ez94_73 => ?_
              refine Ok.ckf (by first | (simp only [ez94_73, decide_eq_true_eq, decide_eq_false_iff_not, Bool.or_eq_true, Bool.and_eq_true, Bool.or_eq_false_iff, Bool.and_eq_false_iff, Bool.not_eq_true', Bool.not_eq_false', Bool.not_eq_eq_eq_not, Bool.not_true, Bool.not_false, ne_eq, decide_not]; omega) | (simp [ez94_73]; omega) | (simp [ez94_73]; done) | first | omega | decide | (simp; omega) | (simp; done)) fun k10 => ?_
              refine Ok.bv fun z97_75 ez97_75 => ?_
              refine Ok.bv fun z99_76 ez99_76 => ?_
              refine Ok.bv fun z100_77 ez100_77 => ?_
              refine Ok.it (fun c => ?_) (fun c => ?_)
              · skip
                try simp only [ez100_77, ez99_76, ez94_73, decide_eq_true_eq, decide_eq_false_iff_not, Bool.or_eq_true, Bool.and_eq_true, Bool.or_eq_false_iff, Bool.and_eq_false_iff, Bool.not_eq_true', Bool.not_eq_false', Bool.not_eq_eq_eq_not, Bool.not_true, Bool.not_false, ne_eq, decide_not] at c
                refine Ok.ob (value_Fail_tot (by first | trivial | assumption | omega | (simp only; omega) | (simp only; assumption) | (simp; omega) | (simp; done))) fun y101_79 ey101_79 hy101_79 => ?_
                exact Ok.sm (by first | exact hy101_79 | exact hy101_79.1 | first | trivial | assumption | omega | (simp only; omega))
              · skip
                try simp only [ez100_77, ez99_76, ez94_73, decide_eq_true_eq, decide_eq_false_iff_not, Bool.or_eq_true, Bool.and_eq_true, Bool.or_eq_false_iff, Bool.and_eq_false_iff, Bool.not_eq_true', Bool.not_eq_false', Bool.not_eq_eq_eq_not, Bool.not_true, Bool.not_false, ne_eq, decide_not] at c
                refine Ok.ckf (by first | omega | decide | (simp; omega) | (simp; done)) fun k11 => ?_
                refine Ok.bv fun z103_81 ez103_81 => ?_
                have g1 := gelP hw2 ez103_81 (by omega)
                refine Ok.ckf (by first | omega | decide | (simp; omega) | (simp; done)) fun k12 => ?_
                refine Ok.bv fun z106_83 ez106_83 => ?_
                have g2 := gelP hw2 ez106_83 (by omega)
                refine Ok.ob (maths_gcd_tot g2) fun y108_84 ey108_84 hy108_84 => ?_
                refine Ok.bv fun z110_86 ez110_86 => ?_
                refine Ok.bv fun z113_87 ez113_87 => ?_
                refine Ok.bv fun z114_88 ez114_88 => ?_
                refine Ok.it (fun c => ?_) (fun c => ?_)
                · skip
                  try simp only [ez114_88, ez113_87, ez110_86, decide_eq_true_eq, decide_eq_false_iff_not, Bool.or_eq_true, Bool.and_eq_true, Bool.or_eq_false_iff, Bool.and_eq_false_iff, Bool.not_eq_true', Bool.not_eq_false', Bool.not_eq_eq_eq_not, Bool.not_true, Bool.not_false, ne_eq, decide_not] at c
                  refine Ok.ob (maths_back_tot) fun y116_90 ey116_90 hy116_90 => ?_
                  exact Ok.sm (by first | exact hy116_90 | exact hy116_90.1 | first | trivial | assumption | omega | (simp only; omega))
                · skip
                  try simp only [ez114_88, ez113_87, ez110_86, decide_eq_true_eq, decide_eq_false_iff_not, Bool.or_eq_true, Bool.and_eq_true, Bool.or_eq_false_iff, Bool.and_eq_false_iff, Bool.not_eq_true', Bool.not_eq_false', Bool.not_eq_eq_eq_not, Bool.not_true, Bool.not_false, ne_eq, decide_not] at c
                  refine Ok.ckf (by first | omega | decide | (simp; omega) | (simp; done)) fun k13 => ?_
                  refine Ok.bv fun z118_92 ez118_92 => ?_
                  refine Ok.ckf (by first | omega | decide | (simp; omega) | (simp; done)) fun k14 => ?_
                  refine Ok.bv fun z121_94 ez121_94 => ?_
                  try have qz121_94 := tdiv_nat z118_92 y108_84
                  have rz121_94 := (wI64 ez121_94).1
                  try replace ez121_94 := (wI64 ez121_94).2 (by omega)
                  refine Ok.ckf (by first | omega | decide | (simp; omega) | (simp; done)) fun k15 => ?_
                  refine Ok.bv fun z123_97 ez123_97 => ?_
                  refine Ok.bv fun z125_98 ez125_98 => ?_
                  refine Ok.ckf (by first | (simp only [ez125_98, decide_eq_true_eq, decide_eq_false_iff_not, Bool.or_eq_true, Bool.and_eq_true, Bool.or_eq_false_iff, Bool.and_eq_false_iff, Bool.not_eq_true', Bool.not_eq_false', Bool.not_eq_eq_eq_not, Bool.not_true, Bool.not_false, ne_eq, decide_not]; omega) | (simp [ez125_98]; omega) | (simp [ez125_98]; done) | first | omega | decide | (simp; omega) | (simp; done)) fun k16 => ?_
                  refine Ok.bv fun z129_100 ez129_100 => ?_
                  refine Ok.ckf (by first | (simp only [ez125_98, decide_eq_true_eq, decide_eq_false_iff_not, Bool.or_eq_true, Bool.and_eq_true, Bool.or_eq_false_iff, Bool.and_eq_false_iff, Bool.not_eq_true', Bool.not_eq_false', Bool.not_eq_eq_eq_not, Bool.not_true, Bool.not_false, ne_eq, decide_not]; omega) | (simp [ez125_98]; omega) | (simp [ez125_98]; done) | first | omega | decide | (simp; omega) | (simp; done)) fun k17 => ?_
                  refine Ok.bv fun z131_102 ez131_102 => ?_
                  try have qz131_102 := tdiv_nat 9223372036854 z129_100
                  have rz131_102 := (wI64 ez131_102).1
                  try replace ez131_102 := (wI64 ez131_102).2 (by omega)
                  refine Ok.bv fun z132_103 ez132_103 => ?_
                  refine Ok.bv fun z133_104 ez133_104 => ?_
                  refine Ok.it (fun c => ?_) (fun c => ?_)
                  · skip
                    try simp only [ez133_104, ez132_103, ez125_98, decide_eq_true_eq, decide_eq_false_iff_not, Bool.or_eq_true, Bool.and_eq_true, Bool.or_eq_false_iff, Bool.and_eq_false_iff, Bool.not_eq_true', Bool.not_eq_false', Bool.not_eq_eq_eq_not, Bool.not_true, Bool.not_false, ne_eq, decide_not] at c
                    refine Ok.ob (value_Fail_tot (by first | trivial | assumption | omega | (simp only; omega) | (simp only; assumption) | (simp; omega) | (simp; done))) fun y134_106 ey134_106 hy134_106 => ?_
                    exact Ok.sm (by first | exact hy134_106 | exact hy134_106.1 | first | trivial | assumption | omega | (simp only; omega))
                  · skip
                    try simp only [ez133_104, ez132_103, ez125_98, decide_eq_true_eq, decide_eq_false_iff_not, Bool.or_eq_true, Bool.and_eq_true, Bool.or_eq_false_iff, Bool.and_eq_false_iff, Bool.not_eq_true', Bool.not_eq_false', Bool.not_eq_eq_eq_not, Bool.not_true, Bool.not_false, ne_eq, decide_not] at c
                    refine Ok.ckf (by first | omega | decide | (simp; omega) | (simp; done)) fun k18 => ?_
                    refine Ok.bv fun z137_108 ez137_108 => ?_
                    refine Ok.bv fun z139_109 ez139_109 => ?_
                    have rz139_109 := (wI64 ez139_109).1
                    try replace ez139_109 := (wI64 ez139_109).2 (by omega)
                    refine Ok.ob (maths_back_tot) fun y140_110 ey140_110 hy140_110 => ?_
                    exact Ok.sm (by first | exact hy140_110 | exact hy140_110.1 | first | trivial | assumption | omega | (simp only; omega))
            · skip
              refine Ok.ob (value_Fail_tot (by first | trivial | assumption | omega | (simp only; omega) | (simp only; assumption) | (simp; omega) | (simp; done))) fun y141_111 ey141_111 hy141_111 => ?_
              exact Ok.sm (by first | exact hy141_111 | exact hy141_111.1 | first | trivial | assumption | omega | (simp only; omega))
          clear eJ68
          refine Ok.bv fun z89_112 ez89_112 => ?_
          refine Ok.it (fun c => ?_) (fun c => ?_)
          · skip
            try simp only [ez89_112, decide_eq_true_eq] at c
            exact hJ68 _ (by first | trivial | assumption | omega | (simp only; omega) | (simp only; assumption) | (simp; omega) | (simp; done))
          · skip
            try simp only [ez89_112, decide_eq_false_iff_not] at c
            refine Ok.bv fun z90_114 ez90_114 => ?_
            exact hJ68 _ (by first | trivial | assumption | omega | (simp only; omega) | (simp only; assumption) | (simp; omega) | (simp; done))

theorem lists_SumProduct_tot {x0 : List (V)} {x1 : List (V)} (hl : x0.length ≤ 1000) (hx : ∀ x ∈ x0, Rt x) (hl1 : x1.length ≤ 1000) (hx1 : ∀ x ∈ x1, Rt x) : Ok (lists_SumProduct x0 x1) (Rt) := by
  unfold lists_SumProduct
  refine Ok.bv fun z12_3 ez12_3 => ?_
  refine Ok.it (fun c => ?_) (fun c => ?_)
  · skip
    try simp only [ez12_3, decide_eq_true_eq, decide_eq_false_iff_not, Bool.or_eq_true, Bool.and_eq_true, Bool.or_eq_false_iff, Bool.and_eq_false_iff, Bool.not_eq_true', Bool.not_eq_false', Bool.not_eq_eq_eq_not, Bool.not_true, Bool.not_false, ne_eq, decide_not] at c
    refine Ok.ob (value_Fail_tot (by first | trivial | assumption | omega | (simp only; omega) | (simp only; assumption) | (simp; omega) | (simp; done))) fun y13_5 ey13_5 hy13_5 => ?_
    exact Ok.sm (by first | exact hy13_5 | exact hy13_5.1 | first | trivial | assumption | omega | (simp only; omega))
  · skip
    try simp only [ez12_3, decide_eq_true_eq, decide_eq_false_iff_not, Bool.or_eq_true, Bool.and_eq_true, Bool.or_eq_false_iff, Bool.and_eq_false_iff, Bool.not_eq_true', Bool.not_eq_false', Bool.not_eq_eq_eq_not, Bool.not_true, Bool.not_false, ne_eq, decide_not] at c
    refine Ok.ob (value_Num_tot (by first | trivial | assumption | omega | (simp only; omega) | (simp only; assumption) | (simp; omega) | (simp; done))) fun y14_6 ey14_6 hy14_6 => ?_
    refine Ok.bv fun J9 eJ9 => ?_
    have hJ9 : ∀ s9 : Int × Int × (List UInt8) × Int × Int × (List UInt8), (Rt ⟨s9.2.2.2.1, s9.2.2.2.2.1, s9.2.2.2.2.2⟩) → Ok (J9 s9) (Rt) := by
      intro s9 hs9
      rw [eJ9]
      exact Ok.sm (by first | trivial | assumption | omega | (simp only; omega))
    clear eJ9
    refine Ok.bv fun B11 eB11 => ?_
    subst eB11
    refine Ok.lp (fun s11 : Int × Int × Int × (List UInt8) × Int × Int × (List UInt8) => (0 ≤ s11.1 ∧ s11.1 ≤ (x0.length : Int)) ∧ Rt ⟨s11.2.2.2.2.1, s11.2.2.2.2.2.1, s11.2.2.2.2.2.2⟩) (fun s11 => ((x0.length : Int) - s11.1).toNat) (by exact ⟨by simp only; omega, hy14_6.1⟩) (by first | (simp only; omega) | (simp; omega) | (simp; done)) fun s11 hs11 nextn11 ihn11 => ?_
    refine Ok.bv fun z18_13 ez18_13 => ?_
    refine Ok.it (fun c => ?_) (fun c => ?_)
    · skip
      try simp only [ez18_13, decide_eq_true_eq] at c
      refine Ok.ckf (by first | omega | decide | (simp; omega) | (simp; done)) fun k1 => ?_
      refine Ok.bv fun z22_19 ez22_19 => ?_
      refine Ok.bv fun z25_20 ez25_20 => ?_
      refine Ok.ckf (by first | (simp only [ez25_20, decide_eq_true_eq, decide_eq_false_iff_not, Bool.or_eq_true, Bool.and_eq_true, Bool.or_eq_false_iff, Bool.and_eq_false_iff, Bool.not_eq_true', Bool.not_eq_false', Bool.not_eq_eq_eq_not, Bool.not_true, Bool.not_false, ne_eq, decide_not]; omega) | (simp [ez25_20]; omega) | (simp [ez25_20]; done) | first | omega | decide | (simp; omega) | (simp; done)) fun k2 => ?_
      refine Ok.bv fun z29_22 ez29_22 => ?_
      refine Ok.bv fun z32_23 ez32_23 => ?_
      refine Ok.bv fun z33_24 ez33_24 => ?_
      refine Ok.it (fun c => ?_) (fun c => ?_)
      · skip
        try simp only [ez33_24, ez32_23, ez25_20, decide_eq_true_eq, decide_eq_false_iff_not, Bool.or_eq_true, Bool.and_eq_true, Bool.or_eq_false_iff, Bool.and_eq_false_iff, Bool.not_eq_true', Bool.not_eq_false', Bool.not_eq_eq_eq_not, Bool.not_true, Bool.not_false, ne_eq, decide_not] at c
        refine Ok.bv fun z65_26 ez65_26 => ?_
        have rz65_26 := (wI64 ez65_26).1
        try replace ez65_26 := (wI64 ez65_26).2 (by omega)
        exact ihn11 _ (by exact ⟨by simp only; omega, hs11.2⟩) (by first | (simp only; omega) | (simp; omega) | (simp; done))
      · skip
        try simp only [ez33_24, ez32_23, ez25_20, decide_eq_true_eq, decide_eq_false_iff_not, Bool.or_eq_true, Bool.and_eq_true, Bool.or_eq_false_iff, Bool.and_eq_false_iff, Bool.not_eq_true', Bool.not_eq_false', Bool.not_eq_eq_eq_not, Bool.not_true, Bool.not_false, ne_eq, decide_not] at c
        refine Ok.ckf (by first | omega | decide | (simp; omega) | (simp; done)) fun k3 => ?_
        refine Ok.bv fun z37_28 ez37_28 => ?_
        have g1 := gelP hx ez37_28 (by omega)
        refine Ok.ckf (by first | omega | decide | (simp; omega) | (simp; done)) fun k4 => ?_
        refine Ok.bv fun z41_30 ez41_30 => ?_
        have g2 := gelP hx1 ez41_30 (by omega)
        refine Ok.ob (lists_Product_tot (by simp) (all2 g1 g2)) fun y44_31 ey44_31 hy44_31 => ?_
        refine Ok.ob (lists_Sum_tot (by simp) (all2 hs11.2 hy44_31.1)) fun y46_32 ey46_32 hy46_32 => ?_
        refine Ok.ckf (by first | omega | decide | (simp; omega) | (simp; done)) fun k5 => ?_
        refine Ok.bv fun z49_35 ez49_35 => ?_
        have g3 := gelP hx ez49_35 (by omega)
        refine Ok.ckf (by first | omega | decide | (simp; omega) | (simp; done)) fun k6 => ?_
        refine Ok.bv fun z53_37 ez53_37 => ?_
        have g4 := gelP hx1 ez53_37 (by omega)
        refine Ok.ob (lists_Product_tot (by simp) (all2 g3 g4)) fun y56_38 ey56_38 hy56_38 => ?_
        refine Ok.bv fun z59_40 ez59_40 => ?_
        refine Ok.it (fun c => ?_) (fun c => ?_)
        · skip
          try simp only [ez59_40, decide_eq_true_eq] at c
          exact Ok.sm (by first | exact hy56_38 | exact hy56_38.1 | first | trivial | assumption | omega | (simp only; omega))
        · skip
          try simp only [ez59_40, decide_eq_false_iff_not] at c
          refine Ok.bv fun z63_42 ez63_42 => ?_
          refine Ok.it (fun c => ?_) (fun c => ?_)
          · skip
            try simp only [ez63_42, decide_eq_true_eq] at c
            exact Ok.sm (by first | exact hy46_32 | exact hy46_32.1 | first | trivial | assumption | omega | (simp only; omega))
          · skip
            try simp only [ez63_42, decide_eq_false_iff_not] at c
            refine Ok.bv fun z65_44 ez65_44 => ?_
            have rz65_44 := (wI64 ez65_44).1
            try replace ez65_44 := (wI64 ez65_44).2 (by omega)
            exact ihn11 _ (by exact ⟨by simp only; omega, hy46_32.1⟩) (by first | (simp only; omega) | (simp; omega) | (simp; done))
    · skip
      try simp only [ez18_13, decide_eq_false_iff_not] at c
      exact hJ9 _ (by exact hs11.2)
end Go.Sp
