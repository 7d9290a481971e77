/- Functions that have an answer: the law FuncsNumbers. -/
import Derived.Test.YtnmkeanoidadcaaGreatDoorPlX
import Derived.Test.YtnmkeanoidadcaaGreatDoorSpG
set_option linter.unusedSimpArgs false
set_option linter.unusedVariables false
set_option linter.unusedSectionVars false
set_option linter.unusedSimpArgs false
set_option linter.unusedVariables false
set_option maxRecDepth 100000
namespace Go.Sp
open Go.Stp Go.ValP
theorem reckonerlaw12_FuncsNumbers_tot {x0 : V} {x1 : V} (h0 : -9223372036854775808 ≤ x0.n ∧ x0.n ≤ 9223372036854775807) (h1 : -9223372036854775808 ≤ x1.n ∧ x1.n ≤ 9223372036854775807) : Ok (reckonerlaw12_FuncsNumbers x0 x1) (fun r => r = true) := by
  unfold reckonerlaw12_FuncsNumbers
  refine Ok.ob (Ok.of (P := fun r => r = true) fit_true rfl) fun y13_4 ey13_4 hy13_4 => ?_
  refine Ok.bv fun z14_5 ez14_5 => ?_
  refine Ok.it (fun c => ?_) (fun c => ?_)
  · skip
    try simp only [ez14_5, decide_eq_true_eq, decide_eq_false_iff_not, Bool.or_eq_true, Bool.and_eq_true, Bool.or_eq_false_iff, Bool.and_eq_false_iff, Bool.not_eq_true', Bool.not_eq_false', Bool.not_eq_eq_eq_not, Bool.not_true, Bool.not_false, ne_eq, decide_not] at c
    exact Ok.sm (by rw [hy13_4] at c; cases c)
  · skip
    try simp only [ez14_5, decide_eq_true_eq, decide_eq_false_iff_not, Bool.or_eq_true, Bool.and_eq_true, Bool.or_eq_false_iff, Bool.and_eq_false_iff, Bool.not_eq_true', Bool.not_eq_false', Bool.not_eq_eq_eq_not, Bool.not_true, Bool.not_false, ne_eq, decide_not] at c
    refine Ok.ob (good_rt h0) fun y16_8 ey16_8 hy16_8 => ?_
    refine Ok.bv fun z17_9 ez17_9 => ?_
    refine Ok.ob (Ok.it (P := fun r => z17_9 = false → r = true → Rt x1 ∧ x1.k ≠ 4) (fun _ => (good_rt h1).mono fun _ h _ => h) (fun g => Ok.sm fun h => by rw [h] at g; cases g)) fun y20_10 ey20_10 hy20_10 => ?_
    refine Ok.bv fun z21_11 ez21_11 => ?_
    refine Ok.bv fun z22_12 ez22_12 => ?_
    refine Ok.it (fun c => ?_) (fun c => ?_)
    · skip
      try simp only [ez22_12, ez21_11, ez17_9, decide_eq_true_eq, decide_eq_false_iff_not, Bool.or_eq_true, Bool.and_eq_true, Bool.or_eq_false_iff, Bool.and_eq_false_iff, Bool.not_eq_true', Bool.not_eq_false', Bool.not_eq_eq_eq_not, Bool.not_true, Bool.not_false, ne_eq, decide_not] at c
      exact Ok.sm (by first | trivial | assumption | omega | (simp only; omega))
    · skip
      try simp only [ez22_12, ez21_11, ez17_9, decide_eq_true_eq, decide_eq_false_iff_not, Bool.or_eq_true, Bool.and_eq_true, Bool.or_eq_false_iff, Bool.and_eq_false_iff, Bool.not_eq_true', Bool.not_eq_false', Bool.not_eq_eq_eq_not, Bool.not_true, Bool.not_false, ne_eq, decide_not] at c
      have g0 := hy16_8 c.1
      have g1 := hy20_10 (by rw [ez17_9, c.1]; rfl) c.2
      refine Ok.ob (value_ToNum_rt g0.1) fun y24_14 ey24_14 hy24_14 => ?_
      refine Ok.ob (value_ToNum_rt g1.1) fun y26_15 ey26_15 hy26_15 => ?_
      refine Ok.bv fun J19 eJ19 => ?_
      have hJ19 : ∀ s19 : Unit, (True) → Ok (J19 s19) (fun r => r = true) := by
        intro s19 hs19
        rw [eJ19]
        refine Ok.bv fun J21 eJ21 => ?_
        have hJ21 : ∀ s21 : Unit, (True) → Ok (J21 s21) (fun r => r = true) := by
          intro s21 hs21
          rw [eJ21]
          exact Ok.sm (by first | trivial | assumption | omega | (simp only; omega))
        clear eJ21
        refine Ok.bv fun B24 eB24 => ?_
        subst eB24
        refine Ok.lp (fun s24 : Int => (0 ≤ s24 ∧ s24 ≤ ((([([82, 79, 85, 78, 68] : List UInt8), ([77, 79, 68] : List UInt8), ([80, 79, 87, 69, 82] : List UInt8), ([81, 85, 79, 84, 73, 69, 78, 84] : List UInt8), ([71, 67, 68] : List UInt8), ([76, 67, 77] : List UInt8)]).length : Int)))) (fun s24 => (((([([82, 79, 85, 78, 68] : List UInt8), ([77, 79, 68] : List UInt8), ([80, 79, 87, 69, 82] : List UInt8), ([81, 85, 79, 84, 73, 69, 78, 84] : List UInt8), ([71, 67, 68] : List UInt8), ([76, 67, 77] : List UInt8)]).length : Int)) - s24).toNat) (by first | trivial | omega | (simp only; omega) | (simp only; refine ⟨by omega, ?_⟩; first | assumption | omega) | (simp; omega) | (simp; done)) (by first | (simp only; omega) | (simp; omega) | (simp; done)) fun s24 hs24 nextn24 ihn24 => ?_
        refine Ok.bv fun z60_26 ez60_26 => ?_
        refine Ok.it (fun c => ?_) (fun c => ?_)
        · skip
          try simp only [ez60_26, decide_eq_true_eq] at c
          refine Ok.ckf (by first | omega | decide | (simp; omega) | (simp; done)) fun k1 => ?_
          refine Ok.bv fun z61_31 ez61_31 => ?_
          have hm : z61_31 ∈ twoN := by rw [ez61_31]; exact gel_mem k1
          have hk6 : s24 < 6 := by have := k1.2; simpa using this
          obtain ⟨cc, hc⟩ := two_num hm
          refine Ok.bv fun J34 eJ34 => ?_
          have hJ34 : ∀ s34 : Int × Int × (List UInt8), (∀ c, tree_Number z61_31 = some c → funcs_Apply c [⟨false, 1, [x0]⟩, ⟨false, 1, [x1]⟩] = some ⟨s34.1, s34.2.1, s34.2.2⟩) → Ok (J34 s34) (fun r => r = true) := by
            intro s34 hs34
            rw [eJ34]
            refine Ok.ob (Ok.of (P := fun _ => True) hc trivial) fun y78_35 ey78_35 hy78_35 => ?_
            refine Ok.ob (Ok.sm (P := fun r => r = ⟨false, 1, [x0]⟩) rfl) fun y80_36 ey80_36 hy80_36 => ?_
            refine Ok.ob (Ok.sm (P := fun r => r = ⟨false, 1, [x1]⟩) rfl) fun y82_38 ey82_38 hy82_38 => ?_
            refine Ok.ob (Ok.of (P := fun r => r = ⟨s34.1, s34.2.1, s34.2.2⟩) (by rw [hy80_36, hy82_38]; exact hs34 _ ey78_35) rfl) fun y84_40 ey84_40 hy84_40 => ?_
            refine Ok.bv fun z86_41 ez86_41 => ?_
            refine Ok.it (fun c => ?_) (fun c => ?_)
            · skip
              try simp only [ez86_41, decide_eq_true_eq, decide_eq_false_iff_not, Bool.or_eq_true, Bool.and_eq_true, Bool.or_eq_false_iff, Bool.and_eq_false_iff, Bool.not_eq_true', Bool.not_eq_false', Bool.not_eq_eq_eq_not, Bool.not_true, Bool.not_false, ne_eq, decide_not] at c
              exact Ok.sm (by rw [hy84_40] at c; simp at c)
            · skip
              try simp only [ez86_41, decide_eq_true_eq, decide_eq_false_iff_not, Bool.or_eq_true, Bool.and_eq_true, Bool.or_eq_false_iff, Bool.and_eq_false_iff, Bool.not_eq_true', Bool.not_eq_false', Bool.not_eq_eq_eq_not, Bool.not_true, Bool.not_false, ne_eq, decide_not] at c
              refine Ok.bv fun z87_43 ez87_43 => ?_
              have rz87_43 := (wI64 ez87_43).1
              try replace ez87_43 := (wI64 ez87_43).2 (by omega)
              exact ihn24 _ (by first | trivial | omega | (simp only; omega) | (simp only; refine ⟨by omega, ?_⟩; first | assumption | omega) | (simp; omega) | (simp; done)) (by first | (simp only; omega) | (simp; omega) | (simp; done))
          clear eJ34
          refine Ok.bv fun z66_44 ez66_44 => ?_
          refine Ok.it (fun c => ?_) (fun c => ?_)
          · skip
            try simp only [ez66_44, decide_eq_true_eq, decide_eq_false_iff_not, Bool.or_eq_true, Bool.and_eq_true, Bool.or_eq_false_iff, Bool.and_eq_false_iff, Bool.not_eq_true', Bool.not_eq_false', Bool.not_eq_eq_eq_not, Bool.not_true, Bool.not_false, ne_eq, decide_not] at c
            have ca := c
            refine Ok.bv fun z70_46 ez70_46 => ?_
            refine Ok.it (fun c => ?_) (fun c => ?_)
            · skip
              try simp only [ez70_46, decide_eq_true_eq, decide_eq_false_iff_not, Bool.or_eq_true, Bool.and_eq_true, Bool.or_eq_false_iff, Bool.and_eq_false_iff, Bool.not_eq_true', Bool.not_eq_false', Bool.not_eq_eq_eq_not, Bool.not_true, Bool.not_false, ne_eq, decide_not] at c
              have cb := c
              refine Ok.ob (maths_Two_tot (by have := hy24_14.1.n; omega) (by have := hy26_15.1.n; omega)) fun y76_48 ey76_48 hy76_48 => ?_
              exact hJ34 _ (by intro c1 h1; rw [two_eq hm ey24_14 ey26_15 h1, if_neg ca, if_neg cb]; exact ey76_48)
            · skip
              try simp only [ez70_46, decide_eq_true_eq, decide_eq_false_iff_not, Bool.or_eq_true, Bool.and_eq_true, Bool.or_eq_false_iff, Bool.and_eq_false_iff, Bool.not_eq_true', Bool.not_eq_false', Bool.not_eq_eq_eq_not, Bool.not_true, Bool.not_false, ne_eq, decide_not] at c
              have cb := c
              exact hJ34 _ (by intro c1 h1; rw [two_eq hm ey24_14 ey26_15 h1, if_neg ca, if_pos cb])
          · skip
            try simp only [ez66_44, decide_eq_true_eq, decide_eq_false_iff_not, Bool.or_eq_true, Bool.and_eq_true, Bool.or_eq_false_iff, Bool.and_eq_false_iff, Bool.not_eq_true', Bool.not_eq_false', Bool.not_eq_eq_eq_not, Bool.not_true, Bool.not_false, ne_eq, decide_not] at c
            have ca := c
            exact hJ34 _ (by intro c1 h1; rw [two_eq hm ey24_14 ey26_15 h1, if_pos ca])
        · skip
          try simp only [ez60_26, decide_eq_false_iff_not] at c
          exact hJ21 _ (by first | trivial | assumption | omega | (simp only; omega) | (simp only; assumption) | (simp; omega) | (simp; done))
      clear eJ19
      refine Ok.bv fun B51 eB51 => ?_
      subst eB51
      refine Ok.lp (fun s51 : Int => (0 ≤ s51 ∧ s51 ≤ ((([([65, 66, 83] : List UInt8), ([83, 73, 71, 78] : List UInt8), ([73, 78, 84] : List UInt8), ([84, 82, 85, 78, 67] : List UInt8), ([69, 86, 69, 78] : List UInt8), ([79, 68, 68] : List UInt8), ([70, 65, 67, 84] : List UInt8)]).length : Int)))) (fun s51 => (((([([65, 66, 83] : List UInt8), ([83, 73, 71, 78] : List UInt8), ([73, 78, 84] : List UInt8), ([84, 82, 85, 78, 67] : List UInt8), ([69, 86, 69, 78] : List UInt8), ([79, 68, 68] : List UInt8), ([70, 65, 67, 84] : List UInt8)]).length : Int)) - s51).toNat) (by first | trivial | omega | (simp only; omega) | (simp only; refine ⟨by omega, ?_⟩; first | assumption | omega) | (simp; omega) | (simp; done)) (by first | (simp only; omega) | (simp; omega) | (simp; done)) fun s51 hs51 nextn51 ihn51 => ?_
      refine Ok.bv fun z30_53 ez30_53 => ?_
      refine Ok.it (fun c => ?_) (fun c => ?_)
      · skip
        try simp only [ez30_53, decide_eq_true_eq] at c
        refine Ok.ckf (by first | omega | decide | (simp; omega) | (simp; done)) fun k2 => ?_
        refine Ok.bv fun z31_58 ez31_58 => ?_
        have hm : z31_58 ∈ oneN := by rw [ez31_58]; exact gel_mem k2
        have hk7 : s51 < 7 := by have := k2.2; simpa using this
        obtain ⟨cc, hc⟩ := one_num hm
        refine Ok.bv fun J61 eJ61 => ?_
        have hJ61 : ∀ s61 : Int × Int × (List UInt8), (∀ c, tree_Number z31_58 = some c → funcs_Apply c [⟨false, 1, [x0]⟩] = some ⟨s61.1, s61.2.1, s61.2.2⟩) → Ok (J61 s61) (fun r => r = true) := by
          intro s61 hs61
          rw [eJ61]
          refine Ok.ob (Ok.of (P := fun _ => True) hc trivial) fun y42_62 ey42_62 hy42_62 => ?_
          refine Ok.ob (Ok.sm (P := fun r => r = ⟨false, 1, [x0]⟩) rfl) fun y44_63 ey44_63 hy44_63 => ?_
          refine Ok.ob (Ok.of (P := fun r => r = ⟨s61.1, s61.2.1, s61.2.2⟩) (by rw [hy44_63]; exact hs61 _ ey42_62) rfl) fun y46_65 ey46_65 hy46_65 => ?_
          refine Ok.bv fun z48_66 ez48_66 => ?_
          have hz48 : z48_66 = false := by rw [ez48_66, hy46_65]; simp
          refine Ok.ob (Ok.it (P := fun r => tree_Number z31_58 = some r) (fun _ => Ok.of hc hc) (fun g => by rw [hz48] at g; cases g)) fun y51_67 ey51_67 hy51_67 => ?_
          refine Ok.ob (Ok.it (P := fun r => r = ⟨4, 2, []⟩) (fun _ => Ok.of (one_unfit hm hy51_67) rfl) (fun g => by rw [hz48] at g; cases g)) fun y52_68 ey52_68 hy52_68 => ?_
          refine Ok.ob (Ok.it (P := fun r => r = ⟨4, 2, []⟩) (fun _ => Ok.of rfl rfl) (fun g => by rw [hz48] at g; cases g)) fun y53_69 ey53_69 hy53_69 => ?_
          refine Ok.bv fun z54_70 ez54_70 => ?_
          refine Ok.bv fun z55_71 ez55_71 => ?_
          refine Ok.it (fun c => ?_) (fun c => ?_)
          · skip
            try simp only [ez55_71, ez54_70, ez48_66, decide_eq_true_eq, decide_eq_false_iff_not, Bool.or_eq_true, Bool.and_eq_true, Bool.or_eq_false_iff, Bool.and_eq_false_iff, Bool.not_eq_true', Bool.not_eq_false', Bool.not_eq_eq_eq_not, Bool.not_true, Bool.not_false, ne_eq, decide_not] at c
            exact Ok.sm (by rw [hy46_65, hy52_68, hy53_69] at c; simp at c)
          · skip
            try simp only [ez55_71, ez54_70, ez48_66, decide_eq_true_eq, decide_eq_false_iff_not, Bool.or_eq_true, Bool.and_eq_true, Bool.or_eq_false_iff, Bool.and_eq_false_iff, Bool.not_eq_true', Bool.not_eq_false', Bool.not_eq_eq_eq_not, Bool.not_true, Bool.not_false, ne_eq, decide_not] at c
            refine Ok.bv fun z56_73 ez56_73 => ?_
            have rz56_73 := (wI64 ez56_73).1
            try replace ez56_73 := (wI64 ez56_73).2 (by omega)
            exact ihn51 _ (by first | trivial | omega | (simp only; omega) | (simp only; refine ⟨by omega, ?_⟩; first | assumption | omega) | (simp; omega) | (simp; done)) (by first | (simp only; omega) | (simp; omega) | (simp; done))
        clear eJ61
        refine Ok.bv fun z36_74 ez36_74 => ?_
        refine Ok.it (fun c => ?_) (fun c => ?_)
        · skip
          try simp only [ez36_74, decide_eq_true_eq, decide_eq_false_iff_not, Bool.or_eq_true, Bool.and_eq_true, Bool.or_eq_false_iff, Bool.and_eq_false_iff, Bool.not_eq_true', Bool.not_eq_false', Bool.not_eq_eq_eq_not, Bool.not_true, Bool.not_false, ne_eq, decide_not] at c
          have ca := c
          refine Ok.ob (maths_One_tot (by have := hy24_14.1.n; omega)) fun y40_76 ey40_76 hy40_76 => ?_
          exact hJ61 _ (by intro c1 h1; rw [one_eq hm ey24_14 h1, if_neg ca]; exact ey40_76)
        · skip
          try simp only [ez36_74, decide_eq_true_eq, decide_eq_false_iff_not, Bool.or_eq_true, Bool.and_eq_true, Bool.or_eq_false_iff, Bool.and_eq_false_iff, Bool.not_eq_true', Bool.not_eq_false', Bool.not_eq_eq_eq_not, Bool.not_true, Bool.not_false, ne_eq, decide_not] at c
          have ca := c
          exact hJ61 _ (by intro c1 h1; rw [one_eq hm ey24_14 h1, if_pos ca])
      · skip
        try simp only [ez30_53, decide_eq_false_iff_not] at c
        exact hJ19 _ (by first | trivial | assumption | omega | (simp only; omega) | (simp only; assumption) | (simp; omega) | (simp; done))
end Go.Sp
