/- Functions that have an answer: the law FuncsTexts. -/
import Derived.Test.YtnmkeanoidadcaaGreatDoorPlW
import Derived.Test.YtnmkeanoidadcaaGreatDoorSpH
set_option linter.unusedSimpArgs false
set_option linter.unusedVariables false
set_option linter.unusedSectionVars false
set_option linter.unusedSimpArgs false
set_option linter.unusedVariables false
set_option maxRecDepth 100000
namespace Go.Sp
open Go.Stp Go.ValP
theorem reckonerlaw12_FuncsTexts_tot {x0 : V} {x1 : V} {x2 : V} (h0 : -9223372036854775808 ≤ x0.n ∧ x0.n ≤ 9223372036854775807) (h1 : -9223372036854775808 ≤ x1.n ∧ x1.n ≤ 9223372036854775807) (h2 : -9223372036854775808 ≤ x2.n ∧ x2.n ≤ 9223372036854775807) : Ok (reckonerlaw12_FuncsTexts x0 x1 x2) (fun r => r = true) := by
  unfold reckonerlaw12_FuncsTexts
  refine Ok.ob (Ok.of (P := fun r => r = true) fit_true rfl) fun y14_5 ey14_5 hy14_5 => ?_
  refine Ok.bv fun z15_6 ez15_6 => ?_
  refine Ok.it (fun c => ?_) (fun c => ?_)
  · skip
    try simp only [ez15_6, decide_eq_true_eq, decide_eq_false_iff_not, Bool.or_eq_true, Bool.and_eq_true, Bool.or_eq_false_iff, Bool.and_eq_false_iff, Bool.not_eq_true', Bool.not_eq_false', Bool.not_eq_eq_eq_not, Bool.not_true, Bool.not_false, ne_eq, decide_not] at c
    exact Ok.sm (by rw [hy14_5] at c; cases c)
  · skip
    try simp only [ez15_6, decide_eq_true_eq, decide_eq_false_iff_not, Bool.or_eq_true, Bool.and_eq_true, Bool.or_eq_false_iff, Bool.and_eq_false_iff, Bool.not_eq_true', Bool.not_eq_false', Bool.not_eq_eq_eq_not, Bool.not_true, Bool.not_false, ne_eq, decide_not] at c
    refine Ok.ob (good_rt h0) fun y17_9 ey17_9 hy17_9 => ?_
    refine Ok.bv fun z18_10 ez18_10 => ?_
    refine Ok.ob (Ok.it (P := fun r => z18_10 = false → r = true → Rt x1 ∧ x1.k ≠ 4) (fun _ => (good_rt h1).mono fun _ h _ => h) (fun g => Ok.sm fun h => by rw [h] at g; cases g)) fun y21_11 ey21_11 hy21_11 => ?_
    refine Ok.bv fun z22_12 ez22_12 => ?_
    refine Ok.bv fun z23_13 ez23_13 => ?_
    refine Ok.ob (Ok.it (P := fun r => z23_13 = false → r = true → Rt x2 ∧ x2.k ≠ 4) (fun _ => (good_rt h2).mono fun _ h _ => h) (fun g => Ok.sm fun h => by rw [h] at g; cases g)) fun y26_14 ey26_14 hy26_14 => ?_
    refine Ok.bv fun z27_15 ez27_15 => ?_
    refine Ok.bv fun z28_16 ez28_16 => ?_
    refine Ok.it (fun c => ?_) (fun c => ?_)
    · skip
      try simp only [ez28_16, ez27_15, ez23_13, ez22_12, ez18_10, decide_eq_true_eq, decide_eq_false_iff_not, Bool.or_eq_true, Bool.and_eq_true, Bool.or_eq_false_iff, Bool.and_eq_false_iff, Bool.not_eq_true', Bool.not_eq_false', Bool.not_eq_eq_eq_not, Bool.not_true, Bool.not_false, ne_eq, decide_not] at c
      exact Ok.sm (by first | trivial | assumption | omega | (simp only; omega))
    · skip
      try simp only [ez28_16, ez27_15, ez23_13, ez22_12, ez18_10, decide_eq_true_eq, decide_eq_false_iff_not, Bool.or_eq_true, Bool.and_eq_true, Bool.or_eq_false_iff, Bool.and_eq_false_iff, Bool.not_eq_true', Bool.not_eq_false', Bool.not_eq_eq_eq_not, Bool.not_true, Bool.not_false, ne_eq, decide_not] at c
      have g0 := hy17_9 c.1.1
      have g1 := hy21_11 (by rw [ez18_10, c.1.1]; rfl) c.1.2
      have g2 := hy26_14 (by rw [ez23_13, ez22_12, ez18_10, c.1.1, c.1.2]; rfl) c.2
      refine Ok.ob (value_Show_rt g0.1 g0.2) fun y30_18 ey30_18 hy30_18 => ?_
      refine Ok.ob (value_Show_rt g1.1 g1.2) fun y32_19 ey32_19 hy32_19 => ?_
      refine Ok.ob (value_Show_rt g2.1 g2.2) fun y34_20 ey34_20 hy34_20 => ?_
      have T0 := toText_eq g0.2 ey30_18 hy30_18
      have T1 := toText_eq g1.2 ey32_19 hy32_19
      have T2 := toText_eq g2.2 ey34_20 hy34_20
      refine Ok.bv fun J22 eJ22 => ?_
      have hJ22 : ∀ s22 : Unit, (True) → Ok (J22 s22) (fun r => r = true) := by
        intro s22 hs22
        rw [eJ22]
        refine Ok.ob (value_ToNum_rt g1.1) fun y53_23 ey53_23 hy53_23 => ?_
        refine Ok.bv fun J27 eJ27 => ?_
        have hJ27 : ∀ s27 : Int × Int × (List UInt8), (funcs_Apply 31 [⟨false, 1, [x0]⟩, ⟨false, 1, [x1]⟩] = some ⟨s27.1, s27.2.1, s27.2.2⟩) → Ok (J27 s27) (fun r => r = true) := by
          intro s27 hs27
          rw [eJ27]
          refine Ok.ob (Ok.of (P := fun r => r = 37) nf3_CONCAT.1 rfl) fun y63_28 ey63_28 hy63_28 => ?_
          refine Ok.ob (Ok.sm (P := fun r => r = ⟨false, 1, [x0]⟩) rfl) fun y65_29 ey65_29 hy65_29 => ?_
          refine Ok.ob (Ok.sm (P := fun r => r = ⟨false, 1, [x1]⟩) rfl) fun y67_31 ey67_31 hy67_31 => ?_
          refine Ok.ob (Ok.sm (P := fun r => r = ⟨false, 1, [x2]⟩) rfl) fun y69_33 ey69_33 hy69_33 => ?_
          refine Ok.ob (Ok.mono (P := fun r => texts_More [67, 79, 78, 67, 65, 84] [y30_18, y32_19, y34_20] = some r) (by rw [hy63_28, hy65_29, hy67_31, hy69_33, (applyS (l := [⟨false, 1, [x0]⟩, ⟨false, 1, [x1]⟩, ⟨false, 1, [x2]⟩]) nf3_CONCAT.2.1 nf3_CONCAT.2.2 (by decide)).trans (sBm (by first | rfl | simp) (strs3 T0 T1 T2))]; exact Ok.self (texts_More_tot (by simp) (fun t ht => by simp at ht; rcases ht with rfl | rfl | rfl <;> assumption))) (fun _ h => h)) fun y71_35 ey71_35 hy71_35 => ?_
          refine Ok.ob (Ok.of (P := fun r => r = y71_35) hy71_35 rfl) fun y76_36 ey76_36 hy76_36 => ?_
          refine Ok.bv fun z77_37 ez77_37 => ?_
          have hz77_37 : z77_37 = true := by rw [ez77_37, hy76_36]; simp
          refine Ok.ob (Ok.it (P := fun r => r = 39) (fun _ => Ok.of nf2_FIND.1 rfl) (fun g => by rw [hz77_37] at g; cases g)) fun y79_38 ey79_38 hy79_38 => ?_
          refine Ok.ob (Ok.it (P := fun r => r = ⟨false, 1, [x0]⟩) (fun _ => Ok.sm rfl) (fun g => by rw [hz77_37] at g; cases g)) fun y81_39 ey81_39 hy81_39 => ?_
          refine Ok.ob (Ok.it (P := fun r => r = ⟨false, 1, [x1]⟩) (fun _ => Ok.sm rfl) (fun g => by rw [hz77_37] at g; cases g)) fun y83_41 ey83_41 hy83_41 => ?_
          refine Ok.ob (Ok.it (P := fun r => texts_More [70, 73, 78, 68] [y30_18, y32_19] = some r) (fun _ => by rw [hy79_38, hy81_39, hy83_41, (applyS (l := [⟨false, 1, [x0]⟩, ⟨false, 1, [x1]⟩]) nf2_FIND.2.1 nf2_FIND.2.2 (by decide)).trans (sBm (by first | rfl | simp) (strs2 T0 T1))]; exact Ok.self (texts_More_tot (by simp) (fun t ht => by simp at ht; rcases ht with rfl | rfl <;> assumption))) (fun g => by rw [hz77_37] at g; cases g)) fun y85_43 ey85_43 hy85_43 => ?_
          refine Ok.ob (Ok.it (P := fun r => r = y85_43) (fun _ => Ok.of hy85_43 rfl) (fun g => by rw [hz77_37] at g; cases g)) fun y89_44 ey89_44 hy89_44 => ?_
          refine Ok.bv fun z90_45 ez90_45 => ?_
          have hz90_45 : z90_45 = true := by rw [ez90_45, hy89_44]; simp
          refine Ok.bv fun z91_46 ez91_46 => ?_
          have hz91_46 : z91_46 = true := by rw [ez91_46, hz77_37, hz90_45]; rfl
          refine Ok.ob (Ok.it (P := fun r => r = 40) (fun _ => Ok.of nf3_SUBSTITUTE.1 rfl) (fun g => by rw [hz91_46] at g; cases g)) fun y93_47 ey93_47 hy93_47 => ?_
          refine Ok.ob (Ok.it (P := fun r => r = ⟨false, 1, [x0]⟩) (fun _ => Ok.sm rfl) (fun g => by rw [hz91_46] at g; cases g)) fun y95_48 ey95_48 hy95_48 => ?_
          refine Ok.ob (Ok.it (P := fun r => r = ⟨false, 1, [x1]⟩) (fun _ => Ok.sm rfl) (fun g => by rw [hz91_46] at g; cases g)) fun y97_50 ey97_50 hy97_50 => ?_
          refine Ok.ob (Ok.it (P := fun r => r = ⟨false, 1, [x2]⟩) (fun _ => Ok.sm rfl) (fun g => by rw [hz91_46] at g; cases g)) fun y99_52 ey99_52 hy99_52 => ?_
          refine Ok.ob (Ok.it (P := fun r => texts_More [83, 85, 66, 83, 84, 73, 84, 85, 84, 69] [y30_18, y32_19, y34_20] = some r) (fun _ => by rw [hy93_47, hy95_48, hy97_50, hy99_52, (applyS (l := [⟨false, 1, [x0]⟩, ⟨false, 1, [x1]⟩, ⟨false, 1, [x2]⟩]) nf3_SUBSTITUTE.2.1 nf3_SUBSTITUTE.2.2 (by decide)).trans (sBm (by first | rfl | simp) (strs3 T0 T1 T2))]; exact Ok.self (texts_More_tot (by simp) (fun t ht => by simp at ht; rcases ht with rfl | rfl | rfl <;> assumption))) (fun g => by rw [hz91_46] at g; cases g)) fun y101_54 ey101_54 hy101_54 => ?_
          refine Ok.ob (Ok.it (P := fun r => r = y101_54) (fun _ => Ok.of hy101_54 rfl) (fun g => by rw [hz91_46] at g; cases g)) fun y106_55 ey106_55 hy106_55 => ?_
          refine Ok.bv fun z107_56 ez107_56 => ?_
          have hz107_56 : z107_56 = true := by rw [ez107_56, hy106_55]; simp
          refine Ok.bv fun z108_57 ez108_57 => ?_
          have hz108_57 : z108_57 = true := by rw [ez108_57, hz91_46, hz107_56]; rfl
          refine Ok.ob (Ok.it (P := fun r => r = 31) (fun _ => Ok.of nf2_LEFT.1 rfl) (fun g => by rw [hz108_57] at g; cases g)) fun y110_58 ey110_58 hy110_58 => ?_
          refine Ok.ob (Ok.it (P := fun r => r = ⟨false, 1, [x0]⟩) (fun _ => Ok.sm rfl) (fun g => by rw [hz108_57] at g; cases g)) fun y112_59 ey112_59 hy112_59 => ?_
          refine Ok.ob (Ok.it (P := fun r => r = ⟨false, 1, [x1]⟩) (fun _ => Ok.sm rfl) (fun g => by rw [hz108_57] at g; cases g)) fun y114_61 ey114_61 hy114_61 => ?_
          refine Ok.ob (Ok.it (P := fun r => r = ⟨s27.1, s27.2.1, s27.2.2⟩) (fun _ => by rw [hy110_58, hy112_59, hy114_61]; exact Ok.of hs27 rfl) (fun g => by rw [hz108_57] at g; cases g)) fun y116_63 ey116_63 hy116_63 => ?_
          refine Ok.bv fun z118_64 ez118_64 => ?_
          have hz118_64 : z118_64 = true := by rw [ez118_64, hy116_63]; simp
          refine Ok.bv fun z119_65 ez119_65 => ?_
          have hz119_65 : z119_65 = true := by rw [ez119_65, hz108_57, hz118_64]; rfl
          refine Ok.ob (Ok.it (P := fun r => r = 37) (fun _ => Ok.of nf1_CONCAT.1 rfl) (fun g => by rw [hz119_65] at g; cases g)) fun y121_66 ey121_66 hy121_66 => ?_
          refine Ok.ob (Ok.it (P := fun r => r = ⟨false, 1, [x0]⟩) (fun _ => Ok.sm rfl) (fun g => by rw [hz119_65] at g; cases g)) fun y123_67 ey123_67 hy123_67 => ?_
          refine Ok.ob (Ok.it (P := fun r => texts_More [67, 79, 78, 67, 65, 84] [y30_18] = some r) (fun _ => by rw [hy121_66, hy123_67, (applyS (l := [⟨false, 1, [x0]⟩]) nf1_CONCAT.2.1 nf1_CONCAT.2.2 (by decide)).trans (sBm (by first | rfl | simp) (strs1 T0))]; exact Ok.self (texts_More_tot (by simp) (fun t ht => by simp at ht; subst ht; assumption))) (fun g => by rw [hz119_65] at g; cases g)) fun y125_69 ey125_69 hy125_69 => ?_
          refine Ok.ob (Ok.it (P := fun r => r = y125_69) (fun _ => Ok.of hy125_69 rfl) (fun g => by rw [hz119_65] at g; cases g)) fun y128_70 ey128_70 hy128_70 => ?_
          refine Ok.bv fun z129_71 ez129_71 => ?_
          have hz129_71 : z129_71 = true := by rw [ez129_71, hy128_70]; simp
          refine Ok.bv fun z130_72 ez130_72 => ?_
          have hz130_72 : z130_72 = true := by rw [ez130_72, hz119_65, hz129_71]; rfl
          exact Ok.sm (by exact hz130_72)
        clear eJ27
        refine Ok.bv fun z57_73 ez57_73 => ?_
        refine Ok.it (fun c => ?_) (fun c => ?_)
        · skip
          try simp only [ez57_73, decide_eq_true_eq, decide_eq_false_iff_not, Bool.or_eq_true, Bool.and_eq_true, Bool.or_eq_false_iff, Bool.and_eq_false_iff, Bool.not_eq_true', Bool.not_eq_false', Bool.not_eq_eq_eq_not, Bool.not_true, Bool.not_false, ne_eq, decide_not] at c
          have ca := c
          refine Ok.ob (texts_Part_tot hy30_18 (by simp) (fun x hx => by rw [List.mem_singleton.1 hx]; have := hy53_23.1.n; omega) (fun g => by cases g)) fun y62_76 ey62_76 hy62_76 => ?_
          exact hJ27 _ (by rw [(applyP (l := [⟨false, 1, [x0]⟩, ⟨false, 1, [x1]⟩]) nf2_LEFT.2.1 nf2_LEFT.2.2 (by decide)).trans (pB2 (strs1 T0) ey53_23), if_neg ca]; exact ey62_76)
        · skip
          try simp only [ez57_73, decide_eq_true_eq, decide_eq_false_iff_not, Bool.or_eq_true, Bool.and_eq_true, Bool.or_eq_false_iff, Bool.and_eq_false_iff, Bool.not_eq_true', Bool.not_eq_false', Bool.not_eq_eq_eq_not, Bool.not_true, Bool.not_false, ne_eq, decide_not] at c
          have ca := c
          exact hJ27 _ (by rw [(applyP (l := [⟨false, 1, [x0]⟩, ⟨false, 1, [x1]⟩]) nf2_LEFT.2.1 nf2_LEFT.2.2 (by decide)).trans (pB2 (strs1 T0) ey53_23), if_pos ca])
      clear eJ22
      refine Ok.bv fun B79 eB79 => ?_
      subst eB79
      refine Ok.lp (fun s79 : Int => (0 ≤ s79 ∧ s79 ≤ ((([([76, 69, 78] : List UInt8), ([85, 80, 80, 69, 82] : List UInt8), ([76, 79, 87, 69, 82] : List UInt8), ([84, 82, 73, 77] : List UInt8), ([86, 65, 76, 85, 69] : List UInt8)]).length : Int)))) (fun s79 => (((([([76, 69, 78] : List UInt8), ([85, 80, 80, 69, 82] : List UInt8), ([76, 79, 87, 69, 82] : List UInt8), ([84, 82, 73, 77] : List UInt8), ([86, 65, 76, 85, 69] : List UInt8)]).length : Int)) - s79).toNat) (by first | trivial | omega | (simp only; omega) | (simp only; refine ⟨by omega, ?_⟩; first | assumption | omega) | (simp; omega) | (simp; done)) (by first | (simp only; omega) | (simp; omega) | (simp; done)) fun s79 hs79 nextn79 ihn79 => ?_
      refine Ok.bv fun z38_81 ez38_81 => ?_
      refine Ok.it (fun c => ?_) (fun c => ?_)
      · skip
        try simp only [ez38_81, decide_eq_true_eq] at c
        refine Ok.ckf (by first | omega | decide | (simp; omega) | (simp; done)) fun k1 => ?_
        refine Ok.bv fun z39_86 ez39_86 => ?_
        have hm : z39_86 ∈ onsN := by rw [ez39_86]; exact gel_mem k1
        have hk5 : s79 < 5 := by have := k1.2; simpa using this
        obtain ⟨cc, hc⟩ := ons_num hm
        refine Ok.ob (Ok.of (P := fun _ => True) hc trivial) fun y42_87 ey42_87 hy42_87 => ?_
        refine Ok.ob (Ok.sm (P := fun r => r = ⟨false, 1, [x0]⟩) rfl) fun y44_88 ey44_88 hy44_88 => ?_
        refine Ok.ob (Ok.mono (P := fun r => texts_One z39_86 y30_18 = some r) (by rw [hy44_88, ons_eq hm T0 ey42_87]; exact Ok.self (texts_One_tot hy30_18)) (fun _ h => h)) fun y46_90 ey46_90 hy46_90 => ?_
        refine Ok.ob (Ok.of (P := fun r => r = y46_90) hy46_90 rfl) fun y49_91 ey49_91 hy49_91 => ?_
        refine Ok.bv fun z50_92 ez50_92 => ?_
        refine Ok.it (fun c => ?_) (fun c => ?_)
        · skip
          try simp only [ez50_92, decide_eq_true_eq, decide_eq_false_iff_not, Bool.or_eq_true, Bool.and_eq_true, Bool.or_eq_false_iff, Bool.and_eq_false_iff, Bool.not_eq_true', Bool.not_eq_false', Bool.not_eq_eq_eq_not, Bool.not_true, Bool.not_false, ne_eq, decide_not] at c
          exact Ok.sm (by rw [hy49_91] at c; simp at c)
        · skip
          try simp only [ez50_92, decide_eq_true_eq, decide_eq_false_iff_not, Bool.or_eq_true, Bool.and_eq_true, Bool.or_eq_false_iff, Bool.and_eq_false_iff, Bool.not_eq_true', Bool.not_eq_false', Bool.not_eq_eq_eq_not, Bool.not_true, Bool.not_false, ne_eq, decide_not] at c
          refine Ok.bv fun z51_94 ez51_94 => ?_
          have rz51_94 := (wI64 ez51_94).1
          try replace ez51_94 := (wI64 ez51_94).2 (by omega)
          exact ihn79 _ (by first | trivial | omega | (simp only; omega) | (simp only; refine ⟨by omega, ?_⟩; first | assumption | omega) | (simp; omega) | (simp; done)) (by first | (simp only; omega) | (simp; omega) | (simp; done))
      · skip
        try simp only [ez38_81, decide_eq_false_iff_not] at c
        exact hJ22 _ (by first | trivial | assumption | omega | (simp only; omega) | (simp only; assumption) | (simp; omega) | (simp; done))
end Go.Sp
