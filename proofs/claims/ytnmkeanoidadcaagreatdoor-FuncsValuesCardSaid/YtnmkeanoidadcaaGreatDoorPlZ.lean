/- Functions that have an answer: the law FuncsValues. -/
import Derived.Test.YtnmkeanoidadcaaGreatDoorPlY
import Derived.Test.YtnmkeanoidadcaaGreatDoorSpE
set_option linter.unusedSimpArgs false
set_option linter.unusedVariables false
set_option linter.unusedSectionVars false
set_option linter.unusedSimpArgs false
set_option linter.unusedVariables false
set_option maxRecDepth 100000
namespace Go.Sp
open Go.Stp Go.ValP
theorem reckonerlaw12_FuncsValues_tot {x0 : Int} {x1 : List (V)} {x2 : Int} (h0 : -9223372036854775808 ≤ x0 ∧ x0 ≤ 9223372036854775807) (hx : ∀ x ∈ x1, -9223372036854775808 ≤ x.n ∧ x.n ≤ 9223372036854775807) : Ok (reckonerlaw12_FuncsValues x0 x1 x2) (fun r => r = true) := by
  unfold reckonerlaw12_FuncsValues
  refine Ok.ob (Ok.of (P := fun r => r = true) fit_true rfl) fun y16_2 ey16_2 hy16_2 => ?_
  refine Ok.bv fun z17_3 ez17_3 => ?_
  refine Ok.it (fun c => ?_) (fun c => ?_)
  · skip
    try simp only [ez17_3, decide_eq_true_eq, decide_eq_false_iff_not, Bool.or_eq_true, Bool.and_eq_true, Bool.or_eq_false_iff, Bool.and_eq_false_iff, Bool.not_eq_true', Bool.not_eq_false', Bool.not_eq_eq_eq_not, Bool.not_true, Bool.not_false, ne_eq, decide_not] at c
    exact Ok.sm (by rw [hy16_2] at c; cases c)
  · skip
    try simp only [ez17_3, decide_eq_true_eq, decide_eq_false_iff_not, Bool.or_eq_true, Bool.and_eq_true, Bool.or_eq_false_iff, Bool.and_eq_false_iff, Bool.not_eq_true', Bool.not_eq_false', Bool.not_eq_eq_eq_not, Bool.not_true, Bool.not_false, ne_eq, decide_not] at c
    refine Ok.bv fun z19_5 ez19_5 => ?_
    refine Ok.bv fun z20_6 ez20_6 => ?_
    have t1 := tmod_bd x0 (c := 49) (by decide)
    rw [← ez19_5] at t1
    have rz20_6 := (wI64 ez20_6).1
    try replace ez20_6 := (wI64 ez20_6).2 (by omega)
    refine Ok.bv fun z21_7 ez21_7 => ?_
    refine Ok.bv fun z22_8 ez22_8 => ?_
    have t2 := tmod_bd z20_6 (c := 49) (by decide)
    rw [← ez21_7] at t2
    have rz22_8 := (wI64 ez22_8).1
    try replace ez22_8 := (wI64 ez22_8).2 (by omega)
    refine Ok.bv fun z25_10 ez25_10 => ?_
    refine Ok.it (fun c => ?_) (fun c => ?_)
    · skip
      try simp only [ez25_10, decide_eq_true_eq] at c
      exact Ok.sm (by first | trivial | assumption | omega | (simp only; omega))
    · skip
      try simp only [ez25_10, decide_eq_false_iff_not] at c
      refine Ok.bv fun J13 eJ13 => ?_
      have hJ13 : ∀ s13 : Unit, (∀ x ∈ x1, Rt x ∧ x.k ≠ 4) → Ok (J13 s13) (fun r => r = true) := by
        intro s13 hs13
        rw [eJ13]
        have hG := hs13
        refine Ok.bv fun J15 eJ15 => ?_
        have hJ15 : ∀ s15 : (List (Arg)), (s15.length ≤ 30 ∧ ∀ a ∈ s15, ArgOk a) → Ok (J15 s15) (fun r => r = true) := by
          intro s15 hs15
          rw [eJ15]
          refine Ok.bv fun J19 eJ19 => ?_
          have hJ19 : ∀ s19 : Unit, (True) → Ok (J19 s19) (fun r => r = true) := by
            intro s19 hs19
            rw [eJ19]
            exact Ok.sm (by first | trivial | assumption | omega | (simp only; omega))
          clear eJ19
          refine Ok.bv fun z67_20 ez67_20 => ?_
          have rz67_20 := (wI64 ez67_20).1
          try replace ez67_20 := (wI64 ez67_20).2 (by omega)
          refine Ok.bv fun B22 eB22 => ?_
          subst eB22
          refine Ok.lp (fun s22 : Int => (0 ≤ s22 ∧ s22 ≤ z67_20)) (fun s22 => (z67_20 - s22).toNat) (by first | trivial | omega | (simp only; omega) | (simp only; refine ⟨by omega, ?_⟩; first | assumption | omega) | (simp; omega) | (simp; done)) (by first | (simp only; omega) | (simp; omega) | (simp; done)) fun s22 hs22 nextn22 ihn22 => ?_
          refine Ok.bv fun z69_24 ez69_24 => ?_
          refine Ok.it (fun c => ?_) (fun c => ?_)
          · skip
            try simp only [ez69_24, decide_eq_true_eq] at c
            refine Ok.bv fun z72_29 ez72_29 => ?_
            refine Ok.it (fun c => ?_) (fun c => ?_)
            · skip
              try simp only [ez72_29, decide_eq_true_eq] at c
              exact hJ19 _ (by first | trivial | assumption | omega | (simp only; omega) | (simp only; assumption) | (simp; omega) | (simp; done))
            · skip
              try simp only [ez72_29, decide_eq_false_iff_not] at c
              refine Ok.ckf (by first | omega | decide | (simp; omega) | (simp; done)) fun k1 => ?_
              refine Ok.bv fun z76_32 ez76_32 => ?_
              have lz76_32 := cutL_len s15 (0 : Int) s22 (by omega)
              rw [← ez76_32] at lz76_32
              have az76_32 := all_cut hs15.2 (0 : Int) s22
              rw [← ez76_32] at az76_32
              refine Ok.ob (funcs_Apply_tot (by omega) (by omega) az76_32) fun y77_34 ey77_34 hy77_34 => ?_
              obtain ⟨nm, b, hnm, hfit, _⟩ := tree_tot (c := z22_8) (n := z76_32.length) (by omega) (by omega)
              rw [show (z76_32.length : Int) = s22 by omega] at hfit
              refine Ok.ob (Ok.of (P := fun r => r = true) hy77_34.right rfl) fun y79_36 ey79_36 hy79_36 => ?_
              refine Ok.bv fun z80_37 ez80_37 => ?_
              refine Ok.ob (Ok.it (P := fun r => tree_Fits z22_8 s22 = some r) (fun _ => Ok.of hfit hfit) (fun g => by rw [ez80_37, hy79_36] at g; cases g)) fun y84_38 ey84_38 hy84_38 => ?_
              refine Ok.bv fun z85_39 ez85_39 => ?_
              refine Ok.ob (Ok.it (P := fun r => z85_39 = true → r = ⟨4, 2, []⟩) (fun _ => Ok.of rfl (fun _ => rfl)) (fun g => Ok.sm fun h => by rw [ez80_37, hy79_36, h] at g; cases g)) fun y88_40 ey88_40 hy88_40 => ?_
              refine Ok.bv fun z89_41 ez89_41 => ?_
              refine Ok.bv fun z90_42 ez90_42 => ?_
              refine Ok.bv fun z91_43 ez91_43 => ?_
              refine Ok.it (fun c => ?_) (fun c => ?_)
              · skip
                try simp only [ez91_43, ez90_42, ez89_41, ez85_39, ez80_37, decide_eq_true_eq, decide_eq_false_iff_not, Bool.or_eq_true, Bool.and_eq_true, Bool.or_eq_false_iff, Bool.and_eq_false_iff, Bool.not_eq_true', Bool.not_eq_false', Bool.not_eq_eq_eq_not, Bool.not_true, Bool.not_false, ne_eq, decide_not] at c
                refine Ok.sm ?_
                rw [hy79_36] at c
                rcases c with c | ⟨c1, c2⟩
                · cases c
                · rw [c1] at hy84_38
                  have e1 := apply_unfit hnm (l := z76_32) (by rw [show (z76_32.length : Int) = s22 by omega]; exact hy84_38)
                  rw [e1] at ey77_34
                  have e2 := Option.some.inj ey77_34
                  have e3 := hy88_40 (by rw [ez85_39, c1]; rfl)
                  rw [← e2, e3] at c2
                  simp at c2
              · skip
                try simp only [ez91_43, ez90_42, ez89_41, ez85_39, ez80_37, decide_eq_true_eq, decide_eq_false_iff_not, Bool.or_eq_true, Bool.and_eq_true, Bool.or_eq_false_iff, Bool.and_eq_false_iff, Bool.not_eq_true', Bool.not_eq_false', Bool.not_eq_eq_eq_not, Bool.not_true, Bool.not_false, ne_eq, decide_not] at c
                refine Ok.bv fun z92_45 ez92_45 => ?_
                have rz92_45 := (wI64 ez92_45).1
                try replace ez92_45 := (wI64 ez92_45).2 (by omega)
                exact ihn22 _ (by first | trivial | omega | (simp only; omega) | (simp only; refine ⟨by omega, ?_⟩; first | assumption | omega) | (simp; omega) | (simp; done)) (by first | (simp only; omega) | (simp; omega) | (simp; done))
          · skip
            try simp only [ez69_24, decide_eq_false_iff_not] at c
            exact hJ19 _ (by first | trivial | assumption | omega | (simp only; omega) | (simp only; assumption) | (simp; omega) | (simp; done))
        clear eJ15
        refine Ok.bv fun B47 eB47 => ?_
        subst eB47
        refine Ok.lp (fun s47 : Int × (List (Arg)) => (0 ≤ s47.1 ∧ s47.1 ≤ (x1.length : Int)) ∧ (s47.2.length : Int) = s47.1 ∧ ∀ a ∈ s47.2, ArgOk a) (fun s47 => ((x1.length : Int) - s47.1).toNat) (by first | trivial | omega | (simp only; omega) | (simp only; refine ⟨by omega, ?_⟩; first | assumption | omega) | (simp; omega) | (simp; done)) (by first | (simp only; omega) | (simp; omega) | (simp; done)) fun s47 hs47 nextn47 ihn47 => ?_
        refine Ok.bv fun z39_50 ez39_50 => ?_
        refine Ok.it (fun c => ?_) (fun c => ?_)
        · skip
          try simp only [ez39_50, decide_eq_true_eq] at c
          refine Ok.ckf (by first | omega | decide | (simp; omega) | (simp; done)) fun k2 => ?_
          refine Ok.bv fun z41_55 ez41_55 => ?_
          refine Ok.ob (Ok.sm (P := fun _ => True) trivial) fun y44_57 ey44_57 hy44_57 => ?_
          have hza : ArgOk y44_57 := by rw [← Option.some.inj ey44_57]; exact ⟨by simp, fun x h => by rw [List.mem_singleton.1 h]; exact hG _ (by rw [ez41_55]; exact gel_mem (by omega)), .inl rfl⟩
          refine Ok.bv fun J61 eJ61 => ?_
          have hJ61 : ∀ s61 : Bool × Int × (List (V)), (ArgOk ⟨s61.1, s61.2.1, s61.2.2⟩) → Ok (J61 s61) (fun r => r = true) := by
            intro s61 hs61
            rw [eJ61]
            refine Ok.ckf (by first | omega | decide | (simp; omega) | (simp; done)) fun k3 => ?_
            refine Ok.bv fun z63_66 ez63_66 => ?_
            refine Ok.bv fun z64_67 ez64_67 => ?_
            have rz64_67 := (wI64 ez64_67).1
            try replace ez64_67 := (wI64 ez64_67).2 (by omega)
            exact ihn47 _ (by refine ⟨by simp only; omega, by simp only [ez63_66, List.length_append, List.length_singleton]; omega, ?_⟩; simp only [ez63_66]; exact all_snoc hs47.2.2 hs61) (by first | (simp only; omega) | (simp; omega) | (simp; done))
          clear eJ61
          refine Ok.bv fun z46_68 ez46_68 => ?_
          refine Ok.bv fun z47_69 ez47_69 => ?_
          refine Ok.it (fun c => ?_) (fun c => ?_)
          · skip
            try simp only [ez47_69, decide_eq_true_eq] at c
            refine Ok.bv fun z49_71 ez49_71 => ?_
            have hv := and1 x2
            rw [← ez49_71] at hv
            refine Ok.bv fun z50_72 ez50_72 => ?_
            have rz50_72 := (wI64 ez50_72).1
            try replace ez50_72 := (wI64 ez50_72).2 (by omega)
            refine Ok.ckf (by first | omega | decide | (simp; omega) | (simp; done)) fun k4 => ?_
            refine Ok.bv fun z55_74 ez55_74 => ?_
            have hv2 : z50_72 = 1 ∨ z50_72 = 2 := by omega
            rw [Int.tdiv_eq_ediv_of_nonneg (by omega)] at ez55_74
            have hd : 0 ≤ s47.1 / z50_72 ∧ 0 ≤ s47.1 / z50_72 * z50_72 ∧ s47.1 / z50_72 * z50_72 ≤ s47.1 ∧ s47.1 / z50_72 ≤ s47.1 := by rcases hv2 with h | h <;> rw [h] <;> omega
            try have qz55_74 := tdiv_nat s47.1 z50_72
            have rz55_74 := (wI64 ez55_74).1
            try replace ez55_74 := (wI64 ez55_74).2 (by omega)
            refine Ok.bv fun z57_75 ez57_75 => ?_
            rw [ez55_74] at ez57_75
            have rz57_75 := (wI64 ez57_75).1
            try replace ez57_75 := (wI64 ez57_75).2 (by omega)
            refine Ok.ckf (by first | omega | decide | (simp; omega) | (simp; done)) fun k5 => ?_
            refine Ok.bv fun z58_77 ez58_77 => ?_
            have lz58_77 := cutL_len x1 (0 : Int) z57_75 (by omega)
            rw [← ez58_77] at lz58_77
            exact hJ61 _ (by exact ⟨by simp only; omega, by rw [ez58_77]; exact all_cut hG _ _, hv2⟩)
          · skip
            try simp only [ez47_69, decide_eq_false_iff_not] at c
            exact hJ61 _ (by exact hza)
        · skip
          try simp only [ez39_50, decide_eq_false_iff_not] at c
          exact hJ15 _ (by exact ⟨by omega, hs47.2.2⟩)
      clear eJ13
      refine Ok.bv fun B80 eB80 => ?_
      subst eB80
      refine Ok.lp (fun s80 : Int => (0 ≤ s80 ∧ s80 ≤ (x1.length : Int)) ∧ (∀ j : Nat, (j : Int) < s80 → ∀ x, x1[j]? = some x → Rt x ∧ x.k ≠ 4)) (fun s80 => ((x1.length : Int) - s80).toNat) (by first | trivial | omega | (simp only; omega) | (simp only; refine ⟨by omega, ?_⟩; first | assumption | omega) | (simp; omega) | (simp; done)) (by first | (simp only; omega) | (simp; omega) | (simp; done)) fun s80 hs80 nextn80 ihn80 => ?_
      refine Ok.bv fun z29_82 ez29_82 => ?_
      refine Ok.it (fun c => ?_) (fun c => ?_)
      · skip
        try simp only [ez29_82, decide_eq_true_eq] at c
        refine Ok.ckf (by first | omega | decide | (simp; omega) | (simp; done)) fun k6 => ?_
        refine Ok.bv fun z30_87 ez30_87 => ?_
        have hg := hx _ (gel_mem (l := x1) (i := s80) (by omega))
        rw [← ez30_87] at hg
        refine Ok.ob (good_rt hg) fun y33_89 ey33_89 hy33_89 => ?_
        refine Ok.bv fun z34_90 ez34_90 => ?_
        refine Ok.it (fun c => ?_) (fun c => ?_)
        · skip
          try simp only [ez34_90, decide_eq_true_eq, decide_eq_false_iff_not, Bool.or_eq_true, Bool.and_eq_true, Bool.or_eq_false_iff, Bool.and_eq_false_iff, Bool.not_eq_true', Bool.not_eq_false', Bool.not_eq_eq_eq_not, Bool.not_true, Bool.not_false, ne_eq, decide_not] at c
          exact Ok.sm (by first | trivial | assumption | omega | (simp only; omega))
        · skip
          try simp only [ez34_90, decide_eq_true_eq, decide_eq_false_iff_not, Bool.or_eq_true, Bool.and_eq_true, Bool.or_eq_false_iff, Bool.and_eq_false_iff, Bool.not_eq_true', Bool.not_eq_false', Bool.not_eq_eq_eq_not, Bool.not_true, Bool.not_false, ne_eq, decide_not] at c
          refine Ok.bv fun z35_92 ez35_92 => ?_
          have rz35_92 := (wI64 ez35_92).1
          try replace ez35_92 := (wI64 ez35_92).2 (by omega)
          exact ihn80 _ (by refine ⟨by omega, fun j hj x hxj => ?_⟩; exact dite ((j : Int) < s80) (fun hjl => hs80.2 j hjl x hxj) (fun hjl => by have hje : j = s80.toNat := (by omega); rw [hje, gel_some (by omega), ← ez30_87] at hxj; rw [← Option.some.inj hxj]; exact hy33_89 c)) (by first | (simp only; omega) | (simp; omega) | (simp; done))
      · skip
        try simp only [ez29_82, decide_eq_false_iff_not] at c
        exact hJ13 _ (by intro x hxm; obtain ⟨j, hj, rfl⟩ := List.mem_iff_getElem.1 hxm; exact hs80.2 j (by omega) _ (List.getElem?_eq_getElem hj))
end Go.Sp
