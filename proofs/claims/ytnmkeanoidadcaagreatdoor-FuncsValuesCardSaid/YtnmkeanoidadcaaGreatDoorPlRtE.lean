/- Functions that have an answer: package funcs. -/
import Derived.Test.YtnmkeanoidadcaaGreatDoorPlRtD
set_option linter.unusedSimpArgs false
set_option linter.unusedVariables false
set_option linter.unusedSectionVars false
set_option linter.unusedSimpArgs false
set_option linter.unusedVariables false
set_option maxRecDepth 100000
namespace Go.Sp
open Go.Stp Go.ValP
/-- The functions of the language by name, with the least and the greatest number of arguments. -/
def arT : List (List UInt8 × Nat × Nat) := [([73, 70], 2, 3),
  ([73, 70, 69, 82, 82, 79, 82], 2, 2),
  ([65, 78, 68], 1, 9),
  ([79, 82], 1, 9),
  ([67, 72, 79, 79, 83, 69], 2, 9),
  ([65, 66, 83], 1, 1),
  ([83, 73, 71, 78], 1, 1),
  ([73, 78, 84], 1, 1),
  ([82, 79, 85, 78, 68], 2, 2),
  ([77, 79, 68], 2, 2),
  ([80, 79, 87, 69, 82], 2, 2),
  ([81, 85, 79, 84, 73, 69, 78, 84], 2, 2),
  ([71, 67, 68], 2, 2),
  ([76, 67, 77], 2, 2),
  ([70, 65, 67, 84], 1, 1),
  ([69, 86, 69, 78], 1, 1),
  ([79, 68, 68], 1, 1),
  ([84, 82, 85, 78, 67], 1, 1),
  ([77, 73, 78], 1, 9),
  ([77, 65, 88], 1, 9),
  ([83, 85, 77], 1, 9),
  ([80, 82, 79, 68, 85, 67, 84], 1, 9),
  ([67, 79, 85, 78, 84], 1, 9),
  ([67, 79, 85, 78, 84, 65], 1, 9),
  ([67, 79, 85, 78, 84, 66, 76, 65, 78, 75], 1, 1),
  ([65, 86, 69, 82, 65, 71, 69], 1, 9),
  ([83, 85, 77, 73, 70], 2, 2),
  ([67, 79, 85, 78, 84, 73, 70], 2, 2),
  ([83, 85, 77, 80, 82, 79, 68, 85, 67, 84], 2, 2),
  ([76, 69, 78], 1, 1),
  ([76, 69, 70, 84], 2, 2),
  ([82, 73, 71, 72, 84], 2, 2),
  ([77, 73, 68], 3, 3),
  ([85, 80, 80, 69, 82], 1, 1),
  ([76, 79, 87, 69, 82], 1, 1),
  ([84, 82, 73, 77], 1, 1),
  ([67, 79, 78, 67, 65, 84], 1, 9),
  ([82, 69, 80, 84], 2, 2),
  ([70, 73, 78, 68], 2, 2),
  ([83, 85, 66, 83, 84, 73, 84, 85, 84, 69], 3, 3),
  ([69, 88, 65, 67, 84], 2, 2),
  ([86, 65, 76, 85, 69], 1, 1),
  ([78, 79, 84], 1, 1),
  ([73, 83, 78, 85, 77, 66, 69, 82], 1, 1),
  ([73, 83, 84, 69, 88, 84], 1, 1),
  ([73, 83, 66, 76, 65, 78, 75], 1, 1),
  ([73, 83, 69, 82, 82, 79, 82], 1, 1),
  ([73, 83, 76, 79, 71, 73, 67, 65, 76], 1, 1),
  ([78, 65], 0, 0),
  ([73, 78, 68, 69, 88], 3, 3),
  ([77, 65, 84, 67, 72], 2, 2),
  ([86, 76, 79, 79, 75, 85, 80], 3, 3),
  ([82, 79, 87, 83], 1, 1),
  ([67, 79, 76, 85, 77, 78, 83], 1, 1)]
def loN (nm : List UInt8) : Nat := ((arT.find? fun x => x.1 == nm).map fun x => x.2.1).getD 0
def hiN (nm : List UInt8) : Nat := ((arT.find? fun x => x.1 == nm).map fun x => x.2.2).getD 0
def treeOk (c n : Nat) : Bool := match tree_Name (c + 6 : Nat), tree_Fits (c + 6 : Nat) (n : Nat) with
  | some nm, some b => !b || (decide (loN nm ≤ n) && decide (n ≤ hiN nm) && (decide (nm = [78, 65]) || decide (1 ≤ n)))
  | _, _ => false
theorem treeOk_all : ((List.range 49).all fun c => (List.range 10).all fun n => treeOk c n) = true := by decide +kernel
theorem tree_tot {c : Int} {n : Nat} (h : 6 ≤ c ∧ c ≤ 54) (hn : n ≤ 9) : ∃ nm b, tree_Name c = some nm ∧ tree_Fits c (n : Int) = some b ∧ (b = true → loN nm ≤ n ∧ n ≤ hiN nm ∧ (nm = [78, 65] ∨ 1 ≤ n)) := by
  have h1 := List.all_eq_true.1 (List.all_eq_true.1 treeOk_all (c - 6).toNat (List.mem_range.2 (by omega))) n (List.mem_range.2 (by omega))
  unfold treeOk at h1
  rw [show (((c - 6).toNat + 6 : Nat) : Int) = c by omega] at h1
  split at h1
  · rename_i nm b e1 e2
    refine ⟨nm, b, e1, e2, fun hb => ?_⟩
    subst hb
    simp at h1
    exact ⟨h1.1.1, h1.1.2, h1.2⟩
  · cases h1
/-- An argument of a function of the language. -/
structure ArgOk (a : Arg) : Prop where
  len : a.l.length ≤ 100
  mem : ∀ x ∈ a.l, Rt x ∧ x.k ≠ 4
  cols : a.cols = 1 ∨ a.cols = 2
theorem ArgOk.rt {a : Arg} (h : ArgOk a) : ∀ x ∈ a.l, Rt x := fun x hx => (h.mem x hx).1
theorem ArgOk.len1 {a : Arg} (h : ArgOk a) : a.l.length ≤ 1000 := by have := h.len; omega
theorem rt0 : Rt ⟨0, 0, []⟩ := .inl ⟨rfl, rfl, rfl⟩
theorem funcs_single_tot {x0 : Arg} (h : ArgOk x0) : Ok (funcs_single x0) (Rt) := by
  unfold funcs_single
  refine Ok.bv fun z6_4 ez6_4 => ?_
  refine Ok.it (fun c => ?_) (fun c => ?_)
  · skip
    try simp only [ez6_4, decide_eq_true_eq, decide_eq_false_iff_not, Bool.or_eq_true, Bool.and_eq_true, Bool.or_eq_false_iff, Bool.and_eq_false_iff, Bool.not_eq_true', Bool.not_eq_false', Bool.not_eq_eq_eq_not, Bool.not_true, Bool.not_false, ne_eq, decide_not] at c
    refine Ok.ob (value_Fail_tot (by first | trivial | assumption | omega | (simp only; omega) | (simp only; assumption) | (simp; omega) | (simp; done))) fun y7_6 ey7_6 hy7_6 => ?_
    exact Ok.sm (by first | exact hy7_6 | exact hy7_6.1 | first | trivial | assumption | omega | (simp only; omega))
  · skip
    try simp only [ez6_4, decide_eq_true_eq, decide_eq_false_iff_not, Bool.or_eq_true, Bool.and_eq_true, Bool.or_eq_false_iff, Bool.and_eq_false_iff, Bool.not_eq_true', Bool.not_eq_false', Bool.not_eq_eq_eq_not, Bool.not_true, Bool.not_false, ne_eq, decide_not] at c
    refine Ok.ckf (by first | omega | decide | (simp; omega) | (simp; done)) fun k1 => ?_
    refine Ok.bv fun z10_8 ez10_8 => ?_
    exact Ok.sm (by exact gelP h.rt ez10_8 (by omega))

theorem funcs_nums_tot {x0 : List (Arg)} (hl : x0.length ≤ 9) (hx : ∀ a ∈ x0, ArgOk a) : Ok (funcs_nums x0) (fun r => Rt r.2 ∧ (r.2.k ≠ 4 → r.1.length = x0.length ∧ ∀ x ∈ r.1, -9223372036854775807 ≤ x ∧ x ≤ 9223372036854775807)) := by
  unfold funcs_nums
  refine Ok.bv fun J3 eJ3 => ?_
  have hJ3 : ∀ s3 : Int × Int × (List UInt8) × (List (Int)), (s3.2.2.2.length = x0.length ∧ ∀ x ∈ s3.2.2.2, -9223372036854775807 ≤ x ∧ x ≤ 9223372036854775807) → Ok (J3 s3) (fun r => Rt r.2 ∧ (r.2.k ≠ 4 → r.1.length = x0.length ∧ ∀ x ∈ r.1, -9223372036854775807 ≤ x ∧ x ≤ 9223372036854775807)) := by
    intro s3 hs3
    rw [eJ3]
    exact Ok.sm (by exact ⟨rt0, fun _ => hs3⟩)
  clear eJ3
  refine Ok.bv fun B6 eB6 => ?_
  subst eB6
  refine Ok.lp (fun s6 : Int × Int × Int × (List UInt8) × (List (Int)) => (0 ≤ s6.1 ∧ s6.1 ≤ (x0.length : Int)) ∧ (s6.2.2.2.2.length : Int) = s6.1 ∧ ∀ x ∈ s6.2.2.2.2, -9223372036854775807 ≤ x ∧ x ≤ 9223372036854775807) (fun s6 => ((x0.length : Int) - s6.1).toNat) (by refine ⟨by simp only; omega, rfl, fun x hx => ?_⟩; cases hx) (by first | (simp only; omega) | (simp; omega) | (simp; done)) fun s6 hs6 nextn6 ihn6 => ?_
  refine Ok.bv fun z11_9 ez11_9 => ?_
  refine Ok.it (fun c => ?_) (fun c => ?_)
  · skip
    try simp only [ez11_9, decide_eq_true_eq] at c
    refine Ok.ckf (by first | omega | decide | (simp; omega) | (simp; done)) fun k1 => ?_
    refine Ok.bv fun z12_14 ez12_14 => ?_
    have gz12_14 := gelP hx ez12_14 (by omega)
    refine Ok.ob (funcs_single_tot gz12_14) fun y15_17 ey15_17 hy15_17 => ?_
    refine Ok.ob (value_ToNum_rt hy15_17) fun y16_18 ey16_18 hy16_18 => ?_
    have hn := hy16_18.1.n
    refine Ok.bv fun z19_21 ez19_21 => ?_
    refine Ok.it (fun c => ?_) (fun c => ?_)
    · skip
      try simp only [ez19_21, decide_eq_true_eq] at c
      exact Ok.sm (by exact ⟨hy16_18.1, fun g => absurd c g⟩)
    · skip
      try simp only [ez19_21, decide_eq_false_iff_not] at c
      refine Ok.ckf (by first | omega | decide | (simp; omega) | (simp; done)) fun k2 => ?_
      refine Ok.bv fun z25_26 ez25_26 => ?_
      refine Ok.bv fun z26_27 ez26_27 => ?_
      have rz26_27 := (wI64 ez26_27).1
      try replace ez26_27 := (wI64 ez26_27).2 (by omega)
      exact ihn6 _ (by refine ⟨by simp only; omega, by simp only [ez25_26, List.length_append, List.length_singleton]; omega, ?_⟩; simp only [ez25_26]; exact all_snoc hs6.2.2 hn) (by first | (simp only; omega) | (simp; omega) | (simp; done))
  · skip
    try simp only [ez11_9, decide_eq_false_iff_not] at c
    exact hJ3 _ (by exact ⟨by simp only; omega, hs6.2.2⟩)

theorem funcs_strs_tot {x0 : List (Arg)} (hl : x0.length ≤ 9) (hx : ∀ a ∈ x0, ArgOk a) : Ok (funcs_strs x0) (fun r => Rt r.2 ∧ (r.2.k ≠ 4 → r.1.length = x0.length ∧ ∀ t ∈ r.1, t.length ≤ 64)) := by
  unfold funcs_strs
  refine Ok.bv fun J3 eJ3 => ?_
  have hJ3 : ∀ s3 : Int × Int × (List UInt8) × (List (List UInt8)), (s3.2.2.2.length = x0.length ∧ ∀ t ∈ s3.2.2.2, t.length ≤ 64) → Ok (J3 s3) (fun r => Rt r.2 ∧ (r.2.k ≠ 4 → r.1.length = x0.length ∧ ∀ t ∈ r.1, t.length ≤ 64)) := by
    intro s3 hs3
    rw [eJ3]
    exact Ok.sm (by exact ⟨rt0, fun _ => hs3⟩)
  clear eJ3
  refine Ok.bv fun B6 eB6 => ?_
  subst eB6
  refine Ok.lp (fun s6 : Int × Int × Int × (List UInt8) × (List (List UInt8)) => (0 ≤ s6.1 ∧ s6.1 ≤ (x0.length : Int)) ∧ (s6.2.2.2.2.length : Int) = s6.1 ∧ ∀ t ∈ s6.2.2.2.2, t.length ≤ 64) (fun s6 => ((x0.length : Int) - s6.1).toNat) (by refine ⟨by simp only; omega, rfl, fun x hx => ?_⟩; cases hx) (by first | (simp only; omega) | (simp; omega) | (simp; done)) fun s6 hs6 nextn6 ihn6 => ?_
  refine Ok.bv fun z11_9 ez11_9 => ?_
  refine Ok.it (fun c => ?_) (fun c => ?_)
  · skip
    try simp only [ez11_9, decide_eq_true_eq] at c
    refine Ok.ckf (by first | omega | decide | (simp; omega) | (simp; done)) fun k1 => ?_
    refine Ok.bv fun z12_14 ez12_14 => ?_
    have gz12_14 := gelP hx ez12_14 (by omega)
    refine Ok.ob (funcs_single_tot gz12_14) fun y15_17 ey15_17 hy15_17 => ?_
    refine Ok.ob (value_ToText_tot hy15_17) fun y16_18 ey16_18 hy16_18 => ?_
    have hn := hy16_18.len
    refine Ok.bv fun z19_21 ez19_21 => ?_
    refine Ok.it (fun c => ?_) (fun c => ?_)
    · skip
      try simp only [ez19_21, decide_eq_true_eq] at c
      exact Ok.sm (by exact ⟨hy16_18, fun g => absurd c g⟩)
    · skip
      try simp only [ez19_21, decide_eq_false_iff_not] at c
      refine Ok.ckf (by first | omega | decide | (simp; omega) | (simp; done)) fun k2 => ?_
      refine Ok.bv fun z25_26 ez25_26 => ?_
      refine Ok.bv fun z26_27 ez26_27 => ?_
      have rz26_27 := (wI64 ez26_27).1
      try replace ez26_27 := (wI64 ez26_27).2 (by omega)
      exact ihn6 _ (by refine ⟨by simp only; omega, by simp only [ez25_26, List.length_append, List.length_singleton]; omega, ?_⟩; simp only [ez25_26]; exact all_snoc hs6.2.2 hn) (by first | (simp only; omega) | (simp; omega) | (simp; done))
  · skip
    try simp only [ez11_9, decide_eq_false_iff_not] at c
    exact hJ3 _ (by exact ⟨by simp only; omega, hs6.2.2⟩)

theorem funcs_all_tot {x0 : List (Arg)} (hl : x0.length ≤ 9) (hx : ∀ a ∈ x0, ArgOk a) : Ok (funcs_all x0) (fun r => r.length ≤ 1000 ∧ ∀ x ∈ r, Rt x) := by
  unfold funcs_all
  refine Ok.bv fun J2 eJ2 => ?_
  have hJ2 : ∀ s2 : (List (V)), (s2.length ≤ 1000 ∧ ∀ x ∈ s2, Rt x) → Ok (J2 s2) (fun r => r.length ≤ 1000 ∧ ∀ x ∈ r, Rt x) := by
    intro s2 hs2
    rw [eJ2]
    exact Ok.sm (by first | trivial | assumption | omega | (simp only; omega))
  clear eJ2
  refine Ok.bv fun B5 eB5 => ?_
  subst eB5
  refine Ok.lp (fun s5 : Int × (List (V)) => (0 ≤ s5.1 ∧ s5.1 ≤ (x0.length : Int)) ∧ (s5.2.length : Int) ≤ 100 * s5.1 ∧ ∀ x ∈ s5.2, Rt x) (fun s5 => ((x0.length : Int) - s5.1).toNat) (by refine ⟨by simp only; omega, by simp, fun x hx => ?_⟩; cases hx) (by first | (simp only; omega) | (simp; omega) | (simp; done)) fun s5 hs5 nextn5 ihn5 => ?_
  refine Ok.bv fun z9_8 ez9_8 => ?_
  refine Ok.it (fun c => ?_) (fun c => ?_)
  · skip
    try simp only [ez9_8, decide_eq_true_eq] at c
    refine Ok.ckf (by first | omega | decide | (simp; omega) | (simp; done)) fun k1 => ?_
    refine Ok.bv fun z10_13 ez10_13 => ?_
    have gz10_13 := gelP hx ez10_13 (by omega)
    have hzl := gz10_13.len
    refine Ok.ckf (by first | omega | decide | (simp; omega) | (simp; done)) fun k2 => ?_
    refine Ok.bv fun z15_18 ez15_18 => ?_
    refine Ok.bv fun z16_19 ez16_19 => ?_
    have rz16_19 := (wI64 ez16_19).1
    try replace ez16_19 := (wI64 ez16_19).2 (by omega)
    exact ihn5 _ (by refine ⟨by simp only; omega, by simp only [ez15_18, List.length_append]; omega, ?_⟩; simp only [ez15_18]; exact all_app hs5.2.2 gz10_13.rt) (by first | (simp only; omega) | (simp; omega) | (simp; done))
  · skip
    try simp only [ez9_8, decide_eq_false_iff_not] at c
    exact hJ2 _ (by exact ⟨by omega, hs5.2.2⟩)

theorem funcs_kind_tot {x0 : List UInt8} {x1 : V} (h : Rt x1) : Ok (funcs_kind x0 x1) (Rt) := by
  unfold funcs_kind
  refine Ok.bv fun z8_5 ez8_5 => ?_
  refine Ok.it (fun c => ?_) (fun c => ?_)
  · skip
    try simp only [ez8_5, decide_eq_true_eq] at c
    refine Ok.bv fun z11_7 ez11_7 => ?_
    refine Ok.ob (value_Bool_tot) fun y12_8 ey12_8 hy12_8 => ?_
    exact Ok.sm (by first | exact hy12_8 | exact hy12_8.1 | first | trivial | assumption | omega | (simp only; omega))
  · skip
    try simp only [ez8_5, decide_eq_false_iff_not] at c
    refine Ok.bv fun z14_9 ez14_9 => ?_
    refine Ok.it (fun c => ?_) (fun c => ?_)
    · skip
      try simp only [ez14_9, decide_eq_true_eq] at c
      refine Ok.bv fun z17_11 ez17_11 => ?_
      refine Ok.ob (value_Bool_tot) fun y18_12 ey18_12 hy18_12 => ?_
      exact Ok.sm (by first | exact hy18_12 | exact hy18_12.1 | first | trivial | assumption | omega | (simp only; omega))
    · skip
      try simp only [ez14_9, decide_eq_false_iff_not] at c
      refine Ok.bv fun z20_13 ez20_13 => ?_
      refine Ok.it (fun c => ?_) (fun c => ?_)
      · skip
        try simp only [ez20_13, decide_eq_true_eq] at c
        refine Ok.bv fun z23_15 ez23_15 => ?_
        refine Ok.ob (value_Bool_tot) fun y24_16 ey24_16 hy24_16 => ?_
        exact Ok.sm (by first | exact hy24_16 | exact hy24_16.1 | first | trivial | assumption | omega | (simp only; omega))
      · skip
        try simp only [ez20_13, decide_eq_false_iff_not] at c
        refine Ok.bv fun z26_17 ez26_17 => ?_
        refine Ok.it (fun c => ?_) (fun c => ?_)
        · skip
          try simp only [ez26_17, decide_eq_true_eq] at c
          refine Ok.bv fun z29_19 ez29_19 => ?_
          refine Ok.ob (value_Bool_tot) fun y30_20 ey30_20 hy30_20 => ?_
          exact Ok.sm (by first | exact hy30_20 | exact hy30_20.1 | first | trivial | assumption | omega | (simp only; omega))
        · skip
          try simp only [ez26_17, decide_eq_false_iff_not] at c
          refine Ok.bv fun z32_21 ez32_21 => ?_
          refine Ok.it (fun c => ?_) (fun c => ?_)
          · skip
            try simp only [ez32_21, decide_eq_true_eq] at c
            refine Ok.bv fun z35_23 ez35_23 => ?_
            refine Ok.ob (value_Bool_tot) fun y36_24 ey36_24 hy36_24 => ?_
            exact Ok.sm (by first | exact hy36_24 | exact hy36_24.1 | first | trivial | assumption | omega | (simp only; omega))
          · skip
            try simp only [ez32_21, decide_eq_false_iff_not] at c
            refine Ok.bv fun z38_25 ez38_25 => ?_
            refine Ok.it (fun c => ?_) (fun c => ?_)
            · skip
              try simp only [ez38_25, decide_eq_true_eq] at c
              refine Ok.ob (value_ToBool_tot h) fun y40_27 ey40_27 hy40_27 => ?_
              refine Ok.bv fun z43_30 ez43_30 => ?_
              refine Ok.it (fun c => ?_) (fun c => ?_)
              · skip
                try simp only [ez43_30, decide_eq_true_eq] at c
                exact Ok.sm (by first | exact hy40_27 | exact hy40_27.1 | first | trivial | assumption | omega | (simp only; omega))
              · skip
                try simp only [ez43_30, decide_eq_false_iff_not] at c
                refine Ok.bv fun z47_32 ez47_32 => ?_
                refine Ok.ob (value_Bool_tot) fun y48_33 ey48_33 hy48_33 => ?_
                exact Ok.sm (by first | exact hy48_33 | exact hy48_33.1 | first | trivial | assumption | omega | (simp only; omega))
            · skip
              try simp only [ez38_25, decide_eq_false_iff_not] at c
              refine Ok.ob (value_Fail_tot (by first | trivial | assumption | omega | (simp only; omega) | (simp only; assumption) | (simp; omega) | (simp; done))) fun y49_34 ey49_34 hy49_34 => ?_
              exact Ok.sm (by first | exact hy49_34 | exact hy49_34.1 | first | trivial | assumption | omega | (simp only; omega))

theorem funcs_list_tot {x0 : List UInt8} {x1 : List (Arg)} (hl : x1.length ≤ 9) (hx : ∀ a ∈ x1, ArgOk a) (hN : loN x0 ≤ x1.length) (hK : x0 = [78, 65] ∨ 1 ≤ x1.length) : Ok (funcs_list x0 x1) (Rt) := by
  unfold funcs_list
  refine Ok.bv fun J5 eJ5 => ?_
  have hJ5 : ∀ s5 : Bool, (True) → Ok (J5 s5) (Rt) := by
    intro s5 hs5
    rw [eJ5]
    refine Ok.it (fun c => ?_) (fun c => ?_)
    · skip
      refine Ok.bv fun z14_7 ez14_7 => ?_
      refine Ok.ob (funcs_all_tot (by first | trivial | assumption | omega | (simp only; omega) | (simp only; assumption) | (simp; omega) | (simp; done)) (by first | trivial | assumption | omega | (simp only; omega) | (simp only; assumption) | (simp; omega) | (simp; done))) fun y16_8 ey16_8 hy16_8 => ?_
      refine Ok.ob (lists_Extreme_tot hy16_8.1 hy16_8.2) fun y17_10 ey17_10 hy17_10 => ?_
      exact Ok.sm (by first | exact hy17_10 | exact hy17_10.1 | first | trivial | assumption | omega | (simp only; omega))
    · skip
      refine Ok.bv fun z19_11 ez19_11 => ?_
      refine Ok.it (fun c => ?_) (fun c => ?_)
      · skip
        try simp only [ez19_11, decide_eq_true_eq] at c
        refine Ok.ob (funcs_all_tot (by first | trivial | assumption | omega | (simp only; omega) | (simp only; assumption) | (simp; omega) | (simp; done)) (by first | trivial | assumption | omega | (simp only; omega) | (simp only; assumption) | (simp; omega) | (simp; done))) fun y21_13 ey21_13 hy21_13 => ?_
        refine Ok.ob (lists_Sum_tot hy21_13.1 hy21_13.2) fun y22_15 ey22_15 hy22_15 => ?_
        exact Ok.sm (by first | exact hy22_15 | exact hy22_15.1 | first | trivial | assumption | omega | (simp only; omega))
      · skip
        try simp only [ez19_11, decide_eq_false_iff_not] at c
        refine Ok.bv fun z24_16 ez24_16 => ?_
        refine Ok.it (fun c => ?_) (fun c => ?_)
        · skip
          try simp only [ez24_16, decide_eq_true_eq] at c
          refine Ok.ob (funcs_all_tot (by first | trivial | assumption | omega | (simp only; omega) | (simp only; assumption) | (simp; omega) | (simp; done)) (by first | trivial | assumption | omega | (simp only; omega) | (simp only; assumption) | (simp; omega) | (simp; done))) fun y26_18 ey26_18 hy26_18 => ?_
          refine Ok.ob (lists_Product_tot hy26_18.1 hy26_18.2) fun y27_20 ey27_20 hy27_20 => ?_
          exact Ok.sm (by first | exact hy27_20 | exact hy27_20.1 | first | trivial | assumption | omega | (simp only; omega))
        · skip
          try simp only [ez24_16, decide_eq_false_iff_not] at c
          refine Ok.bv fun z29_21 ez29_21 => ?_
          refine Ok.it (fun c => ?_) (fun c => ?_)
          · skip
            try simp only [ez29_21, decide_eq_true_eq] at c
            refine Ok.ob (funcs_all_tot (by first | trivial | assumption | omega | (simp only; omega) | (simp only; assumption) | (simp; omega) | (simp; done)) (by first | trivial | assumption | omega | (simp only; omega) | (simp only; assumption) | (simp; omega) | (simp; done))) fun y31_23 ey31_23 hy31_23 => ?_
            refine Ok.ob (lists_Count_tot hy31_23.1) fun y32_25 ey32_25 hy32_25 => ?_
            exact Ok.sm (by first | exact hy32_25 | exact hy32_25.1 | first | trivial | assumption | omega | (simp only; omega))
          · skip
            try simp only [ez29_21, decide_eq_false_iff_not] at c
            refine Ok.bv fun z34_26 ez34_26 => ?_
            refine Ok.it (fun c => ?_) (fun c => ?_)
            · skip
              try simp only [ez34_26, decide_eq_true_eq] at c
              refine Ok.ob (funcs_all_tot (by first | trivial | assumption | omega | (simp only; omega) | (simp only; assumption) | (simp; omega) | (simp; done)) (by first | trivial | assumption | omega | (simp only; omega) | (simp only; assumption) | (simp; omega) | (simp; done))) fun y36_28 ey36_28 hy36_28 => ?_
              refine Ok.ob (lists_Count_tot hy36_28.1) fun y37_30 ey37_30 hy37_30 => ?_
              exact Ok.sm (by first | exact hy37_30 | exact hy37_30.1 | first | trivial | assumption | omega | (simp only; omega))
            · skip
              try simp only [ez34_26, decide_eq_false_iff_not] at c
              refine Ok.bv fun z39_31 ez39_31 => ?_
              refine Ok.it (fun c => ?_) (fun c => ?_)
              · skip
                try simp only [ez39_31, decide_eq_true_eq] at c
                refine Ok.ob (funcs_all_tot (by first | trivial | assumption | omega | (simp only; omega) | (simp only; assumption) | (simp; omega) | (simp; done)) (by first | trivial | assumption | omega | (simp only; omega) | (simp only; assumption) | (simp; omega) | (simp; done))) fun y41_33 ey41_33 hy41_33 => ?_
                refine Ok.ob (lists_Count_tot hy41_33.1) fun y42_35 ey42_35 hy42_35 => ?_
                exact Ok.sm (by first | exact hy42_35 | exact hy42_35.1 | first | trivial | assumption | omega | (simp only; omega))
              · skip
                try simp only [ez39_31, decide_eq_false_iff_not] at c
                refine Ok.bv fun z44_36 ez44_36 => ?_
                refine Ok.it (fun c => ?_) (fun c => ?_)
                · skip
                  try simp only [ez44_36, decide_eq_true_eq] at c
                  refine Ok.ob (funcs_all_tot (by first | trivial | assumption | omega | (simp only; omega) | (simp only; assumption) | (simp; omega) | (simp; done)) (by first | trivial | assumption | omega | (simp only; omega) | (simp only; assumption) | (simp; omega) | (simp; done))) fun y46_38 ey46_38 hy46_38 => ?_
                  refine Ok.ob (lists_Average_tot hy46_38.1 hy46_38.2) fun y47_40 ey47_40 hy47_40 => ?_
                  exact Ok.sm (by first | exact hy47_40 | exact hy47_40.1 | first | trivial | assumption | omega | (simp only; omega))
                · skip
                  try simp only [ez44_36, decide_eq_false_iff_not] at c
                  refine Ok.bv fun z49_41 ez49_41 => ?_
                  refine Ok.it (fun c => ?_) (fun c => ?_)
                  · skip
                    try simp only [ez49_41, decide_eq_true_eq] at c
                    have h2 : 2 ≤ x1.length := by rw [c] at hN; exact Nat.le_trans (by decide) hN
                    refine Ok.ckf (by first | omega | decide | (simp; omega) | (simp; done)) fun k1 => ?_
                    refine Ok.bv fun z51_44 ez51_44 => ?_
                    have gz51_44 := gelP hx ez51_44 (by omega)
                    refine Ok.ob (funcs_single_tot gz51_44) fun y53_46 ey53_46 hy53_46 => ?_
                    refine Ok.ckf (by first | omega | decide | (simp; omega) | (simp; done)) fun k2 => ?_
                    refine Ok.bv fun z55_48 ez55_48 => ?_
                    have gz55_48 := gelP hx ez55_48 (by omega)
                    refine Ok.ob (lists_CountIf_tot gz55_48.len1) fun y58_50 ey58_50 hy58_50 => ?_
                    exact Ok.sm (by first | exact hy58_50 | exact hy58_50.1 | first | trivial | assumption | omega | (simp only; omega))
                  · skip
                    try simp only [ez49_41, decide_eq_false_iff_not] at c
                    refine Ok.bv fun z60_51 ez60_51 => ?_
                    refine Ok.it (fun c => ?_) (fun c => ?_)
                    · skip
                      try simp only [ez60_51, decide_eq_true_eq] at c
                      have h2 : 2 ≤ x1.length := by rw [c] at hN; exact Nat.le_trans (by decide) hN
                      refine Ok.ckf (by first | omega | decide | (simp; omega) | (simp; done)) fun k3 => ?_
                      refine Ok.bv fun z62_54 ez62_54 => ?_
                      have gz62_54 := gelP hx ez62_54 (by omega)
                      refine Ok.ob (funcs_single_tot gz62_54) fun y64_56 ey64_56 hy64_56 => ?_
                      refine Ok.ckf (by first | omega | decide | (simp; omega) | (simp; done)) fun k4 => ?_
                      refine Ok.bv fun z66_58 ez66_58 => ?_
                      have gz66_58 := gelP hx ez66_58 (by omega)
                      refine Ok.ob (lists_SumIf_tot gz66_58.len1 gz66_58.rt) fun y69_60 ey69_60 hy69_60 => ?_
                      exact Ok.sm (by first | exact hy69_60 | exact hy69_60.1 | first | trivial | assumption | omega | (simp only; omega))
                    · skip
                      try simp only [ez60_51, decide_eq_false_iff_not] at c
                      refine Ok.bv fun z71_61 ez71_61 => ?_
                      refine Ok.it (fun c => ?_) (fun c => ?_)
                      · skip
                        try simp only [ez71_61, decide_eq_true_eq] at c
                        have h2 : 2 ≤ x1.length := by rw [c] at hN; exact Nat.le_trans (by decide) hN
                        refine Ok.ckf (by first | omega | decide | (simp; omega) | (simp; done)) fun k5 => ?_
                        refine Ok.bv fun z73_64 ez73_64 => ?_
                        have gz73_64 := gelP hx ez73_64 (by omega)
                        refine Ok.ckf (by first | omega | decide | (simp; omega) | (simp; done)) fun k6 => ?_
                        refine Ok.bv fun z77_67 ez77_67 => ?_
                        have gz77_67 := gelP hx ez77_67 (by omega)
                        refine Ok.ob (lists_SumProduct_tot gz73_64.len1 gz73_64.rt gz77_67.len1 gz77_67.rt) fun y80_69 ey80_69 hy80_69 => ?_
                        exact Ok.sm (by first | exact hy80_69 | exact hy80_69.1 | first | trivial | assumption | omega | (simp only; omega))
                      · skip
                        try simp only [ez71_61, decide_eq_false_iff_not] at c
                        refine Ok.bv fun z82_70 ez82_70 => ?_
                        refine Ok.it (fun c => ?_) (fun c => ?_)
                        · skip
                          try simp only [ez82_70, decide_eq_true_eq] at c
                          have h2 : 2 ≤ x1.length := by rw [c] at hN; exact Nat.le_trans (by decide) hN
                          refine Ok.ckf (by first | omega | decide | (simp; omega) | (simp; done)) fun k7 => ?_
                          refine Ok.bv fun z84_73 ez84_73 => ?_
                          have gz84_73 := gelP hx ez84_73 (by omega)
                          refine Ok.ob (funcs_single_tot gz84_73) fun y86_75 ey86_75 hy86_75 => ?_
                          refine Ok.ckf (by first | omega | decide | (simp; omega) | (simp; done)) fun k8 => ?_
                          refine Ok.bv fun z88_77 ez88_77 => ?_
                          have gz88_77 := gelP hx ez88_77 (by omega)
                          refine Ok.ob (lists_Match_tot gz88_77.len1) fun y91_79 ey91_79 hy91_79 => ?_
                          exact Ok.sm (by first | exact hy91_79 | exact hy91_79.1 | first | trivial | assumption | omega | (simp only; omega))
                        · skip
                          try simp only [ez82_70, decide_eq_false_iff_not] at c
                          refine Ok.bv fun z93_80 ez93_80 => ?_
                          refine Ok.it (fun c => ?_) (fun c => ?_)
                          · skip
                            try simp only [ez93_80, decide_eq_true_eq] at c
                            have h1 : 1 ≤ x1.length := by rw [c] at hN; exact Nat.le_trans (by decide) hN
                            refine Ok.ckf (by first | omega | decide | (simp; omega) | (simp; done)) fun k9 => ?_
                            refine Ok.bv fun z95_83 ez95_83 => ?_
                            have gz95_83 := gelP hx ez95_83 (by omega)
                            refine Ok.ckf (by first | omega | decide | (simp; omega) | (simp; done)) fun k10 => ?_
                            refine Ok.bv fun z100_86 ez100_86 => ?_
                            have gz100_86 := gelP hx ez100_86 (by omega)
                            refine Ok.bv fun z103_88 ez103_88 => ?_
                            skip
                            refine Ok.ckf (by first | omega | decide | (simp; omega) | (simp; done)) fun k11 => ?_
                            refine Ok.bv fun z104_90 ez104_90 => ?_
                            try have qz104_90 := tdiv_nat (z95_83.l.length : Int) z103_88
                            have rz104_90 := (wI64 ez104_90).1
                            try replace ez104_90 := (wI64 ez104_90).2 (by omega)
                            refine Ok.ob (num_Of_tot) fun y105_91 ey105_91 hy105_91 => ?_
                            refine Ok.ob (value_Made_tot (fun _ => hy105_91)) fun y108_92 ey108_92 hy108_92 => ?_
                            exact Ok.sm (by first | exact hy108_92 | exact hy108_92.1 | first | trivial | assumption | omega | (simp only; omega))
                          · skip
                            try simp only [ez93_80, decide_eq_false_iff_not] at c
                            refine Ok.bv fun z110_93 ez110_93 => ?_
                            refine Ok.it (fun c => ?_) (fun c => ?_)
                            · skip
                              try simp only [ez110_93, decide_eq_true_eq] at c
                              have h1 : 1 ≤ x1.length := by rw [c] at hN; exact Nat.le_trans (by decide) hN
                              refine Ok.ckf (by first | omega | decide | (simp; omega) | (simp; done)) fun k12 => ?_
                              refine Ok.bv fun z112_96 ez112_96 => ?_
                              have gz112_96 := gelP hx ez112_96 (by omega)
                              refine Ok.ob (num_Of_tot) fun y115_98 ey115_98 hy115_98 => ?_
                              refine Ok.ob (value_Made_tot (fun _ => hy115_98)) fun y118_99 ey118_99 hy118_99 => ?_
                              exact Ok.sm (by first | exact hy118_99 | exact hy118_99.1 | first | trivial | assumption | omega | (simp only; omega))
                            · skip
                              try simp only [ez110_93, decide_eq_false_iff_not] at c
                              refine Ok.bv fun z120_100 ez120_100 => ?_
                              refine Ok.it (fun c => ?_) (fun c => ?_)
                              · skip
                                try simp only [ez120_100, decide_eq_true_eq] at c
                                refine Ok.ob (value_Fail_tot (by first | trivial | assumption | omega | (simp only; omega) | (simp only; assumption) | (simp; omega) | (simp; done))) fun y121_102 ey121_102 hy121_102 => ?_
                                exact Ok.sm (by first | exact hy121_102 | exact hy121_102.1 | first | trivial | assumption | omega | (simp only; omega))
                              · skip
                                try simp only [ez120_100, decide_eq_false_iff_not] at c
                                have h1 : 1 ≤ x1.length := hK.resolve_left c
                                refine Ok.bv fun z123_103 ez123_103 => ?_
                                refine Ok.it (fun c => ?_) (fun c => ?_)
                                · skip
                                  try simp only [ez123_103, decide_eq_true_eq] at c
                                  have h3 : 3 ≤ x1.length := by rw [c] at hN; exact Nat.le_trans (by decide) hN
                                  refine Ok.ckf (by first | omega | decide | (simp; omega) | (simp; done)) fun k13 => ?_
                                  refine Ok.bv fun z126_106 ez126_106 => ?_
                                  have lz126_106 := cutL_len x1 (1 : Int) (x1.length : Int) (by omega)
                                  rw [← ez126_106] at lz126_106
                                  have az126_106 := all_cut hx (1 : Int) (x1.length : Int)
                                  rw [← ez126_106] at az126_106
                                  refine Ok.ob (funcs_nums_tot (by omega) az126_106) fun y127_108 ey127_108 hy127_108 => ?_
                                  refine Ok.bv fun z132_112 ez132_112 => ?_
                                  refine Ok.it (fun c => ?_) (fun c => ?_)
                                  · skip
                                    try simp only [ez132_112, decide_eq_true_eq] at c
                                    exact Ok.sm (by first | exact hy127_108.1 | exact hy127_108.2 | first | trivial | assumption | omega | (simp only; omega))
                                  · skip
                                    try simp only [ez132_112, decide_eq_false_iff_not] at c
                                    have hq := hy127_108.2 c
                                    refine Ok.ckf (by first | omega | decide | (simp; omega) | (simp; done)) fun k14 => ?_
                                    refine Ok.bv fun z135_115 ez135_115 => ?_
                                    have gz135_115 := gelP hx ez135_115 (by omega)
                                    refine Ok.ckf (by first | omega | decide | (simp; omega) | (simp; done)) fun k15 => ?_
                                    refine Ok.bv fun z139_118 ez139_118 => ?_
                                    refine Ok.bv fun z141_119 ez141_119 => ?_
                                    try have qz141_119 := tdiv_nat z139_118 1000000
                                    have rz141_119 := (wI64 ez141_119).1
                                    try replace ez141_119 := (wI64 ez141_119).2 (by omega)
                                    refine Ok.ckf (by first | omega | decide | (simp; omega) | (simp; done)) fun k16 => ?_
                                    refine Ok.bv fun z143_121 ez143_121 => ?_
                                    refine Ok.bv fun z145_122 ez145_122 => ?_
                                    try have qz145_122 := tdiv_nat z143_121 1000000
                                    have rz145_122 := (wI64 ez145_122).1
                                    try replace ez145_122 := (wI64 ez145_122).2 (by omega)
                                    refine Ok.ckf (by first | omega | decide | (simp; omega) | (simp; done)) fun k17 => ?_
                                    refine Ok.bv fun z147_124 ez147_124 => ?_
                                    have gz147_124 := gelP hx ez147_124 (by omega)
                                    refine Ok.ob (lists_Index_tot gz147_124.len1 gz147_124.rt gz135_115.cols (by omega) (by omega)) fun y150_126 ey150_126 hy150_126 => ?_
                                    exact Ok.sm (by first | exact hy150_126 | exact hy150_126.1 | first | trivial | assumption | omega | (simp only; omega))
                                · skip
                                  try simp only [ez123_103, decide_eq_false_iff_not] at c
                                  refine Ok.bv fun z152_127 ez152_127 => ?_
                                  refine Ok.it (fun c => ?_) (fun c => ?_)
                                  · skip
                                    try simp only [ez152_127, decide_eq_true_eq] at c
                                    have h3 : 3 ≤ x1.length := by rw [c] at hN; exact Nat.le_trans (by decide) hN
                                    refine Ok.ckf (by first | omega | decide | (simp; omega) | (simp; done)) fun k18 => ?_
                                    refine Ok.bv fun z155_130 ez155_130 => ?_
                                    have lz155_130 := cutL_len x1 (2 : Int) (x1.length : Int) (by omega)
                                    rw [← ez155_130] at lz155_130
                                    have az155_130 := all_cut hx (2 : Int) (x1.length : Int)
                                    rw [← ez155_130] at az155_130
                                    refine Ok.ob (funcs_nums_tot (by omega) az155_130) fun y156_132 ey156_132 hy156_132 => ?_
                                    refine Ok.bv fun z161_136 ez161_136 => ?_
                                    refine Ok.it (fun c => ?_) (fun c => ?_)
                                    · skip
                                      try simp only [ez161_136, decide_eq_true_eq] at c
                                      exact Ok.sm (by first | exact hy156_132.1 | exact hy156_132.2 | first | trivial | assumption | omega | (simp only; omega))
                                    · skip
                                      try simp only [ez161_136, decide_eq_false_iff_not] at c
                                      have hq := hy156_132.2 c
                                      refine Ok.ckf (by first | omega | decide | (simp; omega) | (simp; done)) fun k19 => ?_
                                      refine Ok.bv fun z164_139 ez164_139 => ?_
                                      have gz164_139 := gelP hx ez164_139 (by omega)
                                      refine Ok.ob (funcs_single_tot gz164_139) fun y166_141 ey166_141 hy166_141 => ?_
                                      refine Ok.ckf (by first | omega | decide | (simp; omega) | (simp; done)) fun k20 => ?_
                                      refine Ok.bv fun z168_143 ez168_143 => ?_
                                      have gz168_143 := gelP hx ez168_143 (by omega)
                                      refine Ok.ckf (by first | omega | decide | (simp; omega) | (simp; done)) fun k21 => ?_
                                      refine Ok.bv fun z172_146 ez172_146 => ?_
                                      refine Ok.bv fun z174_147 ez174_147 => ?_
                                      try have qz174_147 := tdiv_nat z172_146 1000000
                                      have rz174_147 := (wI64 ez174_147).1
                                      try replace ez174_147 := (wI64 ez174_147).2 (by omega)
                                      refine Ok.ckf (by first | omega | decide | (simp; omega) | (simp; done)) fun k22 => ?_
                                      refine Ok.bv fun z176_149 ez176_149 => ?_
                                      have gz176_149 := gelP hx ez176_149 (by omega)
                                      refine Ok.ob (lists_VLookup_tot gz176_149.len1 gz176_149.rt (by have := gz168_143.cols; omega) (by omega)) fun y179_151 ey179_151 hy179_151 => ?_
                                      exact Ok.sm (by first | exact hy179_151 | exact hy179_151.1 | first | trivial | assumption | omega | (simp only; omega))
                                  · skip
                                    try simp only [ez152_127, decide_eq_false_iff_not] at c
                                    refine Ok.ckf (by first | omega | decide | (simp; omega) | (simp; done)) fun k23 => ?_
                                    refine Ok.bv fun z182_153 ez182_153 => ?_
                                    have gz182_153 := gelP hx ez182_153 (by omega)
                                    refine Ok.ob (funcs_single_tot gz182_153) fun y184_155 ey184_155 hy184_155 => ?_
                                    refine Ok.ob (funcs_kind_tot hy184_155) fun y185_156 ey185_156 hy185_156 => ?_
                                    exact Ok.sm (by first | exact hy185_156 | exact hy185_156.1 | first | trivial | assumption | omega | (simp only; omega))
  clear eJ5
  refine Ok.bv fun z11_157 ez11_157 => ?_
  refine Ok.it (fun c => ?_) (fun c => ?_)
  · skip
    try simp only [ez11_157, decide_eq_true_eq] at c
    exact hJ5 _ (by first | trivial | assumption | omega | (simp only; omega) | (simp only; assumption) | (simp; omega) | (simp; done))
  · skip
    try simp only [ez11_157, decide_eq_false_iff_not] at c
    refine Ok.bv fun z12_159 ez12_159 => ?_
    exact hJ5 _ (by first | trivial | assumption | omega | (simp only; omega) | (simp only; assumption) | (simp; omega) | (simp; done))

theorem funcs_Apply_tot {x0 : Int} {x1 : List (Arg)} (h6 : 6 ≤ x0 ∧ x0 ≤ 54) (hl : x1.length ≤ 9) (hx : ∀ a ∈ x1, ArgOk a) : Ok (funcs_Apply x0 x1) (Rt) := by
  obtain ⟨nm, b, hnm, hfit, hF⟩ := tree_tot h6 hl
  unfold funcs_Apply
  refine Ok.ob (Ok.of (P := fun r => r = nm) hnm rfl) fun y14_2 ey14_2 hy14_2 => ?_
  refine Ok.ob (Ok.of (P := fun r => r = b) hfit rfl) fun y18_4 ey18_4 hy18_4 => ?_
  refine Ok.bv fun z19_5 ez19_5 => ?_
  refine Ok.it (fun c => ?_) (fun c => ?_)
  · skip
    try simp only [ez19_5, decide_eq_true_eq, decide_eq_false_iff_not, Bool.or_eq_true, Bool.and_eq_true, Bool.or_eq_false_iff, Bool.and_eq_false_iff, Bool.not_eq_true', Bool.not_eq_false', Bool.not_eq_eq_eq_not, Bool.not_true, Bool.not_false, ne_eq, decide_not] at c
    refine Ok.ob (value_Fail_tot (by first | trivial | assumption | omega | (simp only; omega) | (simp only; assumption) | (simp; omega) | (simp; done))) fun y20_7 ey20_7 hy20_7 => ?_
    exact Ok.sm (by first | exact hy20_7 | exact hy20_7.1 | first | trivial | assumption | omega | (simp only; omega))
  · skip
    try simp only [ez19_5, decide_eq_true_eq, decide_eq_false_iff_not, Bool.or_eq_true, Bool.and_eq_true, Bool.or_eq_false_iff, Bool.and_eq_false_iff, Bool.not_eq_true', Bool.not_eq_false', Bool.not_eq_eq_eq_not, Bool.not_true, Bool.not_false, ne_eq, decide_not] at c
    have hF := hF (by rw [← hy18_4]; exact c)
    rw [← hy14_2] at hF
    refine Ok.bv fun J11 eJ11 => ?_
    have hJ11 : ∀ s11 : Bool, (s11 = true → 1 ≤ x1.length ∧ x1.length ≤ 2) → Ok (J11 s11) (Rt) := by
      intro s11 hs11
      rw [eJ11]
      refine Ok.it (fun c => ?_) (fun c => ?_)
      · skip
        have ha := hs11 c
        refine Ok.ob (funcs_nums_tot hl hx) fun y38_13 ey38_13 hy38_13 => ?_
        refine Ok.bv fun z43_17 ez43_17 => ?_
        refine Ok.it (fun c => ?_) (fun c => ?_)
        · skip
          try simp only [ez43_17, decide_eq_true_eq] at c
          exact Ok.sm (by first | exact hy38_13.1 | exact hy38_13.2 | first | trivial | assumption | omega | (simp only; omega))
        · skip
          try simp only [ez43_17, decide_eq_false_iff_not] at c
          have hq := hy38_13.2 c
          have hq2 := hq.2
          refine Ok.bv fun z47_20 ez47_20 => ?_
          refine Ok.it (fun c => ?_) (fun c => ?_)
          · skip
            try simp only [ez47_20, decide_eq_true_eq] at c
            refine Ok.ckf (by first | omega | decide | (simp; omega) | (simp; done)) fun k1 => ?_
            refine Ok.bv fun z50_23 ez50_23 => ?_
            have gz50_23 := gelP hq2 ez50_23 (by omega)
            refine Ok.ob (maths_One_tot gz50_23) fun y52_24 ey52_24 hy52_24 => ?_
            exact Ok.sm (by first | exact hy52_24 | exact hy52_24.1 | first | trivial | assumption | omega | (simp only; omega))
          · skip
            try simp only [ez47_20, decide_eq_false_iff_not] at c
            refine Ok.ckf (by first | omega | decide | (simp; omega) | (simp; done)) fun k2 => ?_
            refine Ok.bv fun z55_26 ez55_26 => ?_
            have gz55_26 := gelP hq2 ez55_26 (by omega)
            refine Ok.ckf (by first | omega | decide | (simp; omega) | (simp; done)) fun k3 => ?_
            refine Ok.bv fun z58_28 ez58_28 => ?_
            have gz58_28 := gelP hq2 ez58_28 (by omega)
            refine Ok.ob (maths_Two_tot gz55_26 gz58_28) fun y60_29 ey60_29 hy60_29 => ?_
            exact Ok.sm (by first | exact hy60_29 | exact hy60_29.1 | first | trivial | assumption | omega | (simp only; omega))
      · skip
        refine Ok.bv fun J31 eJ31 => ?_
        have hJ31 : ∀ s31 : Bool, (s31 = true → 1 ≤ x1.length) → Ok (J31 s31) (Rt) := by
          intro s31 hs31
          rw [eJ31]
          refine Ok.it (fun c => ?_) (fun c => ?_)
          · skip
            have ha := hs31 c
            refine Ok.ob (funcs_strs_tot hl hx) fun y73_33 ey73_33 hy73_33 => ?_
            refine Ok.bv fun z78_37 ez78_37 => ?_
            refine Ok.it (fun c => ?_) (fun c => ?_)
            · skip
              try simp only [ez78_37, decide_eq_true_eq] at c
              exact Ok.sm (by first | exact hy73_33.1 | exact hy73_33.2 | first | trivial | assumption | omega | (simp only; omega))
            · skip
              try simp only [ez78_37, decide_eq_false_iff_not] at c
              have hq := hy73_33.2 c
              have hq2 := hq.2
              refine Ok.bv fun z82_40 ez82_40 => ?_
              refine Ok.bv fun z85_41 ez85_41 => ?_
              refine Ok.bv fun z86_42 ez86_42 => ?_
              refine Ok.it (fun c => ?_) (fun c => ?_)
              · skip
                try simp only [ez86_42, ez85_41, ez82_40, decide_eq_true_eq, decide_eq_false_iff_not, Bool.or_eq_true, Bool.and_eq_true, Bool.or_eq_false_iff, Bool.and_eq_false_iff, Bool.not_eq_true', Bool.not_eq_false', Bool.not_eq_eq_eq_not, Bool.not_true, Bool.not_false, ne_eq, decide_not] at c
                refine Ok.ckf (by first | omega | decide | (simp; omega) | (simp; done)) fun k4 => ?_
                refine Ok.bv fun z89_45 ez89_45 => ?_
                have gz89_45 := gelP hq2 ez89_45 (by omega)
                refine Ok.ob (texts_One_tot gz89_45) fun y91_46 ey91_46 hy91_46 => ?_
                exact Ok.sm (by first | exact hy91_46 | exact hy91_46.1 | first | trivial | assumption | omega | (simp only; omega))
              · skip
                try simp only [ez86_42, ez85_41, ez82_40, decide_eq_true_eq, decide_eq_false_iff_not, Bool.or_eq_true, Bool.and_eq_true, Bool.or_eq_false_iff, Bool.and_eq_false_iff, Bool.not_eq_true', Bool.not_eq_false', Bool.not_eq_eq_eq_not, Bool.not_true, Bool.not_false, ne_eq, decide_not] at c
                refine Ok.ob (texts_More_tot (by omega) hq.2) fun y94_47 ey94_47 hy94_47 => ?_
                exact Ok.sm (by first | exact hy94_47 | exact hy94_47.1 | first | trivial | assumption | omega | (simp only; omega))
          · skip
            refine Ok.bv fun J49 eJ49 => ?_
            have hJ49 : ∀ s49 : Bool, (s49 = true → 2 ≤ x1.length ∧ (y14_2 = [82, 69, 80, 84] → x1.length = 2)) → Ok (J49 s49) (Rt) := by
              intro s49 hs49
              rw [eJ49]
              refine Ok.it (fun c => ?_) (fun c => ?_)
              · skip
                have ha := hs49 c
                refine Ok.ckf (by first | omega | decide | (simp; omega) | (simp; done)) fun k5 => ?_
                refine Ok.bv fun z102_52 ez102_52 => ?_
                have lz102_52 := cutL_len x1 (0 : Int) (1 : Int) (by omega)
                rw [← ez102_52] at lz102_52
                have az102_52 := all_cut hx (0 : Int) (1 : Int)
                rw [← ez102_52] at az102_52
                refine Ok.ob (funcs_strs_tot (by omega) az102_52) fun y103_54 ey103_54 hy103_54 => ?_
                refine Ok.bv fun z108_58 ez108_58 => ?_
                refine Ok.it (fun c => ?_) (fun c => ?_)
                · skip
                  try simp only [ez108_58, decide_eq_true_eq] at c
                  exact Ok.sm (by first | exact hy103_54.1 | exact hy103_54.2 | first | trivial | assumption | omega | (simp only; omega))
                · skip
                  try simp only [ez108_58, decide_eq_false_iff_not] at c
                  have hq := hy103_54.2 c
                  have hq2 := hq.2
                  refine Ok.ckf (by first | omega | decide | (simp; omega) | (simp; done)) fun k6 => ?_
                  refine Ok.bv fun z112_61 ez112_61 => ?_
                  have lz112_61 := cutL_len x1 (1 : Int) (x1.length : Int) (by omega)
                  rw [← ez112_61] at lz112_61
                  have az112_61 := all_cut hx (1 : Int) (x1.length : Int)
                  rw [← ez112_61] at az112_61
                  refine Ok.ob (funcs_nums_tot (by omega) az112_61) fun y113_63 ey113_63 hy113_63 => ?_
                  refine Ok.bv fun z118_66 ez118_66 => ?_
                  refine Ok.it (fun c => ?_) (fun c => ?_)
                  · skip
                    try simp only [ez118_66, decide_eq_true_eq] at c
                    exact Ok.sm (by first | exact hy113_63.1 | exact hy113_63.2 | first | trivial | assumption | omega | (simp only; omega))
                  · skip
                    try simp only [ez118_66, decide_eq_false_iff_not] at c
                    have hp := hy113_63.2 c
                    refine Ok.ckf (by first | omega | decide | (simp; omega) | (simp; done)) fun k7 => ?_
                    refine Ok.bv fun z122_69 ez122_69 => ?_
                    have gz122_69 := gelP hq2 ez122_69 (by omega)
                    refine Ok.ob (texts_Part_tot gz122_69 (by omega) hp.2 (fun g => by have := ha.2 g; omega)) fun y125_70 ey125_70 hy125_70 => ?_
                    exact Ok.sm (by first | exact hy125_70 | exact hy125_70.1 | first | trivial | assumption | omega | (simp only; omega))
              · skip
                refine Ok.ob (funcs_list_tot hl hx hF.1 hF.2.2) fun y128_71 ey128_71 hy128_71 => ?_
                exact Ok.sm (by first | exact hy128_71 | exact hy128_71.1 | first | trivial | assumption | omega | (simp only; omega))
            clear eJ49
            refine Ok.bv fun z96_72 ez96_72 => ?_
            refine Ok.it (fun c => ?_) (fun c => ?_)
            · skip
              try simp only [ez96_72, decide_eq_true_eq] at c
              exact hJ49 _ (by intro _; have a := hF.1; refine ⟨by rw [c] at a; exact Nat.le_trans (by decide) a, fun h => ?_⟩; have a := hF.1; have b := hF.2.1; rw [h] at a b; exact Nat.le_antisymm (Nat.le_trans b (by decide)) (Nat.le_trans (by decide) a))
            · skip
              try simp only [ez96_72, decide_eq_false_iff_not] at c
              refine Ok.bv fun z97_74 ez97_74 => ?_
              refine Ok.it (fun c => ?_) (fun c => ?_)
              · skip
                try simp only [ez97_74, decide_eq_true_eq] at c
                exact hJ49 _ (by intro _; have a := hF.1; refine ⟨by rw [c] at a; exact Nat.le_trans (by decide) a, fun h => ?_⟩; have a := hF.1; have b := hF.2.1; rw [h] at a b; exact Nat.le_antisymm (Nat.le_trans b (by decide)) (Nat.le_trans (by decide) a))
              · skip
                try simp only [ez97_74, decide_eq_false_iff_not] at c
                refine Ok.bv fun z98_76 ez98_76 => ?_
                refine Ok.it (fun c => ?_) (fun c => ?_)
                · skip
                  try simp only [ez98_76, decide_eq_true_eq] at c
                  exact hJ49 _ (by intro _; have a := hF.1; refine ⟨by rw [c] at a; exact Nat.le_trans (by decide) a, fun h => ?_⟩; have a := hF.1; have b := hF.2.1; rw [h] at a b; exact Nat.le_antisymm (Nat.le_trans b (by decide)) (Nat.le_trans (by decide) a))
                · skip
                  try simp only [ez98_76, decide_eq_false_iff_not] at c
                  refine Ok.bv fun z99_78 ez99_78 => ?_
                  exact hJ49 _ (by intro g; rw [ez99_78, decide_eq_true_eq] at g; have a := hF.1; refine ⟨by rw [g] at a; exact Nat.le_trans (by decide) a, fun h => ?_⟩; have a := hF.1; have b := hF.2.1; rw [h] at a b; exact Nat.le_antisymm (Nat.le_trans b (by decide)) (Nat.le_trans (by decide) a))
        clear eJ31
        refine Ok.bv fun z62_79 ez62_79 => ?_
        refine Ok.it (fun c => ?_) (fun c => ?_)
        · skip
          try simp only [ez62_79, decide_eq_true_eq] at c
          exact hJ31 _ (by intro _; have a := hF.1; have b := hF.2.1; rw [c] at a; exact Nat.le_trans (by decide) a)
        · skip
          try simp only [ez62_79, decide_eq_false_iff_not] at c
          refine Ok.bv fun z63_81 ez63_81 => ?_
          refine Ok.it (fun c => ?_) (fun c => ?_)
          · skip
            try simp only [ez63_81, decide_eq_true_eq] at c
            exact hJ31 _ (by intro _; have a := hF.1; have b := hF.2.1; rw [c] at a; exact Nat.le_trans (by decide) a)
          · skip
            try simp only [ez63_81, decide_eq_false_iff_not] at c
            refine Ok.bv fun z64_83 ez64_83 => ?_
            refine Ok.it (fun c => ?_) (fun c => ?_)
            · skip
              try simp only [ez64_83, decide_eq_true_eq] at c
              exact hJ31 _ (by intro _; have a := hF.1; have b := hF.2.1; rw [c] at a; exact Nat.le_trans (by decide) a)
            · skip
              try simp only [ez64_83, decide_eq_false_iff_not] at c
              refine Ok.bv fun z65_85 ez65_85 => ?_
              refine Ok.it (fun c => ?_) (fun c => ?_)
              · skip
                try simp only [ez65_85, decide_eq_true_eq] at c
                exact hJ31 _ (by intro _; have a := hF.1; have b := hF.2.1; rw [c] at a; exact Nat.le_trans (by decide) a)
              · skip
                try simp only [ez65_85, decide_eq_false_iff_not] at c
                refine Ok.bv fun z66_87 ez66_87 => ?_
                refine Ok.it (fun c => ?_) (fun c => ?_)
                · skip
                  try simp only [ez66_87, decide_eq_true_eq] at c
                  exact hJ31 _ (by intro _; have a := hF.1; have b := hF.2.1; rw [c] at a; exact Nat.le_trans (by decide) a)
                · skip
                  try simp only [ez66_87, decide_eq_false_iff_not] at c
                  refine Ok.bv fun z67_89 ez67_89 => ?_
                  refine Ok.it (fun c => ?_) (fun c => ?_)
                  · skip
                    try simp only [ez67_89, decide_eq_true_eq] at c
                    exact hJ31 _ (by intro _; have a := hF.1; have b := hF.2.1; rw [c] at a; exact Nat.le_trans (by decide) a)
                  · skip
                    try simp only [ez67_89, decide_eq_false_iff_not] at c
                    refine Ok.bv fun z68_91 ez68_91 => ?_
                    refine Ok.it (fun c => ?_) (fun c => ?_)
                    · skip
                      try simp only [ez68_91, decide_eq_true_eq] at c
                      exact hJ31 _ (by intro _; have a := hF.1; have b := hF.2.1; rw [c] at a; exact Nat.le_trans (by decide) a)
                    · skip
                      try simp only [ez68_91, decide_eq_false_iff_not] at c
                      refine Ok.bv fun z69_93 ez69_93 => ?_
                      refine Ok.it (fun c => ?_) (fun c => ?_)
                      · skip
                        try simp only [ez69_93, decide_eq_true_eq] at c
                        exact hJ31 _ (by intro _; have a := hF.1; have b := hF.2.1; rw [c] at a; exact Nat.le_trans (by decide) a)
                      · skip
                        try simp only [ez69_93, decide_eq_false_iff_not] at c
                        refine Ok.bv fun z70_95 ez70_95 => ?_
                        exact hJ31 _ (by intro g; rw [ez70_95, decide_eq_true_eq] at g; have a := hF.1; have b := hF.2.1; rw [g] at a; exact Nat.le_trans (by decide) a)
    clear eJ11
    refine Ok.bv fun z23_96 ez23_96 => ?_
    refine Ok.it (fun c => ?_) (fun c => ?_)
    · skip
      try simp only [ez23_96, decide_eq_true_eq] at c
      exact hJ11 _ (by intro _; have a := hF.1; have b := hF.2.1; rw [c] at a b; exact ⟨Nat.le_trans (by decide) a, Nat.le_trans b (by decide)⟩)
    · skip
      try simp only [ez23_96, decide_eq_false_iff_not] at c
      refine Ok.bv fun z24_98 ez24_98 => ?_
      refine Ok.it (fun c => ?_) (fun c => ?_)
      · skip
        try simp only [ez24_98, decide_eq_true_eq] at c
        exact hJ11 _ (by intro _; have a := hF.1; have b := hF.2.1; rw [c] at a b; exact ⟨Nat.le_trans (by decide) a, Nat.le_trans b (by decide)⟩)
      · skip
        try simp only [ez24_98, decide_eq_false_iff_not] at c
        refine Ok.bv fun z25_100 ez25_100 => ?_
        refine Ok.it (fun c => ?_) (fun c => ?_)
        · skip
          try simp only [ez25_100, decide_eq_true_eq] at c
          exact hJ11 _ (by intro _; have a := hF.1; have b := hF.2.1; rw [c] at a b; exact ⟨Nat.le_trans (by decide) a, Nat.le_trans b (by decide)⟩)
        · skip
          try simp only [ez25_100, decide_eq_false_iff_not] at c
          refine Ok.bv fun z26_102 ez26_102 => ?_
          refine Ok.it (fun c => ?_) (fun c => ?_)
          · skip
            try simp only [ez26_102, decide_eq_true_eq] at c
            exact hJ11 _ (by intro _; have a := hF.1; have b := hF.2.1; rw [c] at a b; exact ⟨Nat.le_trans (by decide) a, Nat.le_trans b (by decide)⟩)
          · skip
            try simp only [ez26_102, decide_eq_false_iff_not] at c
            refine Ok.bv fun z27_104 ez27_104 => ?_
            refine Ok.it (fun c => ?_) (fun c => ?_)
            · skip
              try simp only [ez27_104, decide_eq_true_eq] at c
              exact hJ11 _ (by intro _; have a := hF.1; have b := hF.2.1; rw [c] at a b; exact ⟨Nat.le_trans (by decide) a, Nat.le_trans b (by decide)⟩)
            · skip
              try simp only [ez27_104, decide_eq_false_iff_not] at c
              refine Ok.bv fun z28_106 ez28_106 => ?_
              refine Ok.it (fun c => ?_) (fun c => ?_)
              · skip
                try simp only [ez28_106, decide_eq_true_eq] at c
                exact hJ11 _ (by intro _; have a := hF.1; have b := hF.2.1; rw [c] at a b; exact ⟨Nat.le_trans (by decide) a, Nat.le_trans b (by decide)⟩)
              · skip
                try simp only [ez28_106, decide_eq_false_iff_not] at c
                refine Ok.bv fun z29_108 ez29_108 => ?_
                refine Ok.it (fun c => ?_) (fun c => ?_)
                · skip
                  try simp only [ez29_108, decide_eq_true_eq] at c
                  exact hJ11 _ (by intro _; have a := hF.1; have b := hF.2.1; rw [c] at a b; exact ⟨Nat.le_trans (by decide) a, Nat.le_trans b (by decide)⟩)
                · skip
                  try simp only [ez29_108, decide_eq_false_iff_not] at c
                  refine Ok.bv fun z30_110 ez30_110 => ?_
                  refine Ok.it (fun c => ?_) (fun c => ?_)
                  · skip
                    try simp only [ez30_110, decide_eq_true_eq] at c
                    exact hJ11 _ (by intro _; have a := hF.1; have b := hF.2.1; rw [c] at a b; exact ⟨Nat.le_trans (by decide) a, Nat.le_trans b (by decide)⟩)
                  · skip
                    try simp only [ez30_110, decide_eq_false_iff_not] at c
                    refine Ok.bv fun z31_112 ez31_112 => ?_
                    refine Ok.it (fun c => ?_) (fun c => ?_)
                    · skip
                      try simp only [ez31_112, decide_eq_true_eq] at c
                      exact hJ11 _ (by intro _; have a := hF.1; have b := hF.2.1; rw [c] at a b; exact ⟨Nat.le_trans (by decide) a, Nat.le_trans b (by decide)⟩)
                    · skip
                      try simp only [ez31_112, decide_eq_false_iff_not] at c
                      refine Ok.bv fun z32_114 ez32_114 => ?_
                      refine Ok.it (fun c => ?_) (fun c => ?_)
                      · skip
                        try simp only [ez32_114, decide_eq_true_eq] at c
                        exact hJ11 _ (by intro _; have a := hF.1; have b := hF.2.1; rw [c] at a b; exact ⟨Nat.le_trans (by decide) a, Nat.le_trans b (by decide)⟩)
                      · skip
                        try simp only [ez32_114, decide_eq_false_iff_not] at c
                        refine Ok.bv fun z33_116 ez33_116 => ?_
                        refine Ok.it (fun c => ?_) (fun c => ?_)
                        · skip
                          try simp only [ez33_116, decide_eq_true_eq] at c
                          exact hJ11 _ (by intro _; have a := hF.1; have b := hF.2.1; rw [c] at a b; exact ⟨Nat.le_trans (by decide) a, Nat.le_trans b (by decide)⟩)
                        · skip
                          try simp only [ez33_116, decide_eq_false_iff_not] at c
                          refine Ok.bv fun z34_118 ez34_118 => ?_
                          refine Ok.it (fun c => ?_) (fun c => ?_)
                          · skip
                            try simp only [ez34_118, decide_eq_true_eq] at c
                            exact hJ11 _ (by intro _; have a := hF.1; have b := hF.2.1; rw [c] at a b; exact ⟨Nat.le_trans (by decide) a, Nat.le_trans b (by decide)⟩)
                          · skip
                            try simp only [ez34_118, decide_eq_false_iff_not] at c
                            refine Ok.bv fun z35_120 ez35_120 => ?_
                            exact hJ11 _ (by intro g; rw [ez35_120, decide_eq_true_eq] at g; have a := hF.1; have b := hF.2.1; rw [g] at a b; exact ⟨Nat.le_trans (by decide) a, Nat.le_trans b (by decide)⟩)
end Go.Sp
