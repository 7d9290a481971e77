/- Functions that have an answer: the law FuncsAreas. -/
import Derived.Test.YtnmkeanoidadcaaGreatDoorPlW
import Derived.Test.YtnmkeanoidadcaaGreatDoorSpI
set_option linter.unusedSimpArgs false
set_option linter.unusedVariables false
set_option linter.unusedSectionVars false
set_option linter.unusedSimpArgs false
set_option linter.unusedVariables false
set_option maxRecDepth 100000
namespace Go.Sp
open Go.Stp Go.ValP
theorem all1 {f : Bool} {c : Int} {x : V} : funcs_all [⟨f, c, [x]⟩] = some [x] := by
  unfold funcs_all
  simp [bindv, chk, u1, u2, u3, u4, gel, obind, w01]
theorem li_SUM (l : List Arg) : funcs_list [83, 85, 77] l = obind (funcs_all l) fun y => obind (lists_Sum y) fun r => some r := by kernel_rfl
theorem li_MAX (l : List Arg) : funcs_list [77, 65, 88] l = obind (funcs_all l) fun y => obind (lists_Extreme true y) fun r => some r := by kernel_rfl
theorem li_COUNTA (l : List Arg) : funcs_list [67, 79, 85, 78, 84, 65] l = obind (funcs_all l) fun y => obind (lists_Count 0 false y) fun r => some r := by kernel_rfl
theorem li_AVERAGE (l : List Arg) : funcs_list [65, 86, 69, 82, 65, 71, 69] l = obind (funcs_all l) fun y => obind (lists_Average y) fun r => some r := by kernel_rfl
theorem li_NOT (f : Bool) (x : V) : funcs_list [78, 79, 84] [⟨f, 1, [x]⟩] = obind (funcs_kind [78, 79, 84] x) fun r => some r := by kernel_rfl
theorem li_ISTEXT (f : Bool) (x : V) : funcs_list [73, 83, 84, 69, 88, 84] [⟨f, 1, [x]⟩] = obind (funcs_kind [73, 83, 84, 69, 88, 84] x) fun r => some r := by kernel_rfl
theorem li_ROWS (f : Bool) (x : V) : funcs_list [82, 79, 87, 83] [⟨f, 1, [x]⟩] = obind (num_Of 1) fun y => obind (value_Made y.1 y.2) fun z => some z := by kernel_rfl
theorem li_COLUMNS (f : Bool) (x : V) : funcs_list [67, 79, 76, 85, 77, 78, 83] [⟨f, 1, [x]⟩] = obind (num_Of 1) fun y => obind (value_Made y.1 y.2) fun z => some z := by kernel_rfl
theorem li_MATCH (f : Bool) (x y : V) : funcs_list [77, 65, 84, 67, 72] [⟨false, 1, [x]⟩, ⟨f, 1, [y]⟩] = obind (lists_Match x [y]) fun r => some r := by kernel_rfl
theorem nf1_ABS : tree_Number [65, 66, 83] = some 6 ∧ tree_Name 6 = some [65, 66, 83] ∧ tree_Fits 6 ((1 : Nat) : Int) = some true := by decide +kernel
theorem ar_ABS (f : Bool) {x a : V} {t : List UInt8} (hA : value_ToNum x = some a) (hT : value_ToText x = some ⟨2, 0, t⟩) : funcs_Apply 6 [⟨f, 1, [x]⟩] = funcs_Apply 6 [⟨false, 1, [x]⟩] := by rw [applyN (l := [⟨f, 1, [x]⟩]) nf1_ABS.2.1 nf1_ABS.2.2 (by decide), applyN (l := [⟨false, 1, [x]⟩]) nf1_ABS.2.1 nf1_ABS.2.2 (by decide)]; unfold nB; rw [os_eq (nums1 hA), os_eq (nums1 hA)]
theorem nf1_LEN : tree_Number [76, 69, 78] = some 30 ∧ tree_Name 30 = some [76, 69, 78] ∧ tree_Fits 30 ((1 : Nat) : Int) = some true := by decide +kernel
theorem ar_LEN (f : Bool) {x a : V} {t : List UInt8} (hA : value_ToNum x = some a) (hT : value_ToText x = some ⟨2, 0, t⟩) : funcs_Apply 30 [⟨f, 1, [x]⟩] = funcs_Apply 30 [⟨false, 1, [x]⟩] := by rw [applyS (l := [⟨f, 1, [x]⟩]) nf1_LEN.2.1 nf1_LEN.2.2 (by decide), applyS (l := [⟨false, 1, [x]⟩]) nf1_LEN.2.1 nf1_LEN.2.2 (by decide), sB1 (by decide) (strs1 hT), sB1 (by decide) (strs1 hT)]
theorem nf1_NOT : tree_Number [78, 79, 84] = some 43 ∧ tree_Name 43 = some [78, 79, 84] ∧ tree_Fits 43 ((1 : Nat) : Int) = some true := by decide +kernel
theorem ar_NOT (f : Bool) {x a : V} {t : List UInt8} (hA : value_ToNum x = some a) (hT : value_ToText x = some ⟨2, 0, t⟩) : funcs_Apply 43 [⟨f, 1, [x]⟩] = funcs_Apply 43 [⟨false, 1, [x]⟩] := by rw [applyL (l := [⟨f, 1, [x]⟩]) nf1_NOT.2.1 nf1_NOT.2.2 (by decide), applyL (l := [⟨false, 1, [x]⟩]) nf1_NOT.2.1 nf1_NOT.2.2 (by decide)]; exact (li_NOT f x).trans (li_NOT false x).symm
theorem nf1_ISTEXT : tree_Number [73, 83, 84, 69, 88, 84] = some 45 ∧ tree_Name 45 = some [73, 83, 84, 69, 88, 84] ∧ tree_Fits 45 ((1 : Nat) : Int) = some true := by decide +kernel
theorem ar_ISTEXT (f : Bool) {x a : V} {t : List UInt8} (hA : value_ToNum x = some a) (hT : value_ToText x = some ⟨2, 0, t⟩) : funcs_Apply 45 [⟨f, 1, [x]⟩] = funcs_Apply 45 [⟨false, 1, [x]⟩] := by rw [applyL (l := [⟨f, 1, [x]⟩]) nf1_ISTEXT.2.1 nf1_ISTEXT.2.2 (by decide), applyL (l := [⟨false, 1, [x]⟩]) nf1_ISTEXT.2.1 nf1_ISTEXT.2.2 (by decide)]; exact (li_ISTEXT f x).trans (li_ISTEXT false x).symm
theorem nf1_SUM : tree_Number [83, 85, 77] = some 21 ∧ tree_Name 21 = some [83, 85, 77] ∧ tree_Fits 21 ((1 : Nat) : Int) = some true := by decide +kernel
theorem ar_SUM (f : Bool) {x a : V} {t : List UInt8} (hA : value_ToNum x = some a) (hT : value_ToText x = some ⟨2, 0, t⟩) : funcs_Apply 21 [⟨f, 1, [x]⟩] = funcs_Apply 21 [⟨false, 1, [x]⟩] := by rw [applyL (l := [⟨f, 1, [x]⟩]) nf1_SUM.2.1 nf1_SUM.2.2 (by decide), applyL (l := [⟨false, 1, [x]⟩]) nf1_SUM.2.1 nf1_SUM.2.2 (by decide), li_SUM [⟨f, 1, [x]⟩], li_SUM [⟨false, 1, [x]⟩], os_eq all1, os_eq all1]
theorem nf1_MAX : tree_Number [77, 65, 88] = some 20 ∧ tree_Name 20 = some [77, 65, 88] ∧ tree_Fits 20 ((1 : Nat) : Int) = some true := by decide +kernel
theorem ar_MAX (f : Bool) {x a : V} {t : List UInt8} (hA : value_ToNum x = some a) (hT : value_ToText x = some ⟨2, 0, t⟩) : funcs_Apply 20 [⟨f, 1, [x]⟩] = funcs_Apply 20 [⟨false, 1, [x]⟩] := by rw [applyL (l := [⟨f, 1, [x]⟩]) nf1_MAX.2.1 nf1_MAX.2.2 (by decide), applyL (l := [⟨false, 1, [x]⟩]) nf1_MAX.2.1 nf1_MAX.2.2 (by decide), li_MAX [⟨f, 1, [x]⟩], li_MAX [⟨false, 1, [x]⟩], os_eq all1, os_eq all1]
theorem nf1_COUNTA : tree_Number [67, 79, 85, 78, 84, 65] = some 24 ∧ tree_Name 24 = some [67, 79, 85, 78, 84, 65] ∧ tree_Fits 24 ((1 : Nat) : Int) = some true := by decide +kernel
theorem ar_COUNTA (f : Bool) {x a : V} {t : List UInt8} (hA : value_ToNum x = some a) (hT : value_ToText x = some ⟨2, 0, t⟩) : funcs_Apply 24 [⟨f, 1, [x]⟩] = funcs_Apply 24 [⟨false, 1, [x]⟩] := by rw [applyL (l := [⟨f, 1, [x]⟩]) nf1_COUNTA.2.1 nf1_COUNTA.2.2 (by decide), applyL (l := [⟨false, 1, [x]⟩]) nf1_COUNTA.2.1 nf1_COUNTA.2.2 (by decide), li_COUNTA [⟨f, 1, [x]⟩], li_COUNTA [⟨false, 1, [x]⟩], os_eq all1, os_eq all1]
theorem nf1_ROWS : tree_Number [82, 79, 87, 83] = some 53 ∧ tree_Name 53 = some [82, 79, 87, 83] ∧ tree_Fits 53 ((1 : Nat) : Int) = some true := by decide +kernel
theorem ar_ROWS (f : Bool) {x a : V} {t : List UInt8} (hA : value_ToNum x = some a) (hT : value_ToText x = some ⟨2, 0, t⟩) : funcs_Apply 53 [⟨f, 1, [x]⟩] = funcs_Apply 53 [⟨false, 1, [x]⟩] := by rw [applyL (l := [⟨f, 1, [x]⟩]) nf1_ROWS.2.1 nf1_ROWS.2.2 (by decide), applyL (l := [⟨false, 1, [x]⟩]) nf1_ROWS.2.1 nf1_ROWS.2.2 (by decide)]; exact (li_ROWS f x).trans (li_ROWS false x).symm
theorem nf1_COLUMNS : tree_Number [67, 79, 76, 85, 77, 78, 83] = some 54 ∧ tree_Name 54 = some [67, 79, 76, 85, 77, 78, 83] ∧ tree_Fits 54 ((1 : Nat) : Int) = some true := by decide +kernel
theorem ar_COLUMNS (f : Bool) {x a : V} {t : List UInt8} (hA : value_ToNum x = some a) (hT : value_ToText x = some ⟨2, 0, t⟩) : funcs_Apply 54 [⟨f, 1, [x]⟩] = funcs_Apply 54 [⟨false, 1, [x]⟩] := by rw [applyL (l := [⟨f, 1, [x]⟩]) nf1_COLUMNS.2.1 nf1_COLUMNS.2.2 (by decide), applyL (l := [⟨false, 1, [x]⟩]) nf1_COLUMNS.2.1 nf1_COLUMNS.2.2 (by decide)]; exact (li_COLUMNS f x).trans (li_COLUMNS false x).symm
theorem nf1_UPPER : tree_Number [85, 80, 80, 69, 82] = some 34 ∧ tree_Name 34 = some [85, 80, 80, 69, 82] ∧ tree_Fits 34 ((1 : Nat) : Int) = some true := by decide +kernel
theorem ar_UPPER (f : Bool) {x a : V} {t : List UInt8} (hA : value_ToNum x = some a) (hT : value_ToText x = some ⟨2, 0, t⟩) : funcs_Apply 34 [⟨f, 1, [x]⟩] = funcs_Apply 34 [⟨false, 1, [x]⟩] := by rw [applyS (l := [⟨f, 1, [x]⟩]) nf1_UPPER.2.1 nf1_UPPER.2.2 (by decide), applyS (l := [⟨false, 1, [x]⟩]) nf1_UPPER.2.1 nf1_UPPER.2.2 (by decide), sB1 (by decide) (strs1 hT), sB1 (by decide) (strs1 hT)]
theorem nf1_INT : tree_Number [73, 78, 84] = some 8 ∧ tree_Name 8 = some [73, 78, 84] ∧ tree_Fits 8 ((1 : Nat) : Int) = some true := by decide +kernel
theorem ar_INT (f : Bool) {x a : V} {t : List UInt8} (hA : value_ToNum x = some a) (hT : value_ToText x = some ⟨2, 0, t⟩) : funcs_Apply 8 [⟨f, 1, [x]⟩] = funcs_Apply 8 [⟨false, 1, [x]⟩] := by rw [applyN (l := [⟨f, 1, [x]⟩]) nf1_INT.2.1 nf1_INT.2.2 (by decide), applyN (l := [⟨false, 1, [x]⟩]) nf1_INT.2.1 nf1_INT.2.2 (by decide)]; unfold nB; rw [os_eq (nums1 hA), os_eq (nums1 hA)]
theorem nf1_AVERAGE : tree_Number [65, 86, 69, 82, 65, 71, 69] = some 26 ∧ tree_Name 26 = some [65, 86, 69, 82, 65, 71, 69] ∧ tree_Fits 26 ((1 : Nat) : Int) = some true := by decide +kernel
theorem ar_AVERAGE (f : Bool) {x a : V} {t : List UInt8} (hA : value_ToNum x = some a) (hT : value_ToText x = some ⟨2, 0, t⟩) : funcs_Apply 26 [⟨f, 1, [x]⟩] = funcs_Apply 26 [⟨false, 1, [x]⟩] := by rw [applyL (l := [⟨f, 1, [x]⟩]) nf1_AVERAGE.2.1 nf1_AVERAGE.2.2 (by decide), applyL (l := [⟨false, 1, [x]⟩]) nf1_AVERAGE.2.1 nf1_AVERAGE.2.2 (by decide), li_AVERAGE [⟨f, 1, [x]⟩], li_AVERAGE [⟨false, 1, [x]⟩], os_eq all1, os_eq all1]
def arN : List (List UInt8) := [[65, 66, 83], [76, 69, 78], [78, 79, 84], [73, 83, 84, 69, 88, 84], [83, 85, 77], [77, 65, 88], [67, 79, 85, 78, 84, 65], [82, 79, 87, 83], [67, 79, 76, 85, 77, 78, 83], [85, 80, 80, 69, 82], [73, 78, 84], [65, 86, 69, 82, 65, 71, 69]]
theorem ar_all : (arN.all fun nm => match tree_Number nm with | some c => decide (6 ≤ c ∧ c ≤ 54) | none => false) = true := by decide +kernel
theorem ar_num {nm : List UInt8} (hm : nm ∈ arN) : ∃ c, tree_Number nm = some c ∧ 6 ≤ c ∧ c ≤ 54 := by
  have h := List.all_eq_true.1 ar_all nm hm
  split at h
  · rename_i c e
    exact ⟨c, e, of_decide_eq_true h⟩
  · cases h
theorem ar_eq {nm : List UInt8} {c : Int} (hm : nm ∈ arN) (hc : tree_Number nm = some c) (f : Bool) {x a : V} {t : List UInt8} (hA : value_ToNum x = some a) (hT : value_ToText x = some ⟨2, 0, t⟩) : funcs_Apply c [⟨f, 1, [x]⟩] = funcs_Apply c [⟨false, 1, [x]⟩] := by
  unfold arN at hm
  simp only [List.mem_cons, List.not_mem_nil, or_false] at hm
  rcases hm with rfl | rfl | rfl | rfl | rfl | rfl | rfl | rfl | rfl | rfl | rfl | rfl
  · rw [← Option.some.inj (nf1_ABS.1.symm.trans hc)]; exact ar_ABS f hA hT
  · rw [← Option.some.inj (nf1_LEN.1.symm.trans hc)]; exact ar_LEN f hA hT
  · rw [← Option.some.inj (nf1_NOT.1.symm.trans hc)]; exact ar_NOT f hA hT
  · rw [← Option.some.inj (nf1_ISTEXT.1.symm.trans hc)]; exact ar_ISTEXT f hA hT
  · rw [← Option.some.inj (nf1_SUM.1.symm.trans hc)]; exact ar_SUM f hA hT
  · rw [← Option.some.inj (nf1_MAX.1.symm.trans hc)]; exact ar_MAX f hA hT
  · rw [← Option.some.inj (nf1_COUNTA.1.symm.trans hc)]; exact ar_COUNTA f hA hT
  · rw [← Option.some.inj (nf1_ROWS.1.symm.trans hc)]; exact ar_ROWS f hA hT
  · rw [← Option.some.inj (nf1_COLUMNS.1.symm.trans hc)]; exact ar_COLUMNS f hA hT
  · rw [← Option.some.inj (nf1_UPPER.1.symm.trans hc)]; exact ar_UPPER f hA hT
  · rw [← Option.some.inj (nf1_INT.1.symm.trans hc)]; exact ar_INT f hA hT
  · rw [← Option.some.inj (nf1_AVERAGE.1.symm.trans hc)]; exact ar_AVERAGE f hA hT
theorem match_self (x : V) : lists_Match x [x] = some ⟨1, 1000000, []⟩ := by
  unfold lists_Match
  have e1 : lists_equal x x = some true := by simp [lists_equal, bindv]
  have e2 : num_Of 1 = some (1000000, true) := by decide
  simp [bindv, chk, u1, gel, obind, w01, e1, e2, value_Made_eq]
theorem argok {f : Bool} {x : V} (h : Rt x ∧ x.k ≠ 4) : ArgOk ⟨f, 1, [x]⟩ := ⟨by simp, fun y hy => by rw [List.mem_singleton.1 hy]; exact h, .inl rfl⟩
theorem reckonerlaw12_FuncsAreas_tot {x0 : V} {x1 : V} (h0 : -9223372036854775808 ≤ x0.n ∧ x0.n ≤ 9223372036854775807) (h1 : -9223372036854775808 ≤ x1.n ∧ x1.n ≤ 9223372036854775807) : Ok (reckonerlaw12_FuncsAreas x0 x1) (fun r => r = true) := by
  unfold reckonerlaw12_FuncsAreas
  refine Ok.ob (Ok.of (P := fun r => r = true) fit_true rfl) fun y9_4 ey9_4 hy9_4 => ?_
  refine Ok.bv fun z10_5 ez10_5 => ?_
  refine Ok.it (fun c => ?_) (fun c => ?_)
  · skip
    try simp only [ez10_5, decide_eq_true_eq, decide_eq_false_iff_not, Bool.or_eq_true, Bool.and_eq_true, Bool.or_eq_false_iff, Bool.and_eq_false_iff, Bool.not_eq_true', Bool.not_eq_false', Bool.not_eq_eq_eq_not, Bool.not_true, Bool.not_false, ne_eq, decide_not] at c
    exact Ok.sm (by rw [hy9_4] at c; cases c)
  · skip
    try simp only [ez10_5, decide_eq_true_eq, decide_eq_false_iff_not, Bool.or_eq_true, Bool.and_eq_true, Bool.or_eq_false_iff, Bool.and_eq_false_iff, Bool.not_eq_true', Bool.not_eq_false', Bool.not_eq_eq_eq_not, Bool.not_true, Bool.not_false, ne_eq, decide_not] at c
    refine Ok.ob (good_rt h0) fun y12_8 ey12_8 hy12_8 => ?_
    refine Ok.bv fun z13_9 ez13_9 => ?_
    refine Ok.ob (Ok.it (P := fun r => z13_9 = false → r = true → Rt x1 ∧ x1.k ≠ 4) (fun _ => (good_rt h1).mono fun _ h _ => h) (fun g => Ok.sm fun h => by rw [h] at g; cases g)) fun y16_10 ey16_10 hy16_10 => ?_
    refine Ok.bv fun z17_11 ez17_11 => ?_
    refine Ok.bv fun z18_12 ez18_12 => ?_
    refine Ok.it (fun c => ?_) (fun c => ?_)
    · skip
      try simp only [ez18_12, ez17_11, ez13_9, decide_eq_true_eq, decide_eq_false_iff_not, Bool.or_eq_true, Bool.and_eq_true, Bool.or_eq_false_iff, Bool.and_eq_false_iff, Bool.not_eq_true', Bool.not_eq_false', Bool.not_eq_eq_eq_not, Bool.not_true, Bool.not_false, ne_eq, decide_not] at c
      exact Ok.sm (by first | trivial | assumption | omega | (simp only; omega))
    · skip
      try simp only [ez18_12, ez17_11, ez13_9, decide_eq_true_eq, decide_eq_false_iff_not, Bool.or_eq_true, Bool.and_eq_true, Bool.or_eq_false_iff, Bool.and_eq_false_iff, Bool.not_eq_true', Bool.not_eq_false', Bool.not_eq_eq_eq_not, Bool.not_true, Bool.not_false, ne_eq, decide_not] at c
      have g0 := hy12_8 c.1
      have g1 := hy16_10 (by rw [ez13_9, c.1]; rfl) c.2
      obtain ⟨t0, e0, l0⟩ := value_Show_rt g0.1 g0.2
      obtain ⟨t1, e1, l1⟩ := value_Show_rt g1.1 g1.2
      have T0 := toText_eq g0.2 e0 l0
      have T1 := toText_eq g1.2 e1 l1
      obtain ⟨av, eA, _⟩ := value_ToNum_rt g0.1
      refine Ok.bv fun J17 eJ17 => ?_
      have hJ17 : ∀ s17 : Unit, (True) → Ok (J17 s17) (fun r => r = true) := by
        intro s17 hs17
        rw [eJ17]
        refine Ok.ob (Ok.of (P := fun r => r = 41) nf2_EXACT.1 rfl) fun y41_18 ey41_18 hy41_18 => ?_
        refine Ok.ob (Ok.sm (P := fun r => r = ⟨false, 1, [x1]⟩) rfl) fun y44_19 ey44_19 hy44_19 => ?_
        refine Ok.ob (Ok.mono (P := fun r => texts_More [69, 88, 65, 67, 84] [t0, t1] = some r) (by rw [hy41_18, hy44_19, (applyS (l := [⟨true, 1, [x0]⟩, ⟨false, 1, [x1]⟩]) nf2_EXACT.2.1 nf2_EXACT.2.2 (by decide)).trans (sBm (by first | rfl | simp) (strs2 T0 T1))]; exact Ok.self (texts_More_tot (by simp) (all2 l0 l1))) (fun _ h => h)) fun y46_21 ey46_21 hy46_21 => ?_
        refine Ok.ob (Ok.of (P := fun r => r = 41) nf2_EXACT.1 rfl) fun y47_22 ey47_22 hy47_22 => ?_
        refine Ok.ob (Ok.sm (P := fun r => r = ⟨false, 1, [x0]⟩) rfl) fun y49_23 ey49_23 hy49_23 => ?_
        refine Ok.ob (Ok.sm (P := fun r => r = ⟨false, 1, [x1]⟩) rfl) fun y51_25 ey51_25 hy51_25 => ?_
        refine Ok.ob (Ok.of (P := fun r => r = y46_21) (by rw [hy47_22, hy49_23, hy51_25, (applyS (l := [⟨false, 1, [x0]⟩, ⟨false, 1, [x1]⟩]) nf2_EXACT.2.1 nf2_EXACT.2.2 (by decide)).trans (sBm (by first | rfl | simp) (strs2 T0 T1))]; exact hy46_21) rfl) fun y53_27 ey53_27 hy53_27 => ?_
        refine Ok.bv fun z54_28 ez54_28 => ?_
        have hz54_28 : z54_28 = true := by rw [ez54_28, hy53_27]; simp
        refine Ok.ob (Ok.it (P := fun r => r = 51) (fun _ => Ok.of nf2_MATCH.1 rfl) (fun g => by rw [hz54_28] at g; cases g)) fun y56_29 ey56_29 hy56_29 => ?_
        refine Ok.ob (Ok.it (P := fun r => r = ⟨false, 1, [x0]⟩) (fun _ => Ok.sm rfl) (fun g => by rw [hz54_28] at g; cases g)) fun y58_30 ey58_30 hy58_30 => ?_
        refine Ok.ob (Ok.it (P := fun r => r = ⟨1, 1000000, []⟩) (fun _ => Ok.of (by rw [hy56_29, hy58_30]; exact ((applyL (l := [⟨false, 1, [x0]⟩, ⟨true, 1, [x0]⟩]) nf2_MATCH.2.1 nf2_MATCH.2.2 (by decide)).trans (li_MATCH true x0 x0)).trans (os_eq (match_self x0))) rfl) (fun g => by rw [hz54_28] at g; cases g)) fun y61_32 ey61_32 hy61_32 => ?_
        refine Ok.ob (Ok.it (P := fun r => r = ⟨1, 1000000, []⟩) (fun _ => Ok.of rfl rfl) (fun g => by rw [hz54_28] at g; cases g)) fun y62_33 ey62_33 hy62_33 => ?_
        refine Ok.bv fun z63_34 ez63_34 => ?_
        have hz63_34 : z63_34 = true := by rw [ez63_34, hy61_32, hy62_33]; simp
        refine Ok.bv fun z64_35 ez64_35 => ?_
        have hz64_35 : z64_35 = true := by rw [ez64_35, hz54_28, hz63_34]; rfl
        exact Ok.sm (by exact hz64_35)
      clear eJ17
      refine Ok.bv fun B38 eB38 => ?_
      subst eB38
      refine Ok.lp (fun s38 : Int => (0 ≤ s38 ∧ s38 ≤ ((([([65, 66, 83] : List UInt8), ([76, 69, 78] : List UInt8), ([78, 79, 84] : List UInt8), ([73, 83, 84, 69, 88, 84] : List UInt8), ([83, 85, 77] : List UInt8), ([77, 65, 88] : List UInt8), ([67, 79, 85, 78, 84, 65] : List UInt8), ([82, 79, 87, 83] : List UInt8), ([67, 79, 76, 85, 77, 78, 83] : List UInt8), ([85, 80, 80, 69, 82] : List UInt8), ([73, 78, 84] : List UInt8), ([65, 86, 69, 82, 65, 71, 69] : List UInt8)]).length : Int)))) (fun s38 => (((([([65, 66, 83] : List UInt8), ([76, 69, 78] : List UInt8), ([78, 79, 84] : List UInt8), ([73, 83, 84, 69, 88, 84] : List UInt8), ([83, 85, 77] : List UInt8), ([77, 65, 88] : List UInt8), ([67, 79, 85, 78, 84, 65] : List UInt8), ([82, 79, 87, 83] : List UInt8), ([67, 79, 76, 85, 77, 78, 83] : List UInt8), ([85, 80, 80, 69, 82] : List UInt8), ([73, 78, 84] : List UInt8), ([65, 86, 69, 82, 65, 71, 69] : List UInt8)]).length : Int)) - s38).toNat) (by first | trivial | omega | (simp only; omega) | (simp only; refine ⟨by omega, ?_⟩; first | assumption | omega) | (simp; omega) | (simp; done)) (by first | (simp only; omega) | (simp; omega) | (simp; done)) fun s38 hs38 nextn38 ihn38 => ?_
      refine Ok.bv fun z25_40 ez25_40 => ?_
      refine Ok.it (fun c => ?_) (fun c => ?_)
      · skip
        try simp only [ez25_40, decide_eq_true_eq] at c
        refine Ok.ckf (by first | omega | decide | (simp; omega) | (simp; done)) fun k1 => ?_
        refine Ok.bv fun z26_45 ez26_45 => ?_
        have hm : z26_45 ∈ arN := by rw [ez26_45]; exact gel_mem k1
        have hk12 : s38 < 12 := by have := k1.2; simpa using this
        obtain ⟨cc, hc, hcc⟩ := ar_num hm
        refine Ok.ob (Ok.of (P := fun r => r = cc) hc rfl) fun y29_46 ey29_46 hy29_46 => ?_
        refine Ok.ob (Ok.mono (P := fun r => funcs_Apply cc [⟨false, 1, [x0]⟩] = some r) (by rw [hy29_46, ar_eq hm hc true eA T0]; exact Ok.self (funcs_Apply_tot hcc (by simp) (fun a h => by rw [List.mem_singleton.1 h]; exact argok g0))) (fun _ h => h)) fun y33_47 ey33_47 hy33_47 => ?_
        refine Ok.ob (Ok.sm (P := fun r => r = ⟨false, 1, [x0]⟩) rfl) fun y36_48 ey36_48 hy36_48 => ?_
        refine Ok.ob (Ok.of (P := fun r => r = y33_47) (by rw [hy29_46, hy36_48]; exact hy33_47) rfl) fun y38_50 ey38_50 hy38_50 => ?_
        refine Ok.bv fun z39_51 ez39_51 => ?_
        refine Ok.it (fun c => ?_) (fun c => ?_)
        · skip
          try simp only [ez39_51, decide_eq_true_eq, decide_eq_false_iff_not, Bool.or_eq_true, Bool.and_eq_true, Bool.or_eq_false_iff, Bool.and_eq_false_iff, Bool.not_eq_true', Bool.not_eq_false', Bool.not_eq_eq_eq_not, Bool.not_true, Bool.not_false, ne_eq, decide_not] at c
          exact Ok.sm (by rw [hy38_50] at c; simp at c)
        · skip
          try simp only [ez39_51, decide_eq_true_eq, decide_eq_false_iff_not, Bool.or_eq_true, Bool.and_eq_true, Bool.or_eq_false_iff, Bool.and_eq_false_iff, Bool.not_eq_true', Bool.not_eq_false', Bool.not_eq_eq_eq_not, Bool.not_true, Bool.not_false, ne_eq, decide_not] at c
          refine Ok.bv fun z40_53 ez40_53 => ?_
          have rz40_53 := (wI64 ez40_53).1
          try replace ez40_53 := (wI64 ez40_53).2 (by omega)
          exact ihn38 _ (by first | trivial | omega | (simp only; omega) | (simp only; refine ⟨by omega, ?_⟩; first | assumption | omega) | (simp; omega) | (simp; done)) (by first | (simp only; omega) | (simp; omega) | (simp; done))
      · skip
        try simp only [ez25_40, decide_eq_false_iff_not] at c
        exact hJ17 _ (by first | trivial | assumption | omega | (simp only; omega) | (simp only; assumption) | (simp; omega) | (simp; done))
end Go.Sp
