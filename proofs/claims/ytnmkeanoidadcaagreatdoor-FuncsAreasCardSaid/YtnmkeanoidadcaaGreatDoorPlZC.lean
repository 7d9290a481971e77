/- Functions that have an answer: branches of funcs.Apply. -/
import Derived.Test.YtnmkeanoidadcaaGreatDoorPlZB
import Derived.KernelRfl
set_option linter.unusedSimpArgs false
set_option linter.unusedVariables false
set_option linter.unusedSectionVars false
set_option linter.unusedSimpArgs false
set_option linter.unusedVariables false
set_option maxRecDepth 100000
namespace Go.Sp
open Go.Stp Go.ValP
def nB (y14_2 : List UInt8) (x1 : List Arg) : Option V :=
  obind (funcs_nums x1) fun y38_13 =>
  bindv (decide (y38_13.2.k = 4) : Bool) fun z43_17 =>
  if z43_17 = true then (
    some y38_13.2
  ) else (
    bindv (decide ((y38_13.1.length : Int) = 1) : Bool) fun z47_20 =>
    if z47_20 = true then (
      chk ((0 : Int) ≤ 0 ∧ 0 < (y38_13.1.length : Int)) <|
      bindv (gel y38_13.1 0 : Int) fun z50_23 =>
      obind (maths_One y14_2 z50_23) fun y52_24 =>
      some y52_24
    ) else (
      chk ((0 : Int) ≤ 0 ∧ 0 < (y38_13.1.length : Int)) <|
      bindv (gel y38_13.1 0 : Int) fun z55_26 =>
      chk ((0 : Int) ≤ 1 ∧ 1 < (y38_13.1.length : Int)) <|
      bindv (gel y38_13.1 1 : Int) fun z58_28 =>
      obind (maths_Two y14_2 z55_26 z58_28) fun y60_29 =>
      some y60_29
    )
  )
def sB (y14_2 : List UInt8) (x1 : List Arg) : Option V :=
  obind (funcs_strs x1) fun y73_33 =>
  bindv (decide (y73_33.2.k = 4) : Bool) fun z78_37 =>
  if z78_37 = true then (
    some y73_33.2
  ) else (
    bindv (decide ((y73_33.1.length : Int) = 1) : Bool) fun z82_40 =>
    bindv (!decide (y14_2 = ([67, 79, 78, 67, 65, 84] : List UInt8)) : Bool) fun z85_41 =>
    bindv (z82_40 && z85_41 : Bool) fun z86_42 =>
    if z86_42 = true then (
      chk ((0 : Int) ≤ 0 ∧ 0 < (y73_33.1.length : Int)) <|
      bindv (gel y73_33.1 0 : List UInt8) fun z89_45 =>
      obind (texts_One y14_2 z89_45) fun y91_46 =>
      some y91_46
    ) else (
      obind (texts_More y14_2 y73_33.1) fun y94_47 =>
      some y94_47
    )
  )
def pB (y14_2 : List UInt8) (x1 : List Arg) : Option V :=
  chk ((0 : Int) ≤ (0 : Int) ∧ (0 : Int) ≤ (1 : Int) ∧ (1 : Int) ≤ (x1.length : Int)) <|
  bindv (cutL x1 (0 : Int) (1 : Int) : List (Arg)) fun z102_52 =>
  obind (funcs_strs z102_52) fun y103_54 =>
  bindv (decide (y103_54.2.k = 4) : Bool) fun z108_58 =>
  if z108_58 = true then (
    some y103_54.2
  ) else (
    chk ((0 : Int) ≤ (1 : Int) ∧ (1 : Int) ≤ (x1.length : Int) ∧ (x1.length : Int) ≤ (x1.length : Int)) <|
    bindv (cutL x1 (1 : Int) (x1.length : Int) : List (Arg)) fun z112_61 =>
    obind (funcs_nums z112_61) fun y113_63 =>
    bindv (decide (y113_63.2.k = 4) : Bool) fun z118_66 =>
    if z118_66 = true then (
      some y113_63.2
    ) else (
      chk ((0 : Int) ≤ 0 ∧ 0 < (y103_54.1.length : Int)) <|
      bindv (gel y103_54.1 0 : List UInt8) fun z122_69 =>
      obind (texts_Part y14_2 z122_69 y113_63.1) fun y125_70 =>
      some y125_70
    )
  )
theorem applyN {c : Int} {l : List Arg} {nm : List UInt8} (h : tree_Name c = some nm) (hf : tree_Fits c (l.length : Int) = some true) (hm : nm ∈ ([[65, 66, 83], [83, 73, 71, 78], [73, 78, 84], [84, 82, 85, 78, 67], [69, 86, 69, 78], [79, 68, 68], [70, 65, 67, 84], [82, 79, 85, 78, 68], [77, 79, 68], [80, 79, 87, 69, 82], [81, 85, 79, 84, 73, 69, 78, 84], [71, 67, 68], [76, 67, 77]] : List (List UInt8))) : funcs_Apply c l = nB nm l := by
  unfold funcs_Apply
  rw [os_eq h, os_eq hf]
  clear h hf
  simp only [List.mem_cons, List.not_mem_nil, or_false] at hm
  rcases hm with rfl | rfl | rfl | rfl | rfl | rfl | rfl | rfl | rfl | rfl | rfl | rfl | rfl
  · kernel_rfl
  · kernel_rfl
  · kernel_rfl
  · kernel_rfl
  · kernel_rfl
  · kernel_rfl
  · kernel_rfl
  · kernel_rfl
  · kernel_rfl
  · kernel_rfl
  · kernel_rfl
  · kernel_rfl
  · kernel_rfl
theorem applyS {c : Int} {l : List Arg} {nm : List UInt8} (h : tree_Name c = some nm) (hf : tree_Fits c (l.length : Int) = some true) (hm : nm ∈ ([[76, 69, 78], [85, 80, 80, 69, 82], [76, 79, 87, 69, 82], [84, 82, 73, 77], [86, 65, 76, 85, 69], [67, 79, 78, 67, 65, 84], [69, 88, 65, 67, 84], [70, 73, 78, 68], [83, 85, 66, 83, 84, 73, 84, 85, 84, 69]] : List (List UInt8))) : funcs_Apply c l = sB nm l := by
  unfold funcs_Apply
  rw [os_eq h, os_eq hf]
  clear h hf
  simp only [List.mem_cons, List.not_mem_nil, or_false] at hm
  rcases hm with rfl | rfl | rfl | rfl | rfl | rfl | rfl | rfl | rfl
  · kernel_rfl
  · kernel_rfl
  · kernel_rfl
  · kernel_rfl
  · kernel_rfl
  · kernel_rfl
  · kernel_rfl
  · kernel_rfl
  · kernel_rfl
theorem applyP {c : Int} {l : List Arg} {nm : List UInt8} (h : tree_Name c = some nm) (hf : tree_Fits c (l.length : Int) = some true) (hm : nm ∈ ([[76, 69, 70, 84], [82, 73, 71, 72, 84], [77, 73, 68], [82, 69, 80, 84]] : List (List UInt8))) : funcs_Apply c l = pB nm l := by
  unfold funcs_Apply
  rw [os_eq h, os_eq hf]
  clear h hf
  simp only [List.mem_cons, List.not_mem_nil, or_false] at hm
  rcases hm with rfl | rfl | rfl | rfl
  · kernel_rfl
  · kernel_rfl
  · kernel_rfl
  · kernel_rfl
theorem applyL {c : Int} {l : List Arg} {nm : List UInt8} (h : tree_Name c = some nm) (hf : tree_Fits c (l.length : Int) = some true) (hm : nm ∈ ([[78, 79, 84], [73, 83, 84, 69, 88, 84], [83, 85, 77], [77, 65, 88], [67, 79, 85, 78, 84, 65], [65, 86, 69, 82, 65, 71, 69], [82, 79, 87, 83], [67, 79, 76, 85, 77, 78, 83], [77, 65, 84, 67, 72]] : List (List UInt8))) : funcs_Apply c l = funcs_list nm l := by
  unfold funcs_Apply
  rw [os_eq h, os_eq hf]
  clear h hf
  simp only [List.mem_cons, List.not_mem_nil, or_false] at hm
  rcases hm with rfl | rfl | rfl | rfl | rfl | rfl | rfl | rfl | rfl
  · exact (show (obind (funcs_list _ l) fun y => some y) = _ by cases funcs_list _ l <;> rfl)
  · exact (show (obind (funcs_list _ l) fun y => some y) = _ by cases funcs_list _ l <;> rfl)
  · exact (show (obind (funcs_list _ l) fun y => some y) = _ by cases funcs_list _ l <;> rfl)
  · exact (show (obind (funcs_list _ l) fun y => some y) = _ by cases funcs_list _ l <;> rfl)
  · exact (show (obind (funcs_list _ l) fun y => some y) = _ by cases funcs_list _ l <;> rfl)
  · exact (show (obind (funcs_list _ l) fun y => some y) = _ by cases funcs_list _ l <;> rfl)
  · exact (show (obind (funcs_list _ l) fun y => some y) = _ by cases funcs_list _ l <;> rfl)
  · exact (show (obind (funcs_list _ l) fun y => some y) = _ by cases funcs_list _ l <;> rfl)
  · exact (show (obind (funcs_list _ l) fun y => some y) = _ by cases funcs_list _ l <;> rfl)
end Go.Sp
