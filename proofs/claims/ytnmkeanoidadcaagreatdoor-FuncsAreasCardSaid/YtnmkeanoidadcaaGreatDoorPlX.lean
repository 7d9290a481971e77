/- Functions that have an answer: names and numbers of functions. -/
import Derived.Test.YtnmkeanoidadcaaGreatDoorPlZC
set_option linter.unusedSimpArgs false
set_option linter.unusedVariables false
set_option linter.unusedSectionVars false
set_option linter.unusedSimpArgs false
set_option linter.unusedVariables false
set_option maxRecDepth 100000
namespace Go.Sp
open Go.Stp Go.ValP
def twoN : List (List UInt8) := [[82, 79, 85, 78, 68], [77, 79, 68], [80, 79, 87, 69, 82], [81, 85, 79, 84, 73, 69, 78, 84], [71, 67, 68], [76, 67, 77]]
def oneN : List (List UInt8) := [[65, 66, 83], [83, 73, 71, 78], [73, 78, 84], [84, 82, 85, 78, 67], [69, 86, 69, 78], [79, 68, 68], [70, 65, 67, 84]]
def nfOk (nm : List UInt8) (n : Nat) (b : Bool) : Bool := match tree_Number nm with
  | some c => decide (tree_Name c = some nm) && decide (tree_Fits c (n : Nat) = some b)
  | none => false
theorem nf_get {nm : List UInt8} {n : Nat} {b : Bool} (h : nfOk nm n b = true) : ∃ c, tree_Number nm = some c ∧ tree_Name c = some nm ∧ tree_Fits c (n : Int) = some b := by
  unfold nfOk at h
  split at h
  · rename_i c e
    simp at h
    exact ⟨c, e, h.1, h.2⟩
  · cases h
theorem two_all : (twoN.all fun nm => nfOk nm 2 true) = true := by decide +kernel
theorem one_all : (oneN.all fun nm => nfOk nm 1 true && nfOk nm 0 false) = true := by decide +kernel
theorem two_in : ∀ nm ∈ twoN, nm ∈ ([[65, 66, 83], [83, 73, 71, 78], [73, 78, 84], [84, 82, 85, 78, 67], [69, 86, 69, 78], [79, 68, 68], [70, 65, 67, 84], [82, 79, 85, 78, 68], [77, 79, 68], [80, 79, 87, 69, 82], [81, 85, 79, 84, 73, 69, 78, 84], [71, 67, 68], [76, 67, 77]] : List (List UInt8)) := by decide +kernel
theorem one_in : ∀ nm ∈ oneN, nm ∈ ([[65, 66, 83], [83, 73, 71, 78], [73, 78, 84], [84, 82, 85, 78, 67], [69, 86, 69, 78], [79, 68, 68], [70, 65, 67, 84], [82, 79, 85, 78, 68], [77, 79, 68], [80, 79, 87, 69, 82], [81, 85, 79, 84, 73, 69, 78, 84], [71, 67, 68], [76, 67, 77]] : List (List UInt8)) := by decide +kernel
theorem sm_id (x : Option V) : (obind x fun y => some y) = x := by cases x <;> rfl
theorem nf2 {nm : List UInt8} (hm : nm ∈ twoN) : nfOk nm 2 true = true := List.all_eq_true.1 two_all nm hm
theorem nf1 {nm : List UInt8} (hm : nm ∈ oneN) : nfOk nm 1 true = true ∧ nfOk nm 0 false = true := by
  have h0 := List.all_eq_true.1 one_all nm hm
  rw [Bool.and_eq_true] at h0
  exact h0
theorem nB1 {nm : List UInt8} {x a : V} (hA : value_ToNum x = some a) : nB nm [⟨false, 1, [x]⟩] = if a.k = 4 then some a else maths_One nm a.n := by
  unfold nB
  rw [os_eq (nums1 hA)]
  by_cases h4 : a.k = 4
  · rw [if_pos h4, if_pos h4]
    simp only [bindv, h4, decide_true, if_true]
  · rw [if_neg h4, if_neg h4]
    simp only [bindv, h4]
    exact sm_id _
theorem nB2 {nm : List UInt8} {x y a b : V} (hA : value_ToNum x = some a) (hB : value_ToNum y = some b) : nB nm [⟨false, 1, [x]⟩, ⟨false, 1, [y]⟩] = if a.k = 4 then some a else if b.k = 4 then some b else maths_Two nm a.n b.n := by
  unfold nB
  rw [os_eq (nums2 hA hB)]
  by_cases h4 : a.k = 4
  · rw [if_pos h4, if_pos h4]
    simp only [bindv, h4, decide_true, if_true]
  · rw [if_neg h4, if_neg h4]
    by_cases k4 : b.k = 4
    · rw [if_pos k4, if_pos k4]
      simp only [bindv, k4, decide_true, if_true]
    · rw [if_neg k4, if_neg k4]
      simp only [bindv, k4]
      exact sm_id _
theorem two_eq {nm : List UInt8} {x y a b : V} {c : Int} (hm : nm ∈ twoN) (hA : value_ToNum x = some a) (hB : value_ToNum y = some b) (hc : tree_Number nm = some c) :
    funcs_Apply c [⟨false, 1, [x]⟩, ⟨false, 1, [y]⟩] = if a.k = 4 then some a else if b.k = 4 then some b else maths_Two nm a.n b.n := by
  obtain ⟨c', h1, h2, h3⟩ := nf_get (nf2 hm)
  obtain rfl := Option.some.inj (hc.symm.trans h1)
  rw [applyN (l := [⟨false, 1, [x]⟩, ⟨false, 1, [y]⟩]) h2 h3 (two_in nm hm)]
  exact nB2 hA hB
theorem one_eq {nm : List UInt8} {x a : V} {c : Int} (hm : nm ∈ oneN) (hA : value_ToNum x = some a) (hc : tree_Number nm = some c) :
    funcs_Apply c [⟨false, 1, [x]⟩] = if a.k = 4 then some a else maths_One nm a.n := by
  have h0 := nf1 hm
  obtain ⟨c', h1, h2, h3⟩ := nf_get h0.1
  obtain rfl := Option.some.inj (hc.symm.trans h1)
  rw [applyN (l := [⟨false, 1, [x]⟩]) h2 h3 (one_in nm hm)]
  exact nB1 hA
theorem one_num {nm : List UInt8} (hm : nm ∈ oneN) : ∃ c, tree_Number nm = some c := by
  have h0 := nf1 hm
  obtain ⟨c', h1, h2, h3⟩ := nf_get h0.1
  exact ⟨c', h1⟩
theorem two_num {nm : List UInt8} (hm : nm ∈ twoN) : ∃ c, tree_Number nm = some c := by
  obtain ⟨c', h1, h2, h3⟩ := nf_get (nf2 hm)
  exact ⟨c', h1⟩
theorem one_unfit {nm : List UInt8} {c : Int} (hm : nm ∈ oneN) (hc : tree_Number nm = some c) : funcs_Apply c [] = some ⟨4, 2, []⟩ := by
  have h0 := nf1 hm
  obtain ⟨c', h1, h2, h3⟩ := nf_get h0.2
  obtain rfl := Option.some.inj (hc.symm.trans h1)
  exact apply_unfit h2 h3
end Go.Sp
