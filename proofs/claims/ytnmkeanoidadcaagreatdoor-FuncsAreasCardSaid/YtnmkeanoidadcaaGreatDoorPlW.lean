/- Functions that have an answer: functions of texts. -/
import Derived.Test.YtnmkeanoidadcaaGreatDoorPlX
set_option linter.unusedSimpArgs false
set_option linter.unusedVariables false
set_option linter.unusedSectionVars false
set_option linter.unusedSimpArgs false
set_option linter.unusedVariables false
set_option maxRecDepth 100000
namespace Go.Sp
open Go.Stp Go.ValP
theorem nf3_CONCAT : tree_Number [67, 79, 78, 67, 65, 84] = some 37 ∧ tree_Name 37 = some [67, 79, 78, 67, 65, 84] ∧ tree_Fits 37 ((3 : Nat) : Int) = some true := by decide +kernel
theorem nf1_CONCAT : tree_Number [67, 79, 78, 67, 65, 84] = some 37 ∧ tree_Name 37 = some [67, 79, 78, 67, 65, 84] ∧ tree_Fits 37 ((1 : Nat) : Int) = some true := by decide +kernel
theorem nf2_FIND : tree_Number [70, 73, 78, 68] = some 39 ∧ tree_Name 39 = some [70, 73, 78, 68] ∧ tree_Fits 39 ((2 : Nat) : Int) = some true := by decide +kernel
theorem nf3_SUBSTITUTE : tree_Number [83, 85, 66, 83, 84, 73, 84, 85, 84, 69] = some 40 ∧ tree_Name 40 = some [83, 85, 66, 83, 84, 73, 84, 85, 84, 69] ∧ tree_Fits 40 ((3 : Nat) : Int) = some true := by decide +kernel
theorem nf2_LEFT : tree_Number [76, 69, 70, 84] = some 31 ∧ tree_Name 31 = some [76, 69, 70, 84] ∧ tree_Fits 31 ((2 : Nat) : Int) = some true := by decide +kernel
theorem nf2_EXACT : tree_Number [69, 88, 65, 67, 84] = some 41 ∧ tree_Name 41 = some [69, 88, 65, 67, 84] ∧ tree_Fits 41 ((2 : Nat) : Int) = some true := by decide +kernel
theorem nf2_MATCH : tree_Number [77, 65, 84, 67, 72] = some 51 ∧ tree_Name 51 = some [77, 65, 84, 67, 72] ∧ tree_Fits 51 ((2 : Nat) : Int) = some true := by decide +kernel
theorem Ok.self {α : Type} {x : Option α} {P : α → Prop} (h : Ok x P) : Ok x (fun r => x = some r) := by
  obtain ⟨v, h1, _⟩ := h
  exact ⟨v, h1, h1⟩
def onsN : List (List UInt8) := [[76, 69, 78], [85, 80, 80, 69, 82], [76, 79, 87, 69, 82], [84, 82, 73, 77], [86, 65, 76, 85, 69]]
theorem ons_all : (onsN.all fun nm => nfOk nm 1 true && decide (nm ∈ ([[76, 69, 78], [85, 80, 80, 69, 82], [76, 79, 87, 69, 82], [84, 82, 73, 77], [86, 65, 76, 85, 69], [67, 79, 78, 67, 65, 84], [69, 88, 65, 67, 84], [70, 73, 78, 68], [83, 85, 66, 83, 84, 73, 84, 85, 84, 69]] : List (List UInt8))) && !decide (nm = [67, 79, 78, 67, 65, 84])) = true := by decide +kernel
theorem ons1 {nm : List UInt8} (hm : nm ∈ onsN) : nfOk nm 1 true = true ∧ nm ∈ ([[76, 69, 78], [85, 80, 80, 69, 82], [76, 79, 87, 69, 82], [84, 82, 73, 77], [86, 65, 76, 85, 69], [67, 79, 78, 67, 65, 84], [69, 88, 65, 67, 84], [70, 73, 78, 68], [83, 85, 66, 83, 84, 73, 84, 85, 84, 69]] : List (List UInt8)) ∧ nm ≠ [67, 79, 78, 67, 65, 84] := by
  have h0 := List.all_eq_true.1 ons_all nm hm
  rw [Bool.and_eq_true, Bool.and_eq_true] at h0
  refine ⟨h0.1.1, of_decide_eq_true h0.1.2, ?_⟩
  have := h0.2
  simp only [Bool.not_eq_true', decide_eq_false_iff_not] at this
  exact this
theorem sB1 {nm : List UInt8} {l : List Arg} {t : List UInt8} (hne : nm ≠ [67, 79, 78, 67, 65, 84]) (h : funcs_strs l = some ([t], ⟨0, 0, []⟩)) : sB nm l = texts_One nm t := by
  unfold sB
  rw [os_eq h]
  have e1 : decide (nm = [67, 79, 78, 67, 65, 84]) = false := decide_eq_false hne
  simp only [bindv, e1]
  exact sm_id _
theorem sBm {nm : List UInt8} {l : List Arg} {ts : List (List UInt8)} (hne : (decide ((ts.length : Int) = 1) && !decide (nm = [67, 79, 78, 67, 65, 84])) = false) (h : funcs_strs l = some (ts, ⟨0, 0, []⟩)) : sB nm l = texts_More nm ts := by
  unfold sB
  rw [os_eq h]
  simp only [bindv, hne]
  exact sm_id _
theorem pB2 {nm : List UInt8} {x y b : V} {t : List UInt8} (h : funcs_strs [⟨false, 1, [x]⟩] = some ([t], ⟨0, 0, []⟩)) (k : value_ToNum y = some b) : pB nm [⟨false, 1, [x]⟩, ⟨false, 1, [y]⟩] = if b.k = 4 then some b else texts_Part nm t [b.n] := by
  unfold pB
  have c1 : cutL [(⟨false, 1, [x]⟩ : Arg), ⟨false, 1, [y]⟩] 0 1 = [⟨false, 1, [x]⟩] := rfl
  have c2 : cutL [(⟨false, 1, [x]⟩ : Arg), ⟨false, 1, [y]⟩] 1 (([(⟨false, 1, [x]⟩ : Arg), ⟨false, 1, [y]⟩].length : Nat) : Int) = [⟨false, 1, [y]⟩] := rfl
  rw [c1, c2]
  simp only [bindv]
  rw [os_eq h, os_eq (nums1 k)]
  by_cases h4 : b.k = 4
  · rw [if_pos h4, if_pos h4]
    simp only [h4, decide_true, if_true]
    rfl
  · rw [if_neg h4, if_neg h4]
    simp only [h4]
    exact sm_id _
theorem ons_eq {nm : List UInt8} {x : V} {t : List UInt8} {c : Int} (hm : nm ∈ onsN) (hA : value_ToText x = some ⟨2, 0, t⟩) (hc : tree_Number nm = some c) : funcs_Apply c [⟨false, 1, [x]⟩] = texts_One nm t := by
  obtain ⟨h0, hi, hne⟩ := ons1 hm
  obtain ⟨c', h1, h2, h3⟩ := nf_get h0
  obtain rfl := Option.some.inj (hc.symm.trans h1)
  rw [applyS (l := [⟨false, 1, [x]⟩]) h2 h3 hi]
  exact sB1 hne (strs1 hA)
theorem ons_num {nm : List UInt8} (hm : nm ∈ onsN) : ∃ c, tree_Number nm = some c := by
  obtain ⟨h0, hi, hne⟩ := ons1 hm
  obtain ⟨c', h1, h2, h3⟩ := nf_get h0
  exact ⟨c', h1⟩
end Go.Sp
