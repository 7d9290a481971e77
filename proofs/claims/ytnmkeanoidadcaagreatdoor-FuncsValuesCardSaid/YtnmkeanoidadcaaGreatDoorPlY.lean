/- Functions that have an answer: what the laws share. -/
import Derived.Test.YtnmkeanoidadcaaGreatDoorPlRtE
set_option linter.unusedSimpArgs false
set_option linter.unusedVariables false
set_option linter.unusedSectionVars false
set_option linter.unusedSimpArgs false
set_option linter.unusedVariables false
set_option maxRecDepth 100000
namespace Go.Sp
open Go.Stp Go.ValP
theorem fit_true : reckonerlaw12_fit = some true := by decide +kernel
theorem os_eq {α β : Type} {x : Option α} {v : α} {f : α → Option β} (h : x = some v) : obind x f = f v := by rw [h]; rfl
theorem Ok.law {x : Option Bool} (h : Ok x (fun r => r = true)) : x = some true := by
  obtain ⟨v, h1, h2⟩ := h
  rw [h1, h2]
theorem apply_unfit {c : Int} {l : List Arg} {nm : List UInt8} (h : tree_Name c = some nm) (hf : tree_Fits c (l.length : Int) = some false) : funcs_Apply c l = some ⟨4, 2, []⟩ := by
  unfold funcs_Apply
  rw [os_eq h, os_eq hf]
  rfl
end Go.Sp
