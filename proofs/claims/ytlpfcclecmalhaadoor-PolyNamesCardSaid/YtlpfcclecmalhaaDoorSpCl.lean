/- The cells of an area, row by row. -/
import Derived.Test.YtlpfcclecmalhaaDoorSpN
import Derived.Test.YtlpfcclecmalhaaDoorStpZ
set_option linter.unusedSimpArgs false
set_option linter.unusedVariables false
set_option linter.unusedSectionVars false
namespace Go.Sp
open Go.Stp Go.ValP
def rowL (a b : C) (i : Nat) : List C := (List.range (b.c - a.c + 1).toNat).map fun j : Nat => ⟨a.s, a.c + j, a.r + i⟩
def upL (a b : C) (i j : Nat) : List C := ((List.range i).flatMap (rowL a b)) ++ (List.range j).map fun j : Nat => (⟨a.s, a.c + j, a.r + i⟩ : C)
def cellsL (a b : C) : List C := (List.range (b.r - a.r + 1).toNat).flatMap (rowL a b)
/-- What addr.Cells goes over. -/
def addr_Cells (a b : C) : Option (List C) :=
  obind (addr_Order a b) fun o =>
  if o.2.2 = true then
    chk ((-9223372036854775808 ≤ o.1.c ∧ o.2.1.c < 9223372036854775807) ∧ -9223372036854775808 ≤ o.1.r ∧ o.2.1.r < 9223372036854775807) <|
    some (cellsL o.1 o.2.1)
  else some []
theorem upL_zero {a b : C} {i : Nat} : upL a b i 0 = (List.range i).flatMap (rowL a b) := by simp [upL]
theorem upL_succ {a b : C} {i j : Nat} : upL a b i j ++ [⟨a.s, a.c + j, a.r + i⟩] = upL a b i (j + 1) := by
  unfold upL
  rw [List.append_assoc, List.range_succ, List.map_append]
  rfl
theorem upL_row {a b : C} {i : Nat} : upL a b i (b.c - a.c + 1).toNat = upL a b (i + 1) 0 := by
  unfold upL
  rw [List.range_succ, List.flatMap_append]
  simp [rowL]
theorem upL_all {a b : C} : upL a b (b.r - a.r + 1).toNat 0 = cellsL a b := by simp [upL, cellsL]
theorem upL_prefix {a b : C} {i j : Nat} (hi : i < (b.r - a.r + 1).toNat) (hj : j ≤ (b.c - a.c + 1).toNat) : upL a b i j <+: cellsL a b := by
  unfold upL cellsL
  obtain ⟨m, hm⟩ : ∃ m, (b.r - a.r + 1).toNat = i + (1 + m) := ⟨(b.r - a.r + 1).toNat - i - 1, by omega⟩
  obtain ⟨k, hk⟩ : ∃ k, (b.c - a.c + 1).toNat = j + k := ⟨(b.c - a.c + 1).toNat - j, by omega⟩
  rw [hm, List.range_add, List.flatMap_append, List.range_add, List.map_append, List.flatMap_append]
  have e : List.flatMap (rowL a b) (List.map (fun x => i + x) (List.range 1)) = rowL a b i := by simp
  rw [e]
  refine List.prefix_append_right_inj _ |>.2 ?_
  unfold rowL
  rw [hk, List.range_add, List.map_append, List.append_assoc]
  exact List.prefix_append _ _
end Go.Sp
