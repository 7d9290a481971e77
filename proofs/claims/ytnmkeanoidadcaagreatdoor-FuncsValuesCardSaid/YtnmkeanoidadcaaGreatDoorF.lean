/- Facts on this program's types. -/
import Derived.Test.YtnmkeanoidadcaaGreatDoorRows
import Derived.Test.YtnmkeanoidadcaaGreatDoorStpP
import Derived.Tactics
import Derived.Tactics2
import Derived.Laws.StructEq
set_option linter.unusedSimpArgs false
set_option linter.unusedVariables false
set_option linter.unusedSectionVars false
namespace Go.Proofs.YtnmkeanoidadcaaGreatDoor
open Go.Stp
theorem bld25 : Builds Tryz.prog 25 [(0, 1), (1, 1), (2, 1)] [.int .i64 0, .int .i64 0, S []] := Builds.mk Tryz.underlying25 Tryz.zeroValue25 rfl (fun _ => by kernel_rfl)
theorem bld29 : Builds Tryz.prog 29 [(0, 1), (1, 1), (2, 1)] [.bool false, .int .i64 0, .slice none 0 0] := Builds.mk Tryz.underlying29 Tryz.zeroValue29 rfl (fun _ => by kernel_rfl)
theorem app2 : (Tryz.prog.info? 2).map (fun i => (i.zero.map (·.cells.size), i.size, i.bytes)) = some (some 1, 1, 8) := by kernel_rfl
theorem app5 : (Tryz.prog.info? 5).map (fun i => (i.zero.map (·.cells.size), i.size, i.bytes)) = some (some 1, 1, 1) := by kernel_rfl
theorem app9 : (Tryz.prog.info? 9).map (fun i => (i.zero.map (·.cells.size), i.size, i.bytes)) = some (some 1, 1, 16) := by kernel_rfl
theorem app25 : (Tryz.prog.info? 25).map (fun i => (i.zero.map (·.cells.size), i.size, i.bytes)) = some (some 3, 3, 32) := by kernel_rfl
theorem app29 : (Tryz.prog.info? 29).map (fun i => (i.zero.map (·.cells.size), i.size, i.bytes)) = some (some 3, 3, 40) := by kernel_rfl

theorem age25 : Tryz.prog.eqGuardType Tryz.prog.depth 25 = false := by kernel_rfl
theorem agq25 (x0 y0 : Int) (x1 y1 : Int) (x2 y2 : List UInt8) (w : World) : (Op.equalIn 10000 25 (.agg #[.int .i64 x0, .int .i64 x1, S x2]) (.agg #[.int .i64 y0, .int .i64 y1, S y2])).run Tryz.prog w = .ok ((decide (x0 = y0) && (decide (x1 = y1) && decide (x2 = y2)))) w := by
  have u2 := Tryz.underlying2
  have a2 := Tryz.isAgg2
  have z2 := Tryz.sizeOf2
  have u3 := Tryz.underlying3
  have a3 := Tryz.isAgg3
  have z3 := Tryz.sizeOf3
  have u9 := Tryz.underlying9
  have a9 := Tryz.isAgg9
  have z9 := Tryz.sizeOf9
  rw [show (10000 : Nat) = 9999 + 1 from rfl, run_equalIn_agg w 9999 25 _ _ (by kernel_rfl) (by kernel_rfl)]
  simp only [Program.fieldsOf, Tryz.underlying25]
  go_simp
  by_cases h0 : x0 = y0 <;> by_cases h1 : x1 = y1 <;> by_cases h2 : x2 = y2 <;> simp [h0, h1, h2]
theorem bld78 : Builds Tryz.prog 78 (plA 6 1) [.bool false, .bool false, .bool false, .bool false, .bool false, .bool false] := Builds.mkA Tryz.underlying78 Tryz.sizeOf4 Tryz.zeroValue78 rfl (plA_get 6 1)
end Go.Proofs.YtnmkeanoidadcaaGreatDoor
