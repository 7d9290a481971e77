/- Facts on this program's types. -/
import Derived.Test.YtmfblggkgmgccaaDoorRows
import Derived.Test.YtmfblggkgmgccaaDoorStpP
import Derived.Tactics
import Derived.Tactics2
import Derived.Laws.StructEq
set_option linter.unusedSimpArgs false
set_option linter.unusedVariables false
set_option linter.unusedSectionVars false
namespace Go.Proofs.YtmfblggkgmgccaaDoor
open Go.Stp
theorem bld23 : Builds Tryd.prog 23 [(0, 1), (1, 1), (2, 1)] [.int .i64 0, .int .i64 0, S []] := Builds.mk Tryd.underlying23 Tryd.zeroValue23 rfl (fun _ => by kernel_rfl)
theorem app5 : (Tryd.prog.info? 5).map (fun i => (i.zero.map (·.cells.size), i.size, i.bytes)) = some (some 1, 1, 1) := by kernel_rfl

theorem age23 : Tryd.prog.eqGuardType Tryd.prog.depth 23 = false := by kernel_rfl
theorem agq23 (x0 y0 : Int) (x1 y1 : Int) (x2 y2 : List UInt8) (w : World) : (Op.equalIn 10000 23 (.agg #[.int .i64 x0, .int .i64 x1, S x2]) (.agg #[.int .i64 y0, .int .i64 y1, S y2])).run Tryd.prog w = .ok ((decide (x0 = y0) && (decide (x1 = y1) && decide (x2 = y2)))) w := by
  have u2 := Tryd.underlying2
  have a2 := Tryd.isAgg2
  have z2 := Tryd.sizeOf2
  have u3 := Tryd.underlying3
  have a3 := Tryd.isAgg3
  have z3 := Tryd.sizeOf3
  have u9 := Tryd.underlying9
  have a9 := Tryd.isAgg9
  have z9 := Tryd.sizeOf9
  rw [show (10000 : Nat) = 9999 + 1 from rfl, run_equalIn_agg w 9999 23 _ _ (by kernel_rfl) (by kernel_rfl)]
  simp only [Program.fieldsOf, Tryd.underlying23]
  go_simp
  by_cases h0 : x0 = y0 <;> by_cases h1 : x1 = y1 <;> by_cases h2 : x2 = y2 <;> simp [h0, h1, h2]
theorem bld42 : Builds Tryd.prog 42 (plA 6 1) [.bool false, .bool false, .bool false, .bool false, .bool false, .bool false] := Builds.mkA Tryd.underlying42 Tryd.sizeOf4 Tryd.zeroValue42 rfl (plA_get 6 1)
end Go.Proofs.YtmfblggkgmgccaaDoor
