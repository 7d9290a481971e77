/- Facts on this program's types. -/
import Derived.Test.YtmfblggkgmgccaaDoorRows
import Derived.Test.YtmfblggkgmgccaaDoorStpG
import Derived.Tactics
import Derived.Tactics2
import Derived.Laws.StructEq
set_option linter.unusedSimpArgs false
set_option linter.unusedVariables false
set_option linter.unusedSectionVars false
namespace Go.Proofs.YtmfblggkgmgccaaDoor
open Go.Stp
theorem bld23 : Builds Tryd.prog 23 [(0, 1), (1, 1), (2, 1)] [.int .i64 0, .int .i64 0, S []] := Builds.mk Tryd.underlying23 Tryd.zeroValue23 rfl (fun _ => by kernel_rfl)
theorem ni5 : Tryd.prog.inits.idxOf? 5 = none := by kernel_rfl
theorem ni6 : Tryd.prog.inits.idxOf? 6 = none := by kernel_rfl
theorem ni8 : Tryd.prog.inits.idxOf? 8 = none := by kernel_rfl
theorem ni9 : Tryd.prog.inits.idxOf? 9 = none := by kernel_rfl
theorem ni10 : Tryd.prog.inits.idxOf? 10 = none := by kernel_rfl
theorem ni11 : Tryd.prog.inits.idxOf? 11 = none := by kernel_rfl
theorem ni12 : Tryd.prog.inits.idxOf? 12 = none := by kernel_rfl
theorem ni13 : Tryd.prog.inits.idxOf? 13 = none := by kernel_rfl
theorem ni14 : Tryd.prog.inits.idxOf? 14 = none := by kernel_rfl
theorem ni15 : Tryd.prog.inits.idxOf? 15 = none := by kernel_rfl
theorem ni16 : Tryd.prog.inits.idxOf? 16 = none := by kernel_rfl
theorem ni17 : Tryd.prog.inits.idxOf? 17 = none := by kernel_rfl
theorem ni18 : Tryd.prog.inits.idxOf? 18 = none := by kernel_rfl
theorem ni19 : Tryd.prog.inits.idxOf? 19 = none := by kernel_rfl
theorem ni20 : Tryd.prog.inits.idxOf? 20 = none := by kernel_rfl
theorem ni21 : Tryd.prog.inits.idxOf? 21 = none := by kernel_rfl
theorem ni22 : Tryd.prog.inits.idxOf? 22 = none := by kernel_rfl
theorem ni23 : Tryd.prog.inits.idxOf? 23 = none := by kernel_rfl
theorem ni24 : Tryd.prog.inits.idxOf? 24 = none := by kernel_rfl
theorem ni25 : Tryd.prog.inits.idxOf? 25 = none := by kernel_rfl
theorem ni26 : Tryd.prog.inits.idxOf? 26 = none := by kernel_rfl
theorem ni27 : Tryd.prog.inits.idxOf? 27 = none := by kernel_rfl
theorem ni28 : Tryd.prog.inits.idxOf? 28 = none := by kernel_rfl
theorem ni29 : Tryd.prog.inits.idxOf? 29 = none := by kernel_rfl
theorem ni30 : Tryd.prog.inits.idxOf? 30 = none := by kernel_rfl
theorem ni31 : Tryd.prog.inits.idxOf? 31 = none := by kernel_rfl
theorem ni32 : Tryd.prog.inits.idxOf? 32 = none := by kernel_rfl
theorem ni33 : Tryd.prog.inits.idxOf? 33 = none := by kernel_rfl
theorem ni35 : Tryd.prog.inits.idxOf? 35 = none := by kernel_rfl
theorem ni37 : Tryd.prog.inits.idxOf? 37 = none := by kernel_rfl
theorem ni38 : Tryd.prog.inits.idxOf? 38 = none := by kernel_rfl
theorem ni39 : Tryd.prog.inits.idxOf? 39 = none := by kernel_rfl
theorem app5 : (Tryd.prog.info? 5).map (fun i => (i.zero.map (·.cells.size), i.size, i.bytes)) = some (some 1, 1, 1) := by kernel_rfl
theorem bld42 : Builds Tryd.prog 42 (plA 6 1) [.bool false, .bool false, .bool false, .bool false, .bool false, .bool false] := Builds.mkA Tryd.underlying42 Tryd.sizeOf4 Tryd.zeroValue42 rfl (plA_get 6 1)
theorem age23 : Tryd.prog.eqGuardType Tryd.prog.depth 23 = false := by kernel_rfl
theorem agq23 (x0 y0 : Int) (x1 y1 : Int) (x2 y2 : List UInt8) (w : World) : (Op.equalIn 10000 23 (.agg #[.int .i64 x0, .int .i64 x1, S x2]) (.agg #[.int .i64 y0, .int .i64 y1, S y2])).run Tryd.prog w = .ok ((decide (x0 = y0) && (decide (x1 = y1) && decide (x2 = y2)))) w := by
  have u2 := Tryd.underlying2
  have a2 := Tryd.isAgg2
  have z2 := Tryd.sizeOf2
  have u3 := Tryd.underlying3
  have a3 := Tryd.isAgg3
  have z3 := Tryd.sizeOf3
  have u9 := Tryd.underlying9
  have a9 := Tryd.isAgg9
  have z9 := Tryd.sizeOf9
  rw [show (10000 : Nat) = 9999 + 1 from rfl, run_equalIn_agg w 9999 23 _ _ (by kernel_rfl) (by kernel_rfl)]
  simp only [Program.fieldsOf, Tryd.underlying23]
  go_simp
  by_cases h0 : x0 = y0 <;> by_cases h1 : x1 = y1 <;> by_cases h2 : x2 = y2 <;> simp [h0, h1, h2]
end Go.Proofs.YtmfblggkgmgccaaDoor
