/- Joined texts. -/
import Derived.Test.YtcecjdnkcbfhlaaGreatDoorRows
import Derived.Tactics
import Derived.Tactics2
import Derived.Laws.StructEq
import Derived.Test.YtcecjdnkcbfhlaaGreatDoorQL0
set_option linter.unusedSimpArgs false
set_option linter.unusedVariables false
set_option linter.unusedSectionVars false
namespace Go.Proofs.YtcecjdnkcbfhlaaGreatDoor
open Go.Stp
theorem bld26 : Builds Tryz.prog 26 [(0, 1), (1, 1), (2, 1)] [.int .i64 0, .int .i64 0, S []] := Builds.mk Tryz.underlying26 Tryz.zeroValue26 rfl (fun _ => by kernel_rfl)
theorem bld28 : Builds Tryz.prog 28 [(0, 1), (1, 1), (2, 1)] [.int .i64 0, .int .i64 0, .int .i64 0] := Builds.mk Tryz.underlying28 Tryz.zeroValue28 rfl (fun _ => by kernel_rfl)
theorem bld30 : Builds Tryz.prog 30 [(0, 3), (3, 1), (4, 1)] [.int .i64 0, .int .i64 0, .int .i64 0, .bool false, .bool false] := Builds.mk Tryz.underlying30 Tryz.zeroValue30 rfl (fun _ => by kernel_rfl)
theorem bld33 : Builds Tryz.prog 33 [(0, 1), (1, 1), (2, 3), (5, 5), (10, 5), (15, 1), (16, 1)] [.int .i64 0, .int .i64 0, .int .i64 0, .int .i64 0, S [], .int .i64 0, .int .i64 0, .int .i64 0, .bool false, .bool false, .int .i64 0, .int .i64 0, .int .i64 0, .bool false, .bool false, S [], .slice none 0 0] := Builds.mk Tryz.underlying33 Tryz.zeroValue33 rfl (fun _ => by kernel_rfl)
theorem bld51 : Builds Tryz.prog 51 [(0, 3), (3, 3), (6, 1)] [.int .i64 0, .int .i64 0, S [], .int .i64 0, .int .i64 0, .int .i64 0, .slice none 0 0] := Builds.mk Tryz.underlying51 Tryz.zeroValue51 rfl (fun _ => by kernel_rfl)
theorem bld102 : Builds Tryz.prog 102 [(0, 1), (1, 1)] [.int .i64 0, .slice none 0 0] := Builds.mk Tryz.underlying102 Tryz.zeroValue102 rfl (fun _ => by kernel_rfl)
theorem bld107 : Builds Tryz.prog 107 [(0, 1), (1, 3), (4, 1)] [.nilIface, .int .i64 0, .int .i64 0, .int .i64 0, .map none] := Builds.mk Tryz.underlying107 Tryz.zeroValue107 rfl (fun _ => by kernel_rfl)
theorem bld109 : Builds Tryz.prog 109 [(0, 3), (3, 3)] [.int .i64 0, .int .i64 0, S [], .int .i64 0, .int .i64 0, .int .i64 0] := Builds.mk Tryz.underlying109 Tryz.zeroValue109 rfl (fun _ => by kernel_rfl)
theorem bld182 : Builds Tryz.prog 182 [(0, 1), (1, 1), (2, 1)] [.bool false, .int .i64 0, .slice none 0 0] := Builds.mk Tryz.underlying182 Tryz.zeroValue182 rfl (fun _ => by kernel_rfl)
theorem app2 : (Tryz.prog.info? 2).map (fun i => (i.zero.map (·.cells.size), i.size, i.bytes)) = some (some 1, 1, 8) := by kernel_rfl
theorem app26 : (Tryz.prog.info? 26).map (fun i => (i.zero.map (·.cells.size), i.size, i.bytes)) = some (some 3, 3, 32) := by kernel_rfl
theorem app28 : (Tryz.prog.info? 28).map (fun i => (i.zero.map (·.cells.size), i.size, i.bytes)) = some (some 3, 3, 24) := by kernel_rfl
theorem app33 : (Tryz.prog.info? 33).map (fun i => (i.zero.map (·.cells.size), i.size, i.bytes)) = some (some 17, 17, 152) := by kernel_rfl
theorem app42 : (Tryz.prog.info? 42).map (fun i => (i.zero.map (·.cells.size), i.size, i.bytes)) = some (some 1, 1, 24) := by kernel_rfl
theorem app102 : (Tryz.prog.info? 102).map (fun i => (i.zero.map (·.cells.size), i.size, i.bytes)) = some (some 2, 2, 32) := by kernel_rfl
theorem app109 : (Tryz.prog.info? 109).map (fun i => (i.zero.map (·.cells.size), i.size, i.bytes)) = some (some 6, 6, 56) := by kernel_rfl
theorem app182 : (Tryz.prog.info? 182).map (fun i => (i.zero.map (·.cells.size), i.size, i.bytes)) = some (some 3, 3, 40) := by kernel_rfl
theorem age26 : Tryz.prog.eqGuardType Tryz.prog.depth 26 = false := by kernel_rfl
theorem agq26 (x0 y0 : Int) (x1 y1 : Int) (x2 y2 : List UInt8) (w : World) : (Op.equalIn 10000 26 (.agg #[.int .i64 x0, .int .i64 x1, S x2]) (.agg #[.int .i64 y0, .int .i64 y1, S y2])).run Tryz.prog w = .ok ((decide (x0 = y0) && (decide (x1 = y1) && decide (x2 = y2)))) w := by
 have u2 := Tryz.underlying2
 have a2 := Tryz.isAgg2
 have z2 := Tryz.sizeOf2
 have u3 := Tryz.underlying3
 have a3 := Tryz.isAgg3
 have z3 := Tryz.sizeOf3
 have u9 := Tryz.underlying9
 have a9 := Tryz.isAgg9
 have z9 := Tryz.sizeOf9
 rw [show (10000 : Nat) = 9999 + 1 from rfl, run_equalIn_agg w 9999 26 _ _ (by kernel_rfl) (by kernel_rfl)]
 simp only [Program.fieldsOf, Tryz.underlying26]
 go_simp
 by_cases h0 : x0 = y0 <;> by_cases h1 : x1 = y1 <;> by_cases h2 : x2 = y2 <;> simp [h0, h1, h2]
theorem age28 : Tryz.prog.eqGuardType Tryz.prog.depth 28 = false := by kernel_rfl
theorem agq28 (x0 y0 : Int) (x1 y1 : Int) (x2 y2 : Int) (w : World) : (Op.equalIn 10000 28 (.agg #[.int .i64 x0, .int .i64 x1, .int .i64 x2]) (.agg #[.int .i64 y0, .int .i64 y1, .int .i64 y2])).run Tryz.prog w = .ok ((decide (x0 = y0) && (decide (x1 = y1) && decide (x2 = y2)))) w := by
 have u3 := Tryz.underlying3
 have a3 := Tryz.isAgg3
 have z3 := Tryz.sizeOf3
 rw [show (10000 : Nat) = 9999 + 1 from rfl, run_equalIn_agg w 9999 28 _ _ (by kernel_rfl) (by kernel_rfl)]
 simp only [Program.fieldsOf, Tryz.underlying28]
 go_simp
 by_cases h0 : x0 = y0 <;> by_cases h1 : x1 = y1 <;> by_cases h2 : x2 = y2 <;> simp [h0, h1, h2]
end Go.Proofs.YtcecjdnkcbfhlaaGreatDoor
