/- Facts on this program's types. -/
import Derived.Test.YtlpfcclecmalhaaDoorRows
import Derived.Test.YtlpfcclecmalhaaDoorStpM
import Derived.Tactics
import Derived.Tactics2
import Derived.Laws.StructEq
set_option linter.unusedSimpArgs false
set_option linter.unusedVariables false
set_option linter.unusedSectionVars false
namespace Go.Proofs.YtlpfcclecmalhaaDoor
open Go.Stp
theorem bld35 : Builds Tryd.prog 35 [(0, 1), (1, 1)] [.int .i64 0, .slice none 0 0] := Builds.mk Tryd.underlying35 Tryd.zeroValue35 rfl (fun _ => by kernel_rfl)
theorem bld40 : Builds Tryd.prog 40 [(0, 1), (1, 1), (2, 1)] [.int .i64 0, .int .i64 0, .int .i64 0] := Builds.mk Tryd.underlying40 Tryd.zeroValue40 rfl (fun _ => by kernel_rfl)
theorem bld54 : Builds Tryd.prog 54 [(0, 1), (1, 1), (2, 1)] [.int .i64 0, .int .i64 0, S []] := Builds.mk Tryd.underlying54 Tryd.zeroValue54 rfl (fun _ => by kernel_rfl)
theorem bld61 : Builds Tryd.prog 61 [(0, 3), (3, 1), (4, 1)] [.int .i64 0, .int .i64 0, .int .i64 0, .bool false, .bool false] := Builds.mk Tryd.underlying61 Tryd.zeroValue61 rfl (fun _ => by kernel_rfl)
theorem bld64 : Builds Tryd.prog 64 [(0, 1), (1, 1), (2, 3), (5, 5), (10, 5), (15, 1), (16, 1)] [.int .i64 0, .int .i64 0, .int .i64 0, .int .i64 0, S [], .int .i64 0, .int .i64 0, .int .i64 0, .bool false, .bool false, .int .i64 0, .int .i64 0, .int .i64 0, .bool false, .bool false, S [], .slice none 0 0] := Builds.mk Tryd.underlying64 Tryd.zeroValue64 rfl (fun _ => by kernel_rfl)
theorem app25 : (Tryd.prog.info? 25).map (fun i => (i.zero.map (·.cells.size), i.size, i.bytes)) = some (some 1, 1, 24) := by kernel_rfl
theorem app35 : (Tryd.prog.info? 35).map (fun i => (i.zero.map (·.cells.size), i.size, i.bytes)) = some (some 2, 2, 32) := by kernel_rfl
theorem app40 : (Tryd.prog.info? 40).map (fun i => (i.zero.map (·.cells.size), i.size, i.bytes)) = some (some 3, 3, 24) := by kernel_rfl
theorem app64 : (Tryd.prog.info? 64).map (fun i => (i.zero.map (·.cells.size), i.size, i.bytes)) = some (some 17, 17, 152) := by kernel_rfl

theorem age40 : Tryd.prog.eqGuardType Tryd.prog.depth 40 = false := by kernel_rfl
theorem agq40 (x0 y0 : Int) (x1 y1 : Int) (x2 y2 : Int) (w : World) : (Op.equalIn 10000 40 (.agg #[.int .i64 x0, .int .i64 x1, .int .i64 x2]) (.agg #[.int .i64 y0, .int .i64 y1, .int .i64 y2])).run Tryd.prog w = .ok ((decide (x0 = y0) && (decide (x1 = y1) && decide (x2 = y2)))) w := by
  have u3 := Tryd.underlying3
  have a3 := Tryd.isAgg3
  have z3 := Tryd.sizeOf3
  rw [show (10000 : Nat) = 9999 + 1 from rfl, run_equalIn_agg w 9999 40 _ _ (by kernel_rfl) (by kernel_rfl)]
  simp only [Program.fieldsOf, Tryd.underlying40]
  go_simp
  by_cases h0 : x0 = y0 <;> by_cases h1 : x1 = y1 <;> by_cases h2 : x2 = y2 <;> simp [h0, h1, h2]
theorem mk9 : MKey Tryd.prog 9 S := MKey.str Tryd.underlying9
end Go.Proofs.YtlpfcclecmalhaaDoor
