/- Facts on this program's types. -/
import Derived.Test.YtdepoohfljaogaaDoorRows
import Derived.Test.YtdepoohfljaogaaDoorStpE
set_option linter.unusedSimpArgs false
set_option linter.unusedVariables false
set_option linter.unusedSectionVars false
namespace Go.Proofs.YtdepoohfljaogaaDoor
open Go.Stp
theorem bld28 : Builds Tryd.prog 28 [(0, 1), (1, 1), (2, 1)] [.int .i64 0, S [], .int .i64 0] := Builds.mk Tryd.underlying28 Tryd.zeroValue28 rfl (fun _ => by kernel_rfl)
theorem app28 : (Tryd.prog.info? 28).map (fun i => (i.zero.map (·.cells.size), i.size, i.bytes)) = some (some 3, 3, 32) := by kernel_rfl

end Go.Proofs.YtdepoohfljaogaaDoor
