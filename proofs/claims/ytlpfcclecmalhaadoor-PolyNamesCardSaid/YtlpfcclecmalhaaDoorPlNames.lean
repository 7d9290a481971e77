/- The law PolyNames, in plain words: it is closed. -/
import Derived.Test.YtlpfcclecmalhaaDoorSpPN
import Derived.Tactics
set_option linter.unusedSimpArgs false
set_option linter.unusedVariables false
set_option linter.unusedSectionVars false
namespace Go.Sp
theorem PolyNames_true (x : Int) : reckonerlaw15_PolyNames x = some true := by kernel_rfl
end Go.Sp
