/- Facts on places, interfaces. -/
import Derived.Test.YtlpfcclecmalhaaDoorF
import Derived.Test.YtlpfcclecmalhaaDoorNdPlain
set_option linter.unusedSimpArgs false
set_option linter.unusedVariables false
set_option linter.unusedSectionVars false
namespace Go.Proofs.YtlpfcclecmalhaaDoor
open Go.Stp Go.ValP
theorem bldZ : ∀ w, (Instr.build 58 #[]).run Tryd.prog w = .ok (.agg (zeroPl.flatMap vL).toArray) w := fun w => by kernel_rfl
theorem mkI : ∀ v w, (Instr.makeInterface 52 v).run Tryd.prog w = .ok (.iface 52 v) w := fun v w => by kernel_rfl
theorem ifm_Name : ∀ v z w, (callMethod (.iface 52 v) "Name" z).run Tryd.prog w = .ok (.enter 119 (#[v] ++ z)) w := fun v z w => by kernel_rfl
end Go.Proofs.YtlpfcclecmalhaaDoor
