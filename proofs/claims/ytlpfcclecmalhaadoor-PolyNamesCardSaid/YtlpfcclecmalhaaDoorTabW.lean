/- The witness's world. -/
import Derived.Test.YtlpfcclecmalhaaDoorRows
import Derived.Test.YtlpfcclecmalhaaDoorStpG
import Derived.ProofKit
import Derived.OpenShut
import Derived.LaidMore
import Derived.Lay
import Derived.Deep.Strs
import Derived.Deep.DeepWitnessRowRef
set_option linter.unusedSimpArgs false
set_option linter.unusedVariables false
set_option linter.unusedSectionVars false
namespace Go.Proofs.YtlpfcclecmalhaaDoor
open Go.ChangeShapes Go.WideShapes Go.ChangeAt Go.RowKit Go.Stp Go.Deep
open Go.ChangeMaps (open_string shut_string)
/-- A world for the witness: the listed variables laid. -/
noncomputable def world (os : Os) : World := World.laidAll Tryd.prog os Rows.polyNamesRow.laid
set_option maxRecDepth 100000
theorem world_met (os : Os) (args : Array Value) : laidMet Tryd.prog Rows.polyNamesRow.laid ((world os).forCall (fun _ _ => 0) ⟨#[], args, []⟩).memory :=
  laidMet_laidAll _ (by kernel_rfl) (by kernel_rfl)
theorem world_vars (os : Os) (args : Array Value) : ((world os).forCall (fun _ _ => 0) ⟨#[], args, []⟩).variablesRefB Tryd.checked.prog = true := by kernel_rfl
theorem world_rest (os : Os) (args : Array Value) : (((world os).forCall (fun _ _ => 0) ⟨#[], args, []⟩).heap.toList.drop Tryd.checked.prog.globals.size).take ((begin Tryd.checked.prog (fun _ _ => 0) default).world.heap.size - Tryd.checked.prog.globals.size) =
    (begin Tryd.checked.prog (fun _ _ => 0) default).world.heap.toList.drop Tryd.checked.prog.globals.size := by kernel_rfl
end Go.Proofs.YtlpfcclecmalhaaDoor
