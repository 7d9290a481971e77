/-
  DERIVED. GIVEN WITH THE SEED: THE CARDS: each row of YtnllbjchcfpmpaaGreatDoorRows.lean that lists a variable, with what it lists TIED to the program's text (the seventh form; the later family's looks); each row that meets fmt, with fmt's text TOLD by the authors' own Lean function (tested against real Go, not proved from fmt's source: count such statements apart). THE CARD IS WHAT COUNTS. Prove the row's statement (the work); the ties are given (YtnllbjchcfpmpaaGreatDoorTie.lean); close each card by the builder's one call (the guide's Derived/Test/ToyasCard.lean, 'card_holds'). Laid BY PROGRAM, IN A SANDBOX (cutbox-door.mjs). By AI agents, Wed Nov 11 2026. No macro, syntax, notation, axiom, sorry.
-/
import Derived.Test.YtnllbjchcfpmpaaGreatDoorRows
import GoSem.ClaimSeven
namespace Go.Proofs.YtnllbjchcfpmpaaGreatDoor
namespace Rows

/-- THE TIED CARD OF 'reckonerlaw14.StepMeans'. -/
def stepMeansCard : Claim7 := { stood := { row := stepMeansRow, standIns := [], harness := (true, "63377db148ef61c44da10d7dde0896ae6ff23dc6358d07716772b9b76bfd1b1e"), looks := true }, kinds := [], alts := [], laidByText := true, laidKinds := [.data, .data, .data, .data, .sentinel, .sentinel, .listed, .data, .data, .pinned], laidTests := true, laidLooks := .later }
def StepMeansCardSaid : Prop := Claim7.holds Tryz.pinned (.plain (OpenSpec.ofChange stepMeansSpec)) stepMeansCard

/-- THE SECOND FORM's CARD OF 'reckonerlaw14.StepMeans'. -/
def stepMeansUptoCard : Claim7 := { stood := { row := stepMeansUptoRow, standIns := [], harness := (true, "63377db148ef61c44da10d7dde0896ae6ff23dc6358d07716772b9b76bfd1b1e"), looks := true }, kinds := [], alts := [], laidByText := true, laidKinds := [.data, .data, .data, .data, .sentinel, .sentinel, .listed, .data, .data, .pinned], laidTests := true, laidLooks := .later }
def StepMeansUptoCardSaid : Prop := Claim7.holds Tryz.pinned (.plain (OpenSpec.upto stepMeansSpec)) stepMeansUptoCard
end Rows
end Go.Proofs.YtnllbjchcfpmpaaGreatDoor
