/-
  DERIVED. GIVEN WITH THE SEED: THE CARDS: each row of YtmfblggkgmgccaaDoorRows.lean that lists a variable, with what it lists TIED to the program's text (the seventh form; the later family's looks); each row that meets fmt, with fmt's text TOLD by the authors' own Lean function (tested against real Go, not proved from fmt's source: count such statements apart). THE CARD IS WHAT COUNTS. Prove the row's statement (the work); the ties are given (YtmfblggkgmgccaaDoorTie.lean); close each card by the builder's one call (the guide's Derived/Test/ToyasCard.lean, 'card_holds'). Laid BY PROGRAM, IN A SANDBOX (cutbox-door.mjs). By AI agents, Wed Nov 11 2026. No macro, syntax, notation, axiom, sorry.
-/
import Derived.Test.YtmfblggkgmgccaaDoorRows
import GoSem.ClaimSeven
namespace Go.Proofs.YtmfblggkgmgccaaDoor
namespace Rows

/-- THE TIED CARD OF 'reckonerlaw12.FuncsComparisons'. -/
def funcsComparisonsCard : Claim7 := { stood := { row := funcsComparisonsRow, standIns := [], harness := (true, "c2d85b89cf856c4028801c9733b8ee4aa64de5515368ef3f068c71f9f057e958"), looks := false }, kinds := [], alts := [], laidByText := true, laidKinds := [.listed, .data], laidTests := true, laidLooks := .later }
def FuncsComparisonsCardSaid : Prop := Claim7.holds Tryd.pinned (.plain (OpenSpec.ofChange funcsComparisonsSpec)) funcsComparisonsCard

/-- THE TIED CARD OF 'reckonerlaw12.FuncsOperators'. -/
def funcsOperatorsCard : Claim7 := { stood := { row := funcsOperatorsRow, standIns := [], harness := (true, "c2d85b89cf856c4028801c9733b8ee4aa64de5515368ef3f068c71f9f057e958"), looks := false }, kinds := [], alts := [], laidByText := true, laidKinds := [.listed, .data], laidTests := true, laidLooks := .later }
def FuncsOperatorsCardSaid : Prop := Claim7.holds Tryd.pinned (.plain (OpenSpec.ofChange funcsOperatorsSpec)) funcsOperatorsCard

/-- THE SECOND FORM's CARD OF 'reckonerlaw12.FuncsComparisons'. -/
def funcsComparisonsUptoCard : Claim7 := { stood := { row := funcsComparisonsUptoRow, standIns := [], harness := (true, "c2d85b89cf856c4028801c9733b8ee4aa64de5515368ef3f068c71f9f057e958"), looks := false }, kinds := [], alts := [], laidByText := true, laidKinds := [.listed, .data], laidTests := true, laidLooks := .later }
def FuncsComparisonsUptoCardSaid : Prop := Claim7.holds Tryd.pinned (.plain (OpenSpec.upto funcsComparisonsSpec)) funcsComparisonsUptoCard

/-- THE SECOND FORM's CARD OF 'reckonerlaw12.FuncsOperators'. -/
def funcsOperatorsUptoCard : Claim7 := { stood := { row := funcsOperatorsUptoRow, standIns := [], harness := (true, "c2d85b89cf856c4028801c9733b8ee4aa64de5515368ef3f068c71f9f057e958"), looks := false }, kinds := [], alts := [], laidByText := true, laidKinds := [.listed, .data], laidTests := true, laidLooks := .later }
def FuncsOperatorsUptoCardSaid : Prop := Claim7.holds Tryd.pinned (.plain (OpenSpec.upto funcsOperatorsSpec)) funcsOperatorsUptoCard
end Rows
end Go.Proofs.YtmfblggkgmgccaaDoor
