/-
  DERIVED. GIVEN WITH THE SEED: THE CARDS: each row of YtcecjdnkcbfhlaaGreatDoorRows.lean that lists a variable, with what it lists TIED to the program's text (the seventh form; the later family's looks); each row that meets fmt, with fmt's text TOLD by the authors' own Lean function (tested against real Go, not proved from fmt's source: count such statements apart). THE CARD IS WHAT COUNTS. Prove the row's statement (the work); the ties are given (YtcecjdnkcbfhlaaGreatDoorTie.lean); close each card by the builder's one call (the guide's Derived/Test/ToyasCard.lean, 'card_holds'). Laid BY PROGRAM, IN A SANDBOX (cutbox-door.mjs). By AI agents, Wed Nov 11 2026. No macro, syntax, notation, axiom, sorry.
-/
import Derived.Test.YtcecjdnkcbfhlaaGreatDoorRows
import GoSem.ClaimSeven
namespace Go.Proofs.YtcecjdnkcbfhlaaGreatDoor
namespace Rows

/-- THE TIED CARD OF 'reckonerlaw15.PolyMeans'. -/
def polyMeansCard : Claim7 := { stood := { row := polyMeansRow, standIns := [], harness := (true, "2b51728ef7a9a9edd2ca6eb8579fca9da68269daaaca8bb0bebeea57cf523c5d"), looks := true }, kinds := [], alts := [], laidByText := true, laidKinds := [.data, .data, .data, .data, .sentinel, .sentinel, .listed, .data, .pinned], laidTests := true, laidLooks := .later }
def PolyMeansCardSaid : Prop := Claim7.holds Tryz.pinned (.plain (OpenSpec.ofChange polyMeansSpec)) polyMeansCard

/-- THE TIED CARD OF 'reckonerlaw13.EvalBooleans'. -/
def evalBooleansCard : Claim7 := { stood := { row := evalBooleansRow, standIns := [], harness := (true, "2b51728ef7a9a9edd2ca6eb8579fca9da68269daaaca8bb0bebeea57cf523c5d"), looks := true }, kinds := [], alts := [], laidByText := true, laidKinds := [.data, .listed, .data, .pinned], laidTests := true, laidLooks := .later }
def EvalBooleansCardSaid : Prop := Claim7.holds Tryz.pinned (.plain (OpenSpec.ofChange evalBooleansSpec)) evalBooleansCard

/-- THE TIED CARD OF 'reckonerlaw13.EvalOrigins'. -/
def evalOriginsCard : Claim7 := { stood := { row := evalOriginsRow, standIns := [], harness := (true, "2b51728ef7a9a9edd2ca6eb8579fca9da68269daaaca8bb0bebeea57cf523c5d"), looks := true }, kinds := [], alts := [], laidByText := true, laidKinds := [.data, .listed, .data, .pinned], laidTests := true, laidLooks := .later }
def EvalOriginsCardSaid : Prop := Claim7.holds Tryz.pinned (.plain (OpenSpec.ofChange evalOriginsSpec)) evalOriginsCard

/-- THE TIED CARD OF 'reckonerlaw13.EvalBranches'. -/
def evalBranchesCard : Claim7 := { stood := { row := evalBranchesRow, standIns := [], harness := (true, "2b51728ef7a9a9edd2ca6eb8579fca9da68269daaaca8bb0bebeea57cf523c5d"), looks := true }, kinds := [], alts := [], laidByText := true, laidKinds := [.data, .listed, .data, .pinned], laidTests := true, laidLooks := .later }
def EvalBranchesCardSaid : Prop := Claim7.holds Tryz.pinned (.plain (OpenSpec.ofChange evalBranchesSpec)) evalBranchesCard

/-- THE TIED CARD OF 'reckonerlaw13.EvalNames'. -/
def evalNamesCard : Claim7 := { stood := { row := evalNamesRow, standIns := [], harness := (true, "2b51728ef7a9a9edd2ca6eb8579fca9da68269daaaca8bb0bebeea57cf523c5d"), looks := true }, kinds := [], alts := [], laidByText := true, laidKinds := [.data, .listed, .data, .pinned], laidTests := true, laidLooks := .later }
def EvalNamesCardSaid : Prop := Claim7.holds Tryz.pinned (.plain (OpenSpec.ofChange evalNamesSpec)) evalNamesCard

/-- THE TIED CARD OF 'reckonerlaw14.StepLeaves'. -/
def stepLeavesCard : Claim7 := { stood := { row := stepLeavesRow, standIns := [], harness := (true, "2b51728ef7a9a9edd2ca6eb8579fca9da68269daaaca8bb0bebeea57cf523c5d"), looks := true }, kinds := [], alts := [], laidByText := true, laidKinds := [.data, .data, .data, .data, .sentinel, .sentinel, .listed, .data, .data, .pinned], laidTests := true, laidLooks := .later }
def StepLeavesCardSaid : Prop := Claim7.holds Tryz.pinned (.plain (OpenSpec.ofChange stepLeavesSpec)) stepLeavesCard

/-- THE TIED CARD OF 'reckonerlaw14.StepEnds'. -/
def stepEndsCard : Claim7 := { stood := { row := stepEndsRow, standIns := [], harness := (true, "2b51728ef7a9a9edd2ca6eb8579fca9da68269daaaca8bb0bebeea57cf523c5d"), looks := true }, kinds := [], alts := [], laidByText := true, laidKinds := [.data, .data, .data, .data, .sentinel, .sentinel, .listed, .data, .data, .pinned], laidTests := true, laidLooks := .later }
def StepEndsCardSaid : Prop := Claim7.holds Tryz.pinned (.plain (OpenSpec.ofChange stepEndsSpec)) stepEndsCard

/-- THE TIED CARD OF 'reckonerlaw14.StepMeans'. -/
def stepMeansCard : Claim7 := { stood := { row := stepMeansRow, standIns := [], harness := (true, "2b51728ef7a9a9edd2ca6eb8579fca9da68269daaaca8bb0bebeea57cf523c5d"), looks := true }, kinds := [], alts := [], laidByText := true, laidKinds := [.data, .data, .data, .data, .sentinel, .sentinel, .listed, .data, .data, .pinned], laidTests := true, laidLooks := .later }
def StepMeansCardSaid : Prop := Claim7.holds Tryz.pinned (.plain (OpenSpec.ofChange stepMeansSpec)) stepMeansCard

/-- THE TIED CARD OF 'reckonerlaw14.StepOnce'. -/
def stepOnceCard : Claim7 := { stood := { row := stepOnceRow, standIns := [], harness := (true, "2b51728ef7a9a9edd2ca6eb8579fca9da68269daaaca8bb0bebeea57cf523c5d"), looks := true }, kinds := [], alts := [], laidByText := true, laidKinds := [.data, .data, .data, .data, .sentinel, .sentinel, .listed, .data, .data, .pinned], laidTests := true, laidLooks := .later }
def StepOnceCardSaid : Prop := Claim7.holds Tryz.pinned (.plain (OpenSpec.ofChange stepOnceSpec)) stepOnceCard

/-- THE SECOND FORM's CARD OF 'reckonerlaw15.PolyMeans'. -/
def polyMeansUptoCard : Claim7 := { stood := { row := polyMeansUptoRow, standIns := [], harness := (true, "2b51728ef7a9a9edd2ca6eb8579fca9da68269daaaca8bb0bebeea57cf523c5d"), looks := true }, kinds := [], alts := [], laidByText := true, laidKinds := [.data, .data, .data, .data, .sentinel, .sentinel, .listed, .data, .pinned], laidTests := true, laidLooks := .later }
def PolyMeansUptoCardSaid : Prop := Claim7.holds Tryz.pinned (.plain (OpenSpec.upto polyMeansSpec)) polyMeansUptoCard

/-- THE SECOND FORM's CARD OF 'reckonerlaw13.EvalBooleans'. -/
def evalBooleansUptoCard : Claim7 := { stood := { row := evalBooleansUptoRow, standIns := [], harness := (true, "2b51728ef7a9a9edd2ca6eb8579fca9da68269daaaca8bb0bebeea57cf523c5d"), looks := true }, kinds := [], alts := [], laidByText := true, laidKinds := [.data, .listed, .data, .pinned], laidTests := true, laidLooks := .later }
def EvalBooleansUptoCardSaid : Prop := Claim7.holds Tryz.pinned (.plain (OpenSpec.upto evalBooleansSpec)) evalBooleansUptoCard

/-- THE SECOND FORM's CARD OF 'reckonerlaw13.EvalOrigins'. -/
def evalOriginsUptoCard : Claim7 := { stood := { row := evalOriginsUptoRow, standIns := [], harness := (true, "2b51728ef7a9a9edd2ca6eb8579fca9da68269daaaca8bb0bebeea57cf523c5d"), looks := true }, kinds := [], alts := [], laidByText := true, laidKinds := [.data, .listed, .data, .pinned], laidTests := true, laidLooks := .later }
def EvalOriginsUptoCardSaid : Prop := Claim7.holds Tryz.pinned (.plain (OpenSpec.upto evalOriginsSpec)) evalOriginsUptoCard

/-- THE SECOND FORM's CARD OF 'reckonerlaw13.EvalBranches'. -/
def evalBranchesUptoCard : Claim7 := { stood := { row := evalBranchesUptoRow, standIns := [], harness := (true, "2b51728ef7a9a9edd2ca6eb8579fca9da68269daaaca8bb0bebeea57cf523c5d"), looks := true }, kinds := [], alts := [], laidByText := true, laidKinds := [.data, .listed, .data, .pinned], laidTests := true, laidLooks := .later }
def EvalBranchesUptoCardSaid : Prop := Claim7.holds Tryz.pinned (.plain (OpenSpec.upto evalBranchesSpec)) evalBranchesUptoCard

/-- THE SECOND FORM's CARD OF 'reckonerlaw13.EvalNames'. -/
def evalNamesUptoCard : Claim7 := { stood := { row := evalNamesUptoRow, standIns := [], harness := (true, "2b51728ef7a9a9edd2ca6eb8579fca9da68269daaaca8bb0bebeea57cf523c5d"), looks := true }, kinds := [], alts := [], laidByText := true, laidKinds := [.data, .listed, .data, .pinned], laidTests := true, laidLooks := .later }
def EvalNamesUptoCardSaid : Prop := Claim7.holds Tryz.pinned (.plain (OpenSpec.upto evalNamesSpec)) evalNamesUptoCard

/-- THE SECOND FORM's CARD OF 'reckonerlaw14.StepLeaves'. -/
def stepLeavesUptoCard : Claim7 := { stood := { row := stepLeavesUptoRow, standIns := [], harness := (true, "2b51728ef7a9a9edd2ca6eb8579fca9da68269daaaca8bb0bebeea57cf523c5d"), looks := true }, kinds := [], alts := [], laidByText := true, laidKinds := [.data, .data, .data, .data, .sentinel, .sentinel, .listed, .data, .data, .pinned], laidTests := true, laidLooks := .later }
def StepLeavesUptoCardSaid : Prop := Claim7.holds Tryz.pinned (.plain (OpenSpec.upto stepLeavesSpec)) stepLeavesUptoCard

/-- THE SECOND FORM's CARD OF 'reckonerlaw14.StepEnds'. -/
def stepEndsUptoCard : Claim7 := { stood := { row := stepEndsUptoRow, standIns := [], harness := (true, "2b51728ef7a9a9edd2ca6eb8579fca9da68269daaaca8bb0bebeea57cf523c5d"), looks := true }, kinds := [], alts := [], laidByText := true, laidKinds := [.data, .data, .data, .data, .sentinel, .sentinel, .listed, .data, .data, .pinned], laidTests := true, laidLooks := .later }
def StepEndsUptoCardSaid : Prop := Claim7.holds Tryz.pinned (.plain (OpenSpec.upto stepEndsSpec)) stepEndsUptoCard

/-- THE SECOND FORM's CARD OF 'reckonerlaw14.StepMeans'. -/
def stepMeansUptoCard : Claim7 := { stood := { row := stepMeansUptoRow, standIns := [], harness := (true, "2b51728ef7a9a9edd2ca6eb8579fca9da68269daaaca8bb0bebeea57cf523c5d"), looks := true }, kinds := [], alts := [], laidByText := true, laidKinds := [.data, .data, .data, .data, .sentinel, .sentinel, .listed, .data, .data, .pinned], laidTests := true, laidLooks := .later }
def StepMeansUptoCardSaid : Prop := Claim7.holds Tryz.pinned (.plain (OpenSpec.upto stepMeansSpec)) stepMeansUptoCard

/-- THE SECOND FORM's CARD OF 'reckonerlaw14.StepOnce'. -/
def stepOnceUptoCard : Claim7 := { stood := { row := stepOnceUptoRow, standIns := [], harness := (true, "2b51728ef7a9a9edd2ca6eb8579fca9da68269daaaca8bb0bebeea57cf523c5d"), looks := true }, kinds := [], alts := [], laidByText := true, laidKinds := [.data, .data, .data, .data, .sentinel, .sentinel, .listed, .data, .data, .pinned], laidTests := true, laidLooks := .later }
def StepOnceUptoCardSaid : Prop := Claim7.holds Tryz.pinned (.plain (OpenSpec.upto stepOnceSpec)) stepOnceUptoCard
end Rows
end Go.Proofs.YtcecjdnkcbfhlaaGreatDoor
