/-
  DERIVED. GIVEN WITH THE SEED: THE CARDS: each row of YtnmkeanoidadcaaGreatDoorRows.lean that lists a variable, with what it lists TIED to the program's text (the seventh form; the later family's looks); each row that meets fmt, with fmt's text TOLD by the authors' own Lean function (tested against real Go, not proved from fmt's source: count such statements apart). THE CARD IS WHAT COUNTS. Prove the row's statement (the work); the ties are given (YtnmkeanoidadcaaGreatDoorTie.lean); close each card by the builder's one call (the guide's Derived/Test/ToyasCard.lean, 'card_holds'). Laid BY PROGRAM, IN A SANDBOX (cutbox-door.mjs). By AI agents, Wed Nov 11 2026. No macro, syntax, notation, axiom, sorry.
-/
import Derived.Test.YtnmkeanoidadcaaGreatDoorRows
import GoSem.ClaimSeven
namespace Go.Proofs.YtnmkeanoidadcaaGreatDoor
namespace Rows

/-- THE TIED CARD OF 'reckonerlaw12.FuncsValues'. -/
def funcsValuesCard : Claim7 := { stood := { row := funcsValuesRow, standIns := [], harness := (true, "6399ad20bb1656833c52a7b2944b633690e32f62230c05aad46055bdcef343db"), looks := false }, kinds := [], alts := [], laidByText := true, laidKinds := [.data, .listed, .data, .pinned], laidTests := true, laidLooks := .later }
def FuncsValuesCardSaid : Prop := Claim7.holds Tryz.pinned (.plain (OpenSpec.ofChange funcsValuesSpec)) funcsValuesCard

/-- THE TIED CARD OF 'reckonerlaw12.FuncsNumbers'. -/
def funcsNumbersCard : Claim7 := { stood := { row := funcsNumbersRow, standIns := [], harness := (true, "6399ad20bb1656833c52a7b2944b633690e32f62230c05aad46055bdcef343db"), looks := false }, kinds := [], alts := [], laidByText := true, laidKinds := [.data, .listed, .data, .pinned], laidTests := true, laidLooks := .later }
def FuncsNumbersCardSaid : Prop := Claim7.holds Tryz.pinned (.plain (OpenSpec.ofChange funcsNumbersSpec)) funcsNumbersCard

/-- THE TIED CARD OF 'reckonerlaw12.FuncsTexts'. -/
def funcsTextsCard : Claim7 := { stood := { row := funcsTextsRow, standIns := [], harness := (true, "6399ad20bb1656833c52a7b2944b633690e32f62230c05aad46055bdcef343db"), looks := false }, kinds := [], alts := [], laidByText := true, laidKinds := [.data, .listed, .data, .pinned], laidTests := true, laidLooks := .later }
def FuncsTextsCardSaid : Prop := Claim7.holds Tryz.pinned (.plain (OpenSpec.ofChange funcsTextsSpec)) funcsTextsCard

/-- THE TIED CARD OF 'reckonerlaw12.FuncsAreas'. -/
def funcsAreasCard : Claim7 := { stood := { row := funcsAreasRow, standIns := [], harness := (true, "6399ad20bb1656833c52a7b2944b633690e32f62230c05aad46055bdcef343db"), looks := false }, kinds := [], alts := [], laidByText := true, laidKinds := [.data, .listed, .data, .pinned], laidTests := true, laidLooks := .later }
def FuncsAreasCardSaid : Prop := Claim7.holds Tryz.pinned (.plain (OpenSpec.ofChange funcsAreasSpec)) funcsAreasCard

/-- THE SECOND FORM's CARD OF 'reckonerlaw12.FuncsValues'. -/
def funcsValuesUptoCard : Claim7 := { stood := { row := funcsValuesUptoRow, standIns := [], harness := (true, "6399ad20bb1656833c52a7b2944b633690e32f62230c05aad46055bdcef343db"), looks := false }, kinds := [], alts := [], laidByText := true, laidKinds := [.data, .listed, .data, .pinned], laidTests := true, laidLooks := .later }
def FuncsValuesUptoCardSaid : Prop := Claim7.holds Tryz.pinned (.plain (OpenSpec.upto funcsValuesSpec)) funcsValuesUptoCard

/-- THE SECOND FORM's CARD OF 'reckonerlaw12.FuncsNumbers'. -/
def funcsNumbersUptoCard : Claim7 := { stood := { row := funcsNumbersUptoRow, standIns := [], harness := (true, "6399ad20bb1656833c52a7b2944b633690e32f62230c05aad46055bdcef343db"), looks := false }, kinds := [], alts := [], laidByText := true, laidKinds := [.data, .listed, .data, .pinned], laidTests := true, laidLooks := .later }
def FuncsNumbersUptoCardSaid : Prop := Claim7.holds Tryz.pinned (.plain (OpenSpec.upto funcsNumbersSpec)) funcsNumbersUptoCard

/-- THE SECOND FORM's CARD OF 'reckonerlaw12.FuncsTexts'. -/
def funcsTextsUptoCard : Claim7 := { stood := { row := funcsTextsUptoRow, standIns := [], harness := (true, "6399ad20bb1656833c52a7b2944b633690e32f62230c05aad46055bdcef343db"), looks := false }, kinds := [], alts := [], laidByText := true, laidKinds := [.data, .listed, .data, .pinned], laidTests := true, laidLooks := .later }
def FuncsTextsUptoCardSaid : Prop := Claim7.holds Tryz.pinned (.plain (OpenSpec.upto funcsTextsSpec)) funcsTextsUptoCard

/-- THE SECOND FORM's CARD OF 'reckonerlaw12.FuncsAreas'. -/
def funcsAreasUptoCard : Claim7 := { stood := { row := funcsAreasUptoRow, standIns := [], harness := (true, "6399ad20bb1656833c52a7b2944b633690e32f62230c05aad46055bdcef343db"), looks := false }, kinds := [], alts := [], laidByText := true, laidKinds := [.data, .listed, .data, .pinned], laidTests := true, laidLooks := .later }
def FuncsAreasUptoCardSaid : Prop := Claim7.holds Tryz.pinned (.plain (OpenSpec.upto funcsAreasSpec)) funcsAreasUptoCard
end Rows
end Go.Proofs.YtnmkeanoidadcaaGreatDoor
