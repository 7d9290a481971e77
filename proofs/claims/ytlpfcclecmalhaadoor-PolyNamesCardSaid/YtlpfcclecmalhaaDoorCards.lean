/-
  DERIVED. GIVEN WITH THE SEED: THE CARDS: each row of YtlpfcclecmalhaaDoorRows.lean that lists a variable, with what it lists TIED to the program's text (the seventh form; the later family's looks); each row that meets fmt, with fmt's text TOLD by the authors' own Lean function (tested against real Go, not proved from fmt's source: count such statements apart). THE CARD IS WHAT COUNTS. Prove the row's statement (the work); the ties are given (YtlpfcclecmalhaaDoorTie.lean); close each card by the builder's one call (the guide's Derived/Test/ToyasCard.lean, 'card_holds'). Laid BY PROGRAM, IN A SANDBOX (cutbox-door.mjs). By AI agents, Wed Nov 11 2026. No macro, syntax, notation, axiom, sorry.
-/
import Derived.Test.YtlpfcclecmalhaaDoorRows
import GoSem.ClaimSeven
namespace Go.Proofs.YtlpfcclecmalhaaDoor
namespace Rows

/-- THE TIED CARD OF 'reckonerlaw15.PolyLaws'. -/
def polyLawsCard : Claim7 := { stood := { row := polyLawsRow, standIns := [], harness := (true, "b89669d603a97e4dd096e7b3df979e3791e4479cabc99e432ab543c1db3fb0ce"), looks := false }, kinds := [], alts := [], laidByText := true, laidKinds := [.data, .data, .data], laidTests := true, laidLooks := .later }
def PolyLawsCardSaid : Prop := Claim7.holds Tryd.pinned (.plain (OpenSpec.ofChange polyLawsSpec)) polyLawsCard

/-- THE TIED CARD OF 'reckonerlaw15.PolyForms'. -/
def polyFormsCard : Claim7 := { stood := { row := polyFormsRow, standIns := [], harness := (true, "b89669d603a97e4dd096e7b3df979e3791e4479cabc99e432ab543c1db3fb0ce"), looks := false }, kinds := [], alts := [], laidByText := true, laidKinds := [.data, .data, .data], laidTests := true, laidLooks := .later }
def PolyFormsCardSaid : Prop := Claim7.holds Tryd.pinned (.plain (OpenSpec.ofChange polyFormsSpec)) polyFormsCard

/-- THE TIED CARD OF 'reckonerlaw15.PolyTexts'. -/
def polyTextsCard : Claim7 := { stood := { row := polyTextsRow, standIns := [], harness := (true, "b89669d603a97e4dd096e7b3df979e3791e4479cabc99e432ab543c1db3fb0ce"), looks := false }, kinds := [], alts := [], laidByText := true, laidKinds := [.data, .data, .data], laidTests := true, laidLooks := .later }
def PolyTextsCardSaid : Prop := Claim7.holds Tryd.pinned (.plain (OpenSpec.ofChange polyTextsSpec)) polyTextsCard

/-- THE TIED CARD OF 'reckonerlaw15.PolyUnits'. -/
def polyUnitsCard : Claim7 := { stood := { row := polyUnitsRow, standIns := [], harness := (true, "b89669d603a97e4dd096e7b3df979e3791e4479cabc99e432ab543c1db3fb0ce"), looks := false }, kinds := [], alts := [], laidByText := true, laidKinds := [.data, .data, .data], laidTests := true, laidLooks := .later }
def PolyUnitsCardSaid : Prop := Claim7.holds Tryd.pinned (.plain (OpenSpec.ofChange polyUnitsSpec)) polyUnitsCard

/-- THE TIED CARD OF 'reckonerlaw15.PolyBlanks'. -/
def polyBlanksCard : Claim7 := { stood := { row := polyBlanksRow, standIns := [], harness := (true, "b89669d603a97e4dd096e7b3df979e3791e4479cabc99e432ab543c1db3fb0ce"), looks := false }, kinds := [], alts := [], laidByText := true, laidKinds := [.data, .data, .data], laidTests := true, laidLooks := .later }
def PolyBlanksCardSaid : Prop := Claim7.holds Tryd.pinned (.plain (OpenSpec.ofChange polyBlanksSpec)) polyBlanksCard

/-- THE TIED CARD OF 'reckonerlaw15.PolyNumbers'. -/
def polyNumbersCard : Claim7 := { stood := { row := polyNumbersRow, standIns := [], harness := (true, "b89669d603a97e4dd096e7b3df979e3791e4479cabc99e432ab543c1db3fb0ce"), looks := false }, kinds := [], alts := [], laidByText := true, laidKinds := [.data, .data, .data], laidTests := true, laidLooks := .later }
def PolyNumbersCardSaid : Prop := Claim7.holds Tryd.pinned (.plain (OpenSpec.ofChange polyNumbersSpec)) polyNumbersCard

/-- THE TIED CARD OF 'reckonerlaw15.PolyNames'. -/
def polyNamesCard : Claim7 := { stood := { row := polyNamesRow, standIns := [], harness := (true, "b89669d603a97e4dd096e7b3df979e3791e4479cabc99e432ab543c1db3fb0ce"), looks := false }, kinds := [], alts := [], laidByText := true, laidKinds := [.data, .data, .data, .listed, .data], laidTests := true, laidLooks := .later }
def PolyNamesCardSaid : Prop := Claim7.holds Tryd.pinned (.plain (OpenSpec.ofChange polyNamesSpec)) polyNamesCard

/-- THE SECOND FORM's CARD OF 'reckonerlaw15.PolyLaws'. -/
def polyLawsUptoCard : Claim7 := { stood := { row := polyLawsUptoRow, standIns := [], harness := (true, "b89669d603a97e4dd096e7b3df979e3791e4479cabc99e432ab543c1db3fb0ce"), looks := false }, kinds := [], alts := [], laidByText := true, laidKinds := [.data, .data, .data], laidTests := true, laidLooks := .later }
def PolyLawsUptoCardSaid : Prop := Claim7.holds Tryd.pinned (.plain (OpenSpec.upto polyLawsSpec)) polyLawsUptoCard

/-- THE SECOND FORM's CARD OF 'reckonerlaw15.PolyForms'. -/
def polyFormsUptoCard : Claim7 := { stood := { row := polyFormsUptoRow, standIns := [], harness := (true, "b89669d603a97e4dd096e7b3df979e3791e4479cabc99e432ab543c1db3fb0ce"), looks := false }, kinds := [], alts := [], laidByText := true, laidKinds := [.data, .data, .data], laidTests := true, laidLooks := .later }
def PolyFormsUptoCardSaid : Prop := Claim7.holds Tryd.pinned (.plain (OpenSpec.upto polyFormsSpec)) polyFormsUptoCard

/-- THE SECOND FORM's CARD OF 'reckonerlaw15.PolyTexts'. -/
def polyTextsUptoCard : Claim7 := { stood := { row := polyTextsUptoRow, standIns := [], harness := (true, "b89669d603a97e4dd096e7b3df979e3791e4479cabc99e432ab543c1db3fb0ce"), looks := false }, kinds := [], alts := [], laidByText := true, laidKinds := [.data, .data, .data], laidTests := true, laidLooks := .later }
def PolyTextsUptoCardSaid : Prop := Claim7.holds Tryd.pinned (.plain (OpenSpec.upto polyTextsSpec)) polyTextsUptoCard

/-- THE SECOND FORM's CARD OF 'reckonerlaw15.PolyUnits'. -/
def polyUnitsUptoCard : Claim7 := { stood := { row := polyUnitsUptoRow, standIns := [], harness := (true, "b89669d603a97e4dd096e7b3df979e3791e4479cabc99e432ab543c1db3fb0ce"), looks := false }, kinds := [], alts := [], laidByText := true, laidKinds := [.data, .data, .data], laidTests := true, laidLooks := .later }
def PolyUnitsUptoCardSaid : Prop := Claim7.holds Tryd.pinned (.plain (OpenSpec.upto polyUnitsSpec)) polyUnitsUptoCard

/-- THE SECOND FORM's CARD OF 'reckonerlaw15.PolyBlanks'. -/
def polyBlanksUptoCard : Claim7 := { stood := { row := polyBlanksUptoRow, standIns := [], harness := (true, "b89669d603a97e4dd096e7b3df979e3791e4479cabc99e432ab543c1db3fb0ce"), looks := false }, kinds := [], alts := [], laidByText := true, laidKinds := [.data, .data, .data], laidTests := true, laidLooks := .later }
def PolyBlanksUptoCardSaid : Prop := Claim7.holds Tryd.pinned (.plain (OpenSpec.upto polyBlanksSpec)) polyBlanksUptoCard

/-- THE SECOND FORM's CARD OF 'reckonerlaw15.PolyNumbers'. -/
def polyNumbersUptoCard : Claim7 := { stood := { row := polyNumbersUptoRow, standIns := [], harness := (true, "b89669d603a97e4dd096e7b3df979e3791e4479cabc99e432ab543c1db3fb0ce"), looks := false }, kinds := [], alts := [], laidByText := true, laidKinds := [.data, .data, .data], laidTests := true, laidLooks := .later }
def PolyNumbersUptoCardSaid : Prop := Claim7.holds Tryd.pinned (.plain (OpenSpec.upto polyNumbersSpec)) polyNumbersUptoCard

/-- THE SECOND FORM's CARD OF 'reckonerlaw15.PolyNames'. -/
def polyNamesUptoCard : Claim7 := { stood := { row := polyNamesUptoRow, standIns := [], harness := (true, "b89669d603a97e4dd096e7b3df979e3791e4479cabc99e432ab543c1db3fb0ce"), looks := false }, kinds := [], alts := [], laidByText := true, laidKinds := [.data, .data, .data, .listed, .data], laidTests := true, laidLooks := .later }
def PolyNamesUptoCardSaid : Prop := Claim7.holds Tryd.pinned (.plain (OpenSpec.upto polyNamesSpec)) polyNamesUptoCard
end Rows
end Go.Proofs.YtlpfcclecmalhaaDoor
