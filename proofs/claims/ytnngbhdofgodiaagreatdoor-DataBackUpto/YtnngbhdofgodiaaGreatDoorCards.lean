/-
  DERIVED. GIVEN WITH THE SEED: THE CARDS: each row of YtnngbhdofgodiaaGreatDoorRows.lean that lists a variable, with what it lists TIED to the program's text (the seventh form; the later family's looks); each row that meets fmt, with fmt's text TOLD by the authors' own Lean function (tested against real Go, not proved from fmt's source: count such statements apart). THE CARD IS WHAT COUNTS. Prove the row's statement (the work); the ties are given (YtnngbhdofgodiaaGreatDoorTie.lean); close each card by the builder's one call (the guide's Derived/Test/ToyasCard.lean, 'card_holds'). Laid BY PROGRAM, IN A SANDBOX (cutbox-door.mjs). By AI agents, Wed Nov 11 2026. No macro, syntax, notation, axiom, sorry.
-/
import Derived.Test.YtnngbhdofgodiaaGreatDoorRows
import GoSem.ClaimSeven
namespace Go.Proofs.YtnngbhdofgodiaaGreatDoor
namespace Rows

/-- THE TIED CARD OF 'cambiumlaw13.DataBack'. -/
def dataBackCard : Claim7 := { stood := { row := dataBackRow, standIns := [], harness := (true, "7f038364003484737c3395de1e2ebb31ce3bd89169df25d85f8af3e17b819db6"), looks := false }, kinds := [], alts := [], laidByText := true, laidKinds := [.data, .pinned], laidTests := true, laidLooks := .later }
def DataBackCardSaid : Prop := Claim7.holds Tryz.pinned (.plain (OpenSpec.ofChange dataBackSpec)) dataBackCard

/-- THE TIED CARD OF 'cambiumlaw13.DataCut'. -/
def dataCutCard : Claim7 := { stood := { row := dataCutRow, standIns := [], harness := (true, "7f038364003484737c3395de1e2ebb31ce3bd89169df25d85f8af3e17b819db6"), looks := false }, kinds := [], alts := [], laidByText := true, laidKinds := [.data, .pinned], laidTests := true, laidLooks := .later }
def DataCutCardSaid : Prop := Claim7.holds Tryz.pinned (.plain (OpenSpec.ofChange dataCutSpec)) dataCutCard

/-- THE TIED CARD OF 'cambiumlaw13.DataParts'. -/
def dataPartsCard : Claim7 := { stood := { row := dataPartsRow, standIns := [], harness := (true, "7f038364003484737c3395de1e2ebb31ce3bd89169df25d85f8af3e17b819db6"), looks := false }, kinds := [], alts := [], laidByText := true, laidKinds := [.data, .pinned], laidTests := true, laidLooks := .later }
def DataPartsCardSaid : Prop := Claim7.holds Tryz.pinned (.plain (OpenSpec.ofChange dataPartsSpec)) dataPartsCard

/-- THE TIED CARD OF 'cambiumlaw13.DataApart'. -/
def dataApartCard : Claim7 := { stood := { row := dataApartRow, standIns := [], harness := (true, "7f038364003484737c3395de1e2ebb31ce3bd89169df25d85f8af3e17b819db6"), looks := false }, kinds := [], alts := [], laidByText := true, laidKinds := [.data, .pinned], laidTests := true, laidLooks := .later }
def DataApartCardSaid : Prop := Claim7.holds Tryz.pinned (.plain (OpenSpec.ofChange dataApartSpec)) dataApartCard

/-- THE TIED CARD OF 'cambiumlaw13.DataNothing'. -/
def dataNothingCard : Claim7 := { stood := { row := dataNothingRow, standIns := [], harness := (true, "7f038364003484737c3395de1e2ebb31ce3bd89169df25d85f8af3e17b819db6"), looks := false }, kinds := [], alts := [], laidByText := true, laidKinds := [.data, .pinned], laidTests := true, laidLooks := .later }
def DataNothingCardSaid : Prop := Claim7.holds Tryz.pinned (.plain (OpenSpec.ofChange dataNothingSpec)) dataNothingCard

/-- THE SECOND FORM's CARD OF 'cambiumlaw13.DataBack'. -/
def dataBackUptoCard : Claim7 := { stood := { row := dataBackUptoRow, standIns := [], harness := (true, "7f038364003484737c3395de1e2ebb31ce3bd89169df25d85f8af3e17b819db6"), looks := false }, kinds := [], alts := [], laidByText := true, laidKinds := [.data, .pinned], laidTests := true, laidLooks := .later }
def DataBackUptoCardSaid : Prop := Claim7.holds Tryz.pinned (.plain (OpenSpec.upto dataBackSpec)) dataBackUptoCard

/-- THE SECOND FORM's CARD OF 'cambiumlaw13.DataCut'. -/
def dataCutUptoCard : Claim7 := { stood := { row := dataCutUptoRow, standIns := [], harness := (true, "7f038364003484737c3395de1e2ebb31ce3bd89169df25d85f8af3e17b819db6"), looks := false }, kinds := [], alts := [], laidByText := true, laidKinds := [.data, .pinned], laidTests := true, laidLooks := .later }
def DataCutUptoCardSaid : Prop := Claim7.holds Tryz.pinned (.plain (OpenSpec.upto dataCutSpec)) dataCutUptoCard

/-- THE SECOND FORM's CARD OF 'cambiumlaw13.DataParts'. -/
def dataPartsUptoCard : Claim7 := { stood := { row := dataPartsUptoRow, standIns := [], harness := (true, "7f038364003484737c3395de1e2ebb31ce3bd89169df25d85f8af3e17b819db6"), looks := false }, kinds := [], alts := [], laidByText := true, laidKinds := [.data, .pinned], laidTests := true, laidLooks := .later }
def DataPartsUptoCardSaid : Prop := Claim7.holds Tryz.pinned (.plain (OpenSpec.upto dataPartsSpec)) dataPartsUptoCard

/-- THE SECOND FORM's CARD OF 'cambiumlaw13.DataApart'. -/
def dataApartUptoCard : Claim7 := { stood := { row := dataApartUptoRow, standIns := [], harness := (true, "7f038364003484737c3395de1e2ebb31ce3bd89169df25d85f8af3e17b819db6"), looks := false }, kinds := [], alts := [], laidByText := true, laidKinds := [.data, .pinned], laidTests := true, laidLooks := .later }
def DataApartUptoCardSaid : Prop := Claim7.holds Tryz.pinned (.plain (OpenSpec.upto dataApartSpec)) dataApartUptoCard

/-- THE SECOND FORM's CARD OF 'cambiumlaw13.DataNothing'. -/
def dataNothingUptoCard : Claim7 := { stood := { row := dataNothingUptoRow, standIns := [], harness := (true, "7f038364003484737c3395de1e2ebb31ce3bd89169df25d85f8af3e17b819db6"), looks := false }, kinds := [], alts := [], laidByText := true, laidKinds := [.data, .pinned], laidTests := true, laidLooks := .later }
def DataNothingUptoCardSaid : Prop := Claim7.holds Tryz.pinned (.plain (OpenSpec.upto dataNothingSpec)) dataNothingUptoCard
end Rows
end Go.Proofs.YtnngbhdofgodiaaGreatDoor
