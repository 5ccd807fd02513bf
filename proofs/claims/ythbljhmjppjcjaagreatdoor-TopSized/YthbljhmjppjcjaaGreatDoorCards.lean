/-
  DERIVED. GIVEN WITH THE SEED: THE CARDS: each row of YthbljhmjppjcjaaGreatDoorRows.lean that lists a variable, with what it lists TIED to the program's text (the seventh form; the later family's looks); each row that meets fmt, with fmt's text TOLD by the authors' own Lean function (tested against real Go, not proved from fmt's source: count such statements apart). THE CARD IS WHAT COUNTS. Prove the row's statement (the work); the ties are given (YthbljhmjppjcjaaGreatDoorTie.lean); close each card by the builder's one call (the guide's Derived/Test/ToyasCard.lean, 'card_holds'). Laid BY PROGRAM, IN A SANDBOX (cutbox-door.mjs). By AI agents, Wed Nov 11 2026. No macro, syntax, notation, axiom, sorry.
-/
import Derived.Test.YthbljhmjppjcjaaGreatDoorRows
import GoSem.ClaimSeven
namespace Go.Proofs.YthbljhmjppjcjaaGreatDoor
namespace Rows

/-- THE TIED CARD OF 'cambiumtop.TopSized'. -/
def topSizedCard : Claim7 := { stood := { row := topSizedRow, standIns := [], harness := (true, "54312cab1c110ffc9487e0d85c6512d3725e6946f360c66567623c9eace6c0b8"), looks := false }, kinds := [], alts := [], laidByText := true, laidKinds := [.data, .pinned], laidTests := true, laidLooks := .later }
def TopSizedCardSaid : Prop := Claim7.holds Tryz.pinned (.plain (OpenSpec.ofChange topSizedSpec)) topSizedCard

/-- THE SECOND FORM's CARD OF 'cambiumtop.TopSized'. -/
def topSizedUptoCard : Claim7 := { stood := { row := topSizedUptoRow, standIns := [], harness := (true, "54312cab1c110ffc9487e0d85c6512d3725e6946f360c66567623c9eace6c0b8"), looks := false }, kinds := [], alts := [], laidByText := true, laidKinds := [.data, .pinned], laidTests := true, laidLooks := .later }
def TopSizedUptoCardSaid : Prop := Claim7.holds Tryz.pinned (.plain (OpenSpec.upto topSizedSpec)) topSizedUptoCard
end Rows
end Go.Proofs.YthbljhmjppjcjaaGreatDoor
