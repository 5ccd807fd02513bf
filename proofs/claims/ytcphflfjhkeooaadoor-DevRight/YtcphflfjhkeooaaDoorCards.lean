/-
  DERIVED. GIVEN WITH THE SEED: THE CARDS: each row of YtcphflfjhkeooaaDoorRows.lean that lists a variable, with what it lists TIED to the program's text (the seventh form; the later family's looks); each row that meets fmt, with fmt's text TOLD by the authors' own Lean function (tested against real Go, not proved from fmt's source: count such statements apart). THE CARD IS WHAT COUNTS. Prove the row's statement (the work); the ties are given (YtcphflfjhkeooaaDoorTie.lean); close each card by the builder's one call (the guide's Derived/Test/ToyasCard.lean, 'card_holds'). Laid BY PROGRAM, IN A SANDBOX (cutbox-door.mjs). By AI agents, Wed Nov 11 2026. No macro, syntax, notation, axiom, sorry.
-/
import Derived.Test.YtcphflfjhkeooaaDoorRows
import GoSem.ClaimSeven
namespace Go.Proofs.YtcphflfjhkeooaaDoor
namespace Rows

/-- THE TIED CARD OF 'cambiumlaw03.DevWrites'. -/
def devWritesCard : Claim7 := { stood := { row := devWritesRow, standIns := [], harness := (true, "abea73f8ffa02304135c316e5a881b38c1e933dfd9755703c6b83af855f70184"), looks := false }, kinds := [], alts := [], laidByText := true, laidKinds := [.data, .pinned], laidTests := true, laidLooks := .later }
def DevWritesCardSaid : Prop := Claim7.holds Tryd.pinned (.plain (OpenSpec.ofChange devWritesSpec)) devWritesCard

/-- THE TIED CARD OF 'cambiumlaw03.DevSafe'. -/
def devSafeCard : Claim7 := { stood := { row := devSafeRow, standIns := [], harness := (true, "abea73f8ffa02304135c316e5a881b38c1e933dfd9755703c6b83af855f70184"), looks := false }, kinds := [], alts := [], laidByText := true, laidKinds := [.data, .pinned], laidTests := true, laidLooks := .later }
def DevSafeCardSaid : Prop := Claim7.holds Tryd.pinned (.plain (OpenSpec.ofChange devSafeSpec)) devSafeCard

/-- THE TIED CARD OF 'cambiumlaw03.DevWhole'. -/
def devWholeCard : Claim7 := { stood := { row := devWholeRow, standIns := [], harness := (true, "abea73f8ffa02304135c316e5a881b38c1e933dfd9755703c6b83af855f70184"), looks := false }, kinds := [], alts := [], laidByText := true, laidKinds := [.data, .pinned], laidTests := true, laidLooks := .later }
def DevWholeCardSaid : Prop := Claim7.holds Tryd.pinned (.plain (OpenSpec.ofChange devWholeSpec)) devWholeCard

/-- THE TIED CARD OF 'cambiumlaw03.DevLast'. -/
def devLastCard : Claim7 := { stood := { row := devLastRow, standIns := [], harness := (true, "abea73f8ffa02304135c316e5a881b38c1e933dfd9755703c6b83af855f70184"), looks := false }, kinds := [], alts := [], laidByText := true, laidKinds := [.data, .pinned], laidTests := true, laidLooks := .later }
def DevLastCardSaid : Prop := Claim7.holds Tryd.pinned (.plain (OpenSpec.ofChange devLastSpec)) devLastCard

/-- THE TIED CARD OF 'cambiumlaw03.DevAgain'. -/
def devAgainCard : Claim7 := { stood := { row := devAgainRow, standIns := [], harness := (true, "abea73f8ffa02304135c316e5a881b38c1e933dfd9755703c6b83af855f70184"), looks := false }, kinds := [], alts := [], laidByText := true, laidKinds := [.data, .pinned], laidTests := true, laidLooks := .later }
def DevAgainCardSaid : Prop := Claim7.holds Tryd.pinned (.plain (OpenSpec.ofChange devAgainSpec)) devAgainCard

/-- THE TIED CARD OF 'cambiumlaw03.DevKept'. -/
def devKeptCard : Claim7 := { stood := { row := devKeptRow, standIns := [], harness := (true, "abea73f8ffa02304135c316e5a881b38c1e933dfd9755703c6b83af855f70184"), looks := false }, kinds := [], alts := [], laidByText := true, laidKinds := [.data, .pinned], laidTests := true, laidLooks := .later }
def DevKeptCardSaid : Prop := Claim7.holds Tryd.pinned (.plain (OpenSpec.ofChange devKeptSpec)) devKeptCard

/-- THE TIED CARD OF 'cambiumlaw03.DevCrashes'. -/
def devCrashesCard : Claim7 := { stood := { row := devCrashesRow, standIns := [], harness := (true, "abea73f8ffa02304135c316e5a881b38c1e933dfd9755703c6b83af855f70184"), looks := false }, kinds := [], alts := [], laidByText := true, laidKinds := [.data, .pinned], laidTests := true, laidLooks := .later }
def DevCrashesCardSaid : Prop := Claim7.holds Tryd.pinned (.plain (OpenSpec.ofChange devCrashesSpec)) devCrashesCard

/-- THE TIED CARD OF 'cambiumlaw03.DevRight'. -/
def devRightCard : Claim7 := { stood := { row := devRightRow, standIns := [], harness := (true, "abea73f8ffa02304135c316e5a881b38c1e933dfd9755703c6b83af855f70184"), looks := false }, kinds := [], alts := [], laidByText := true, laidKinds := [.data, .pinned], laidTests := true, laidLooks := .later }
def DevRightCardSaid : Prop := Claim7.holds Tryd.pinned (.plain (OpenSpec.ofChange devRightSpec)) devRightCard

/-- THE TIED CARD OF 'cambiumlaw03.DevSpoilt'. -/
def devSpoiltCard : Claim7 := { stood := { row := devSpoiltRow, standIns := [], harness := (true, "abea73f8ffa02304135c316e5a881b38c1e933dfd9755703c6b83af855f70184"), looks := false }, kinds := [], alts := [], laidByText := true, laidKinds := [.data, .pinned], laidTests := true, laidLooks := .later }
def DevSpoiltCardSaid : Prop := Claim7.holds Tryd.pinned (.plain (OpenSpec.ofChange devSpoiltSpec)) devSpoiltCard

/-- THE SECOND FORM's CARD OF 'cambiumlaw03.DevWrites'. -/
def devWritesUptoCard : Claim7 := { stood := { row := devWritesUptoRow, standIns := [], harness := (true, "abea73f8ffa02304135c316e5a881b38c1e933dfd9755703c6b83af855f70184"), looks := false }, kinds := [], alts := [], laidByText := true, laidKinds := [.data, .pinned], laidTests := true, laidLooks := .later }
def DevWritesUptoCardSaid : Prop := Claim7.holds Tryd.pinned (.plain (OpenSpec.upto devWritesSpec)) devWritesUptoCard

/-- THE SECOND FORM's CARD OF 'cambiumlaw03.DevSafe'. -/
def devSafeUptoCard : Claim7 := { stood := { row := devSafeUptoRow, standIns := [], harness := (true, "abea73f8ffa02304135c316e5a881b38c1e933dfd9755703c6b83af855f70184"), looks := false }, kinds := [], alts := [], laidByText := true, laidKinds := [.data, .pinned], laidTests := true, laidLooks := .later }
def DevSafeUptoCardSaid : Prop := Claim7.holds Tryd.pinned (.plain (OpenSpec.upto devSafeSpec)) devSafeUptoCard

/-- THE SECOND FORM's CARD OF 'cambiumlaw03.DevWhole'. -/
def devWholeUptoCard : Claim7 := { stood := { row := devWholeUptoRow, standIns := [], harness := (true, "abea73f8ffa02304135c316e5a881b38c1e933dfd9755703c6b83af855f70184"), looks := false }, kinds := [], alts := [], laidByText := true, laidKinds := [.data, .pinned], laidTests := true, laidLooks := .later }
def DevWholeUptoCardSaid : Prop := Claim7.holds Tryd.pinned (.plain (OpenSpec.upto devWholeSpec)) devWholeUptoCard

/-- THE SECOND FORM's CARD OF 'cambiumlaw03.DevLast'. -/
def devLastUptoCard : Claim7 := { stood := { row := devLastUptoRow, standIns := [], harness := (true, "abea73f8ffa02304135c316e5a881b38c1e933dfd9755703c6b83af855f70184"), looks := false }, kinds := [], alts := [], laidByText := true, laidKinds := [.data, .pinned], laidTests := true, laidLooks := .later }
def DevLastUptoCardSaid : Prop := Claim7.holds Tryd.pinned (.plain (OpenSpec.upto devLastSpec)) devLastUptoCard

/-- THE SECOND FORM's CARD OF 'cambiumlaw03.DevAgain'. -/
def devAgainUptoCard : Claim7 := { stood := { row := devAgainUptoRow, standIns := [], harness := (true, "abea73f8ffa02304135c316e5a881b38c1e933dfd9755703c6b83af855f70184"), looks := false }, kinds := [], alts := [], laidByText := true, laidKinds := [.data, .pinned], laidTests := true, laidLooks := .later }
def DevAgainUptoCardSaid : Prop := Claim7.holds Tryd.pinned (.plain (OpenSpec.upto devAgainSpec)) devAgainUptoCard

/-- THE SECOND FORM's CARD OF 'cambiumlaw03.DevKept'. -/
def devKeptUptoCard : Claim7 := { stood := { row := devKeptUptoRow, standIns := [], harness := (true, "abea73f8ffa02304135c316e5a881b38c1e933dfd9755703c6b83af855f70184"), looks := false }, kinds := [], alts := [], laidByText := true, laidKinds := [.data, .pinned], laidTests := true, laidLooks := .later }
def DevKeptUptoCardSaid : Prop := Claim7.holds Tryd.pinned (.plain (OpenSpec.upto devKeptSpec)) devKeptUptoCard

/-- THE SECOND FORM's CARD OF 'cambiumlaw03.DevCrashes'. -/
def devCrashesUptoCard : Claim7 := { stood := { row := devCrashesUptoRow, standIns := [], harness := (true, "abea73f8ffa02304135c316e5a881b38c1e933dfd9755703c6b83af855f70184"), looks := false }, kinds := [], alts := [], laidByText := true, laidKinds := [.data, .pinned], laidTests := true, laidLooks := .later }
def DevCrashesUptoCardSaid : Prop := Claim7.holds Tryd.pinned (.plain (OpenSpec.upto devCrashesSpec)) devCrashesUptoCard

/-- THE SECOND FORM's CARD OF 'cambiumlaw03.DevRight'. -/
def devRightUptoCard : Claim7 := { stood := { row := devRightUptoRow, standIns := [], harness := (true, "abea73f8ffa02304135c316e5a881b38c1e933dfd9755703c6b83af855f70184"), looks := false }, kinds := [], alts := [], laidByText := true, laidKinds := [.data, .pinned], laidTests := true, laidLooks := .later }
def DevRightUptoCardSaid : Prop := Claim7.holds Tryd.pinned (.plain (OpenSpec.upto devRightSpec)) devRightUptoCard

/-- THE SECOND FORM's CARD OF 'cambiumlaw03.DevSpoilt'. -/
def devSpoiltUptoCard : Claim7 := { stood := { row := devSpoiltUptoRow, standIns := [], harness := (true, "abea73f8ffa02304135c316e5a881b38c1e933dfd9755703c6b83af855f70184"), looks := false }, kinds := [], alts := [], laidByText := true, laidKinds := [.data, .pinned], laidTests := true, laidLooks := .later }
def DevSpoiltUptoCardSaid : Prop := Claim7.holds Tryd.pinned (.plain (OpenSpec.upto devSpoiltSpec)) devSpoiltUptoCard
end Rows
end Go.Proofs.YtcphflfjhkeooaaDoor
