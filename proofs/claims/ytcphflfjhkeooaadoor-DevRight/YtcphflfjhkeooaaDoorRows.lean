/-
  NARROWER THAN 'FOR EVERY INPUT', by the rows' own cells (each row's printed sentence says how): DevWrites: laid · DevSafe: laid · DevWhole: laid · DevLast: laid · DevAgain: laid · DevKept: laid · DevCrashes: laid · DevRight: laid · DevSpoilt: laid.
  DERIVED. THE GIVEN ROWS OF THIS SEAT. 9 by the template 'for every input the law returns true; each argument reads behind the call as it read before'; 0 by the template 'total and deterministic' (their statements: YtcphflfjhkeooaaDoorTotals.lean).
  GIVEN WITH THE SEED: the statements are not yours to turn. If you find one false, say at which input.
  Laid BY PROGRAM, IN A SANDBOX (cutbox-rows.mjs): the forced cells as the released guide's own fill.sh prints them over the translation 6059ac8374873197… (all of the seat's roots in one cut). By AI agents, Wed Nov 11 2026. No macro, syntax, notation, axiom, sorry.
-/
import Derived.Test.YtcphflfjhkeooaaDoorChecked
import GoSem.PinnedTables
import GoSem.Claim
import GoSem.ClaimJoined
import GoSem.ClaimMapViews
import Derived.JoinedTies
import Derived.KernelRfl
namespace Go.Proofs.YtcphflfjhkeooaaDoor
/- THE CELL 'sum', in the pinned program and in every row, IS THE sha256 OF THE DUMP (.gsa) THAT YtcphflfjhkeooaaDoorProg.lean LOADS. Nothing in Lean hashes anything: it is a label: what it is worth is what the hold of that sum in a sandbox is worth. -/
noncomputable def Tryd.pinned : Pinned := { name := "ytcphflfjhkeooaadoor", sum := "6059ac837487319721ca7339c337e743bb0809dd2190daf6671be4e9e917de8f", checked := Tryd.checked }
namespace Rows
def none {H : Type} : Left H := { results := [], args := [] }

/- WHAT THE LISTED PACKAGE-LEVEL VARIABLES READ AS WHEN THE CALL BEGINS. Each datum BY PROGRAM (the guide's laid-datum.mjs) off the statement by which the dump's own 'gosem.cut.vars' lays the variable. In a bare row this is a premise. The card (YtcphflfjhkeooaaDoorCards.lean) ties it to the program's text. -/
def laid_unicode_utf8_acceptRanges {H : Type} : DataW H := .agg [.agg [.lit (.int .u8 128), .lit (.int .u8 191)], .agg [.lit (.int .u8 160), .lit (.int .u8 191)], .agg [.lit (.int .u8 128), .lit (.int .u8 159)], .agg [.lit (.int .u8 144), .lit (.int .u8 191)], .agg [.lit (.int .u8 128), .lit (.int .u8 143)], .agg [.lit (.int .u8 0), .lit (.int .u8 0)], .agg [.lit (.int .u8 0), .lit (.int .u8 0)], .agg [.lit (.int .u8 0), .lit (.int .u8 0)], .agg [.lit (.int .u8 0), .lit (.int .u8 0)], .agg [.lit (.int .u8 0), .lit (.int .u8 0)], .agg [.lit (.int .u8 0), .lit (.int .u8 0)], .agg [.lit (.int .u8 0), .lit (.int .u8 0)], .agg [.lit (.int .u8 0), .lit (.int .u8 0)], .agg [.lit (.int .u8 0), .lit (.int .u8 0)], .agg [.lit (.int .u8 0), .lit (.int .u8 0)], .agg [.lit (.int .u8 0), .lit (.int .u8 0)]]
/-- One of Go's own tables, pinned by name: the form's constant. -/
def laid_unicode_utf8_first : DataW Unit := Go.Pinned.utf8First

/-- 'cambiumlaw03.DevWrites': WHATEVER THE INPUT: true; the input reads as it did. -/
def devWritesSpec : ChangeSpec := { name := "devWrites", fn := fun _ => fun
  | [d1, d2, d3] => { results := [.lit (.bool true)], args := [d1, d2, d3] }
  | _ => none }
def devWritesRow : OpenClaim := { program := "ytcphflfjhkeooaadoor", sum := "6059ac837487319721ca7339c337e743bb0809dd2190daf6671be4e9e917de8f", func := "cambium/cambiumlaw03.DevWrites", spec := "devWrites", inPlace := ["internal/bytealg.IndexByteString", "internal/bytealg.IndexString", "slices.overlaps[cambium/api.Block]", "sync/atomic.AddUint64"], unfollowed := true, recurses := true, named := ["unicode/utf8.first", "unicode/utf8.acceptRanges", "internal/bytealg.MaxLen"], apart := false, laid := [("unicode/utf8.acceptRanges", laid_unicode_utf8_acceptRanges), ("unicode/utf8.first", laid_unicode_utf8_first)] }
def DevWritesSaid : Prop := devWritesRow.holds Tryd.pinned (OpenSpec.ofChange devWritesSpec)

/-- ITS FALSE NEIGHBOUR: 'it returns false'. Refute it at one input. -/
def devWritesWrong : ChangeSpec := { name := "devWrites", fn := fun _ => fun
  | [d1, d2, d3] => { results := [.lit (.bool false)], args := [d1, d2, d3] }
  | _ => none }
def DevWritesWrongFalsely : Prop := devWritesRow.holds Tryd.pinned (OpenSpec.ofChange devWritesWrong)

/-- 'cambiumlaw03.DevSafe': WHATEVER THE INPUT: true; the input reads as it did. -/
def devSafeSpec : ChangeSpec := { name := "devSafe", fn := fun _ => fun
  | [d1, d2, d3, d4] => { results := [.lit (.bool true)], args := [d1, d2, d3, d4] }
  | _ => none }
def devSafeRow : OpenClaim := { program := "ytcphflfjhkeooaadoor", sum := "6059ac837487319721ca7339c337e743bb0809dd2190daf6671be4e9e917de8f", func := "cambium/cambiumlaw03.DevSafe", spec := "devSafe", inPlace := ["internal/bytealg.IndexByteString", "internal/bytealg.IndexString", "slices.overlaps[cambium/api.Block]", "sync/atomic.AddUint64"], unfollowed := true, recurses := true, named := ["unicode/utf8.first", "unicode/utf8.acceptRanges", "internal/bytealg.MaxLen"], apart := false, laid := [("unicode/utf8.acceptRanges", laid_unicode_utf8_acceptRanges), ("unicode/utf8.first", laid_unicode_utf8_first)] }
def DevSafeSaid : Prop := devSafeRow.holds Tryd.pinned (OpenSpec.ofChange devSafeSpec)

/-- ITS FALSE NEIGHBOUR: 'it returns false'. Refute it at one input. -/
def devSafeWrong : ChangeSpec := { name := "devSafe", fn := fun _ => fun
  | [d1, d2, d3, d4] => { results := [.lit (.bool false)], args := [d1, d2, d3, d4] }
  | _ => none }
def DevSafeWrongFalsely : Prop := devSafeRow.holds Tryd.pinned (OpenSpec.ofChange devSafeWrong)

/-- 'cambiumlaw03.DevWhole': WHATEVER THE INPUT: true; the input reads as it did. -/
def devWholeSpec : ChangeSpec := { name := "devWhole", fn := fun _ => fun
  | [d1, d2, d3] => { results := [.lit (.bool true)], args := [d1, d2, d3] }
  | _ => none }
def devWholeRow : OpenClaim := { program := "ytcphflfjhkeooaadoor", sum := "6059ac837487319721ca7339c337e743bb0809dd2190daf6671be4e9e917de8f", func := "cambium/cambiumlaw03.DevWhole", spec := "devWhole", inPlace := ["internal/bytealg.IndexByteString", "internal/bytealg.IndexString", "slices.overlaps[cambium/api.Block]", "sync/atomic.AddUint64"], unfollowed := true, recurses := true, named := ["unicode/utf8.first", "unicode/utf8.acceptRanges", "internal/bytealg.MaxLen"], apart := false, laid := [("unicode/utf8.acceptRanges", laid_unicode_utf8_acceptRanges), ("unicode/utf8.first", laid_unicode_utf8_first)] }
def DevWholeSaid : Prop := devWholeRow.holds Tryd.pinned (OpenSpec.ofChange devWholeSpec)

/-- ITS FALSE NEIGHBOUR: 'it returns false'. Refute it at one input. -/
def devWholeWrong : ChangeSpec := { name := "devWhole", fn := fun _ => fun
  | [d1, d2, d3] => { results := [.lit (.bool false)], args := [d1, d2, d3] }
  | _ => none }
def DevWholeWrongFalsely : Prop := devWholeRow.holds Tryd.pinned (OpenSpec.ofChange devWholeWrong)

/-- 'cambiumlaw03.DevLast': WHATEVER THE INPUT: true; the input reads as it did. -/
def devLastSpec : ChangeSpec := { name := "devLast", fn := fun _ => fun
  | [d1, d2, d3, d4] => { results := [.lit (.bool true)], args := [d1, d2, d3, d4] }
  | _ => none }
def devLastRow : OpenClaim := { program := "ytcphflfjhkeooaadoor", sum := "6059ac837487319721ca7339c337e743bb0809dd2190daf6671be4e9e917de8f", func := "cambium/cambiumlaw03.DevLast", spec := "devLast", inPlace := ["internal/bytealg.IndexByteString", "internal/bytealg.IndexString", "slices.overlaps[cambium/api.Block]", "sync/atomic.AddUint64"], unfollowed := true, recurses := true, named := ["unicode/utf8.first", "unicode/utf8.acceptRanges", "internal/bytealg.MaxLen"], apart := false, laid := [("unicode/utf8.acceptRanges", laid_unicode_utf8_acceptRanges), ("unicode/utf8.first", laid_unicode_utf8_first)] }
def DevLastSaid : Prop := devLastRow.holds Tryd.pinned (OpenSpec.ofChange devLastSpec)

/-- ITS FALSE NEIGHBOUR: 'it returns false'. Refute it at one input. -/
def devLastWrong : ChangeSpec := { name := "devLast", fn := fun _ => fun
  | [d1, d2, d3, d4] => { results := [.lit (.bool false)], args := [d1, d2, d3, d4] }
  | _ => none }
def DevLastWrongFalsely : Prop := devLastRow.holds Tryd.pinned (OpenSpec.ofChange devLastWrong)

/-- 'cambiumlaw03.DevAgain': WHATEVER THE INPUT: true; the input reads as it did. -/
def devAgainSpec : ChangeSpec := { name := "devAgain", fn := fun _ => fun
  | [d1, d2] => { results := [.lit (.bool true)], args := [d1, d2] }
  | _ => none }
def devAgainRow : OpenClaim := { program := "ytcphflfjhkeooaadoor", sum := "6059ac837487319721ca7339c337e743bb0809dd2190daf6671be4e9e917de8f", func := "cambium/cambiumlaw03.DevAgain", spec := "devAgain", inPlace := ["internal/bytealg.IndexByteString", "internal/bytealg.IndexString", "slices.overlaps[cambium/api.Block]", "sync/atomic.AddUint64"], unfollowed := true, recurses := true, named := ["unicode/utf8.first", "unicode/utf8.acceptRanges", "internal/bytealg.MaxLen"], apart := false, laid := [("unicode/utf8.acceptRanges", laid_unicode_utf8_acceptRanges), ("unicode/utf8.first", laid_unicode_utf8_first)] }
def DevAgainSaid : Prop := devAgainRow.holds Tryd.pinned (OpenSpec.ofChange devAgainSpec)

/-- ITS FALSE NEIGHBOUR: 'it returns false'. Refute it at one input. -/
def devAgainWrong : ChangeSpec := { name := "devAgain", fn := fun _ => fun
  | [d1, d2] => { results := [.lit (.bool false)], args := [d1, d2] }
  | _ => none }
def DevAgainWrongFalsely : Prop := devAgainRow.holds Tryd.pinned (OpenSpec.ofChange devAgainWrong)

/-- 'cambiumlaw03.DevKept': WHATEVER THE INPUT: true; the input reads as it did. -/
def devKeptSpec : ChangeSpec := { name := "devKept", fn := fun _ => fun
  | [d] => { results := [.lit (.bool true)], args := [d] }
  | _ => none }
def devKeptRow : OpenClaim := { program := "ytcphflfjhkeooaadoor", sum := "6059ac837487319721ca7339c337e743bb0809dd2190daf6671be4e9e917de8f", func := "cambium/cambiumlaw03.DevKept", spec := "devKept", inPlace := ["internal/bytealg.IndexByteString", "internal/bytealg.IndexString", "slices.overlaps[cambium/api.Block]", "sync/atomic.AddUint64"], unfollowed := true, recurses := true, named := ["unicode/utf8.first", "unicode/utf8.acceptRanges", "internal/bytealg.MaxLen"], apart := false, laid := [("unicode/utf8.acceptRanges", laid_unicode_utf8_acceptRanges), ("unicode/utf8.first", laid_unicode_utf8_first)] }
def DevKeptSaid : Prop := devKeptRow.holds Tryd.pinned (OpenSpec.ofChange devKeptSpec)

/-- ITS FALSE NEIGHBOUR: 'it returns false'. Refute it at one input. -/
def devKeptWrong : ChangeSpec := { name := "devKept", fn := fun _ => fun
  | [d] => { results := [.lit (.bool false)], args := [d] }
  | _ => none }
def DevKeptWrongFalsely : Prop := devKeptRow.holds Tryd.pinned (OpenSpec.ofChange devKeptWrong)

/-- 'cambiumlaw03.DevCrashes': WHATEVER THE INPUT: true; the input reads as it did. -/
def devCrashesSpec : ChangeSpec := { name := "devCrashes", fn := fun _ => fun
  | [d1, d2, d3, d4] => { results := [.lit (.bool true)], args := [d1, d2, d3, d4] }
  | _ => none }
def devCrashesRow : OpenClaim := { program := "ytcphflfjhkeooaadoor", sum := "6059ac837487319721ca7339c337e743bb0809dd2190daf6671be4e9e917de8f", func := "cambium/cambiumlaw03.DevCrashes", spec := "devCrashes", inPlace := ["internal/bytealg.IndexByteString", "internal/bytealg.IndexString", "slices.overlaps[cambium/api.Block]", "sync/atomic.AddUint64"], unfollowed := true, recurses := true, named := ["unicode/utf8.first", "unicode/utf8.acceptRanges", "internal/bytealg.MaxLen"], apart := false, laid := [("unicode/utf8.acceptRanges", laid_unicode_utf8_acceptRanges), ("unicode/utf8.first", laid_unicode_utf8_first)] }
def DevCrashesSaid : Prop := devCrashesRow.holds Tryd.pinned (OpenSpec.ofChange devCrashesSpec)

/-- ITS FALSE NEIGHBOUR: 'it returns false'. Refute it at one input. -/
def devCrashesWrong : ChangeSpec := { name := "devCrashes", fn := fun _ => fun
  | [d1, d2, d3, d4] => { results := [.lit (.bool false)], args := [d1, d2, d3, d4] }
  | _ => none }
def DevCrashesWrongFalsely : Prop := devCrashesRow.holds Tryd.pinned (OpenSpec.ofChange devCrashesWrong)

/-- 'cambiumlaw03.DevRight': WHATEVER THE INPUT: true; the input reads as it did. -/
def devRightSpec : ChangeSpec := { name := "devRight", fn := fun _ => fun
  | [d1, d2, d3] => { results := [.lit (.bool true)], args := [d1, d2, d3] }
  | _ => none }
def devRightRow : OpenClaim := { program := "ytcphflfjhkeooaadoor", sum := "6059ac837487319721ca7339c337e743bb0809dd2190daf6671be4e9e917de8f", func := "cambium/cambiumlaw03.DevRight", spec := "devRight", inPlace := ["internal/bytealg.IndexByteString", "internal/bytealg.IndexString", "slices.overlaps[cambium/api.Block]", "sync/atomic.AddUint64"], unfollowed := true, recurses := true, named := ["unicode/utf8.first", "unicode/utf8.acceptRanges", "internal/bytealg.MaxLen"], apart := false, laid := [("unicode/utf8.acceptRanges", laid_unicode_utf8_acceptRanges), ("unicode/utf8.first", laid_unicode_utf8_first)] }
def DevRightSaid : Prop := devRightRow.holds Tryd.pinned (OpenSpec.ofChange devRightSpec)

/-- ITS FALSE NEIGHBOUR: 'it returns false'. Refute it at one input. -/
def devRightWrong : ChangeSpec := { name := "devRight", fn := fun _ => fun
  | [d1, d2, d3] => { results := [.lit (.bool false)], args := [d1, d2, d3] }
  | _ => none }
def DevRightWrongFalsely : Prop := devRightRow.holds Tryd.pinned (OpenSpec.ofChange devRightWrong)

/-- 'cambiumlaw03.DevSpoilt': WHATEVER THE INPUT: true; the input reads as it did. -/
def devSpoiltSpec : ChangeSpec := { name := "devSpoilt", fn := fun _ => fun
  | [d1, d2, d3, d4] => { results := [.lit (.bool true)], args := [d1, d2, d3, d4] }
  | _ => none }
def devSpoiltRow : OpenClaim := { program := "ytcphflfjhkeooaadoor", sum := "6059ac837487319721ca7339c337e743bb0809dd2190daf6671be4e9e917de8f", func := "cambium/cambiumlaw03.DevSpoilt", spec := "devSpoilt", inPlace := ["internal/bytealg.IndexByteString", "internal/bytealg.IndexString", "slices.overlaps[cambium/api.Block]", "sync/atomic.AddUint64"], unfollowed := true, recurses := true, named := ["unicode/utf8.first", "unicode/utf8.acceptRanges", "internal/bytealg.MaxLen"], apart := false, laid := [("unicode/utf8.acceptRanges", laid_unicode_utf8_acceptRanges), ("unicode/utf8.first", laid_unicode_utf8_first)] }
def DevSpoiltSaid : Prop := devSpoiltRow.holds Tryd.pinned (OpenSpec.ofChange devSpoiltSpec)

/-- ITS FALSE NEIGHBOUR: 'it returns false'. Refute it at one input. -/
def devSpoiltWrong : ChangeSpec := { name := "devSpoilt", fn := fun _ => fun
  | [d1, d2, d3, d4] => { results := [.lit (.bool false)], args := [d1, d2, d3, d4] }
  | _ => none }
def DevSpoiltWrongFalsely : Prop := devSpoiltRow.holds Tryd.pinned (OpenSpec.ofChange devSpoiltWrong)

/- THE SECOND FORM. 'bulk': how many values and letters a reading holds, each counted each time it is reached (what is shared counts as often as it is met; a slice's spare places count too). A statement '..UptoSaid' is the law's where the arguments, and the package variables that the reading takes, are together of bulk at most 1048576: NARROWER than '..Said'. Prove '..Said' where nothing that the law and all that it calls make is longer than what came in: it says more and counts as full. Else prove '..UptoSaid'. A law counts once. -/
mutual
def uptoBulk {H : Type} : DataW H → Nat
  | .lit (.string bytes) => bytes.length + 1
  | .lit _ => 1
  | .nil => 1
  | .ptr d => uptoBulk d + 1
  | .slice elems spare => uptoBulkAll elems + uptoBulkAll spare + 1
  | .agg parts => uptoBulkAll parts + 1
  | .iface _ d => uptoBulk d + 1
  | .map entries => uptoBulkEntries entries + 1
  | .held _ => 1
def uptoBulkAll {H : Type} : List (DataW H) → Nat
  | [] => 0
  | d :: r => uptoBulk d + uptoBulkAll r
def uptoBulkEntries {H : Type} : List (Lit × DataW H) → Nat
  | [] => 0
  | x :: r => uptoBulkEntry x + uptoBulkEntries r
def uptoBulkEntry {H : Type} : Lit × DataW H → Nat
  | (.string bytes, d) => bytes.length + uptoBulk d + 1
  | (_, d) => uptoBulk d + 1
 end
def uptoSmall : (H : Type) → List (DataW H) → Bool := fun _ ds => decide (uptoBulkAll ds ≤ 1048576)
def OpenSpec.upto (s : _root_.Go.ChangeSpec) : _root_.Go.OpenSpec := { _root_.Go.OpenSpec.ofChange s with cond := some uptoSmall }

/-- 'cambiumlaw03.DevWrites', WHERE WHAT IT READS IS OF BULK AT MOST 1048576: true; the input reads as it did. -/
def devWritesUptoRow : OpenClaim := { program := "ytcphflfjhkeooaadoor", sum := "6059ac837487319721ca7339c337e743bb0809dd2190daf6671be4e9e917de8f", func := "cambium/cambiumlaw03.DevWrites", spec := "devWrites", inPlace := ["internal/bytealg.IndexByteString", "internal/bytealg.IndexString", "slices.overlaps[cambium/api.Block]", "sync/atomic.AddUint64"], unfollowed := true, recurses := true, named := ["unicode/utf8.first", "unicode/utf8.acceptRanges", "internal/bytealg.MaxLen"], apart := false, laid := [("unicode/utf8.acceptRanges", laid_unicode_utf8_acceptRanges), ("unicode/utf8.first", laid_unicode_utf8_first)], narrowed := true }
def DevWritesUptoSaid : Prop := devWritesUptoRow.holds Tryd.pinned (OpenSpec.upto devWritesSpec)

/-- 'cambiumlaw03.DevSafe', WHERE WHAT IT READS IS OF BULK AT MOST 1048576: true; the input reads as it did. -/
def devSafeUptoRow : OpenClaim := { program := "ytcphflfjhkeooaadoor", sum := "6059ac837487319721ca7339c337e743bb0809dd2190daf6671be4e9e917de8f", func := "cambium/cambiumlaw03.DevSafe", spec := "devSafe", inPlace := ["internal/bytealg.IndexByteString", "internal/bytealg.IndexString", "slices.overlaps[cambium/api.Block]", "sync/atomic.AddUint64"], unfollowed := true, recurses := true, named := ["unicode/utf8.first", "unicode/utf8.acceptRanges", "internal/bytealg.MaxLen"], apart := false, laid := [("unicode/utf8.acceptRanges", laid_unicode_utf8_acceptRanges), ("unicode/utf8.first", laid_unicode_utf8_first)], narrowed := true }
def DevSafeUptoSaid : Prop := devSafeUptoRow.holds Tryd.pinned (OpenSpec.upto devSafeSpec)

/-- 'cambiumlaw03.DevWhole', WHERE WHAT IT READS IS OF BULK AT MOST 1048576: true; the input reads as it did. -/
def devWholeUptoRow : OpenClaim := { program := "ytcphflfjhkeooaadoor", sum := "6059ac837487319721ca7339c337e743bb0809dd2190daf6671be4e9e917de8f", func := "cambium/cambiumlaw03.DevWhole", spec := "devWhole", inPlace := ["internal/bytealg.IndexByteString", "internal/bytealg.IndexString", "slices.overlaps[cambium/api.Block]", "sync/atomic.AddUint64"], unfollowed := true, recurses := true, named := ["unicode/utf8.first", "unicode/utf8.acceptRanges", "internal/bytealg.MaxLen"], apart := false, laid := [("unicode/utf8.acceptRanges", laid_unicode_utf8_acceptRanges), ("unicode/utf8.first", laid_unicode_utf8_first)], narrowed := true }
def DevWholeUptoSaid : Prop := devWholeUptoRow.holds Tryd.pinned (OpenSpec.upto devWholeSpec)

/-- 'cambiumlaw03.DevLast', WHERE WHAT IT READS IS OF BULK AT MOST 1048576: true; the input reads as it did. -/
def devLastUptoRow : OpenClaim := { program := "ytcphflfjhkeooaadoor", sum := "6059ac837487319721ca7339c337e743bb0809dd2190daf6671be4e9e917de8f", func := "cambium/cambiumlaw03.DevLast", spec := "devLast", inPlace := ["internal/bytealg.IndexByteString", "internal/bytealg.IndexString", "slices.overlaps[cambium/api.Block]", "sync/atomic.AddUint64"], unfollowed := true, recurses := true, named := ["unicode/utf8.first", "unicode/utf8.acceptRanges", "internal/bytealg.MaxLen"], apart := false, laid := [("unicode/utf8.acceptRanges", laid_unicode_utf8_acceptRanges), ("unicode/utf8.first", laid_unicode_utf8_first)], narrowed := true }
def DevLastUptoSaid : Prop := devLastUptoRow.holds Tryd.pinned (OpenSpec.upto devLastSpec)

/-- 'cambiumlaw03.DevAgain', WHERE WHAT IT READS IS OF BULK AT MOST 1048576: true; the input reads as it did. -/
def devAgainUptoRow : OpenClaim := { program := "ytcphflfjhkeooaadoor", sum := "6059ac837487319721ca7339c337e743bb0809dd2190daf6671be4e9e917de8f", func := "cambium/cambiumlaw03.DevAgain", spec := "devAgain", inPlace := ["internal/bytealg.IndexByteString", "internal/bytealg.IndexString", "slices.overlaps[cambium/api.Block]", "sync/atomic.AddUint64"], unfollowed := true, recurses := true, named := ["unicode/utf8.first", "unicode/utf8.acceptRanges", "internal/bytealg.MaxLen"], apart := false, laid := [("unicode/utf8.acceptRanges", laid_unicode_utf8_acceptRanges), ("unicode/utf8.first", laid_unicode_utf8_first)], narrowed := true }
def DevAgainUptoSaid : Prop := devAgainUptoRow.holds Tryd.pinned (OpenSpec.upto devAgainSpec)

/-- 'cambiumlaw03.DevKept', WHERE WHAT IT READS IS OF BULK AT MOST 1048576: true; the input reads as it did. -/
def devKeptUptoRow : OpenClaim := { program := "ytcphflfjhkeooaadoor", sum := "6059ac837487319721ca7339c337e743bb0809dd2190daf6671be4e9e917de8f", func := "cambium/cambiumlaw03.DevKept", spec := "devKept", inPlace := ["internal/bytealg.IndexByteString", "internal/bytealg.IndexString", "slices.overlaps[cambium/api.Block]", "sync/atomic.AddUint64"], unfollowed := true, recurses := true, named := ["unicode/utf8.first", "unicode/utf8.acceptRanges", "internal/bytealg.MaxLen"], apart := false, laid := [("unicode/utf8.acceptRanges", laid_unicode_utf8_acceptRanges), ("unicode/utf8.first", laid_unicode_utf8_first)], narrowed := true }
def DevKeptUptoSaid : Prop := devKeptUptoRow.holds Tryd.pinned (OpenSpec.upto devKeptSpec)

/-- 'cambiumlaw03.DevCrashes', WHERE WHAT IT READS IS OF BULK AT MOST 1048576: true; the input reads as it did. -/
def devCrashesUptoRow : OpenClaim := { program := "ytcphflfjhkeooaadoor", sum := "6059ac837487319721ca7339c337e743bb0809dd2190daf6671be4e9e917de8f", func := "cambium/cambiumlaw03.DevCrashes", spec := "devCrashes", inPlace := ["internal/bytealg.IndexByteString", "internal/bytealg.IndexString", "slices.overlaps[cambium/api.Block]", "sync/atomic.AddUint64"], unfollowed := true, recurses := true, named := ["unicode/utf8.first", "unicode/utf8.acceptRanges", "internal/bytealg.MaxLen"], apart := false, laid := [("unicode/utf8.acceptRanges", laid_unicode_utf8_acceptRanges), ("unicode/utf8.first", laid_unicode_utf8_first)], narrowed := true }
def DevCrashesUptoSaid : Prop := devCrashesUptoRow.holds Tryd.pinned (OpenSpec.upto devCrashesSpec)

/-- 'cambiumlaw03.DevRight', WHERE WHAT IT READS IS OF BULK AT MOST 1048576: true; the input reads as it did. -/
def devRightUptoRow : OpenClaim := { program := "ytcphflfjhkeooaadoor", sum := "6059ac837487319721ca7339c337e743bb0809dd2190daf6671be4e9e917de8f", func := "cambium/cambiumlaw03.DevRight", spec := "devRight", inPlace := ["internal/bytealg.IndexByteString", "internal/bytealg.IndexString", "slices.overlaps[cambium/api.Block]", "sync/atomic.AddUint64"], unfollowed := true, recurses := true, named := ["unicode/utf8.first", "unicode/utf8.acceptRanges", "internal/bytealg.MaxLen"], apart := false, laid := [("unicode/utf8.acceptRanges", laid_unicode_utf8_acceptRanges), ("unicode/utf8.first", laid_unicode_utf8_first)], narrowed := true }
def DevRightUptoSaid : Prop := devRightUptoRow.holds Tryd.pinned (OpenSpec.upto devRightSpec)

/-- 'cambiumlaw03.DevSpoilt', WHERE WHAT IT READS IS OF BULK AT MOST 1048576: true; the input reads as it did. -/
def devSpoiltUptoRow : OpenClaim := { program := "ytcphflfjhkeooaadoor", sum := "6059ac837487319721ca7339c337e743bb0809dd2190daf6671be4e9e917de8f", func := "cambium/cambiumlaw03.DevSpoilt", spec := "devSpoilt", inPlace := ["internal/bytealg.IndexByteString", "internal/bytealg.IndexString", "slices.overlaps[cambium/api.Block]", "sync/atomic.AddUint64"], unfollowed := true, recurses := true, named := ["unicode/utf8.first", "unicode/utf8.acceptRanges", "internal/bytealg.MaxLen"], apart := false, laid := [("unicode/utf8.acceptRanges", laid_unicode_utf8_acceptRanges), ("unicode/utf8.first", laid_unicode_utf8_first)], narrowed := true }
def DevSpoiltUptoSaid : Prop := devSpoiltUptoRow.holds Tryd.pinned (OpenSpec.upto devSpoiltSpec)

end Rows
end Go.Proofs.YtcphflfjhkeooaaDoor
