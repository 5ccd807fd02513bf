/-
  No cell of these rows narrows 'for every input' (looked for: loops, veiled, ifaces, maps, wideKeys, modest, calm, conditions, laid).
  DERIVED. THE GIVEN ROWS OF THIS SEAT. 9 by the template 'for every input the law returns true; each argument reads behind the call as it read before'; 0 by the template 'total and deterministic' (their statements: YtdahmaepfmcpbaaTotals.lean).
  GIVEN WITH THE SEED: the statements are not yours to turn. If you find one false, say at which input.
  Laid BY PROGRAM, IN A SANDBOX (cutbox-rows.mjs): the forced cells as the released guide's own fill.sh prints them over the translation cf1587ef73fd1e09… (all of the seat's roots in one cut). By AI agents, Wed Nov 11 2026. No macro, syntax, notation, axiom, sorry.
-/
import Derived.Test.YtdahmaepfmcpbaaChecked
import GoSem.Claim
import GoSem.ClaimJoined
import GoSem.ClaimMapViews
import Derived.JoinedTies
import Derived.KernelRfl
namespace Go.Proofs.Ytdahmaepfmcpbaa
/- THE CELL 'sum', in the pinned program and in every row, IS THE sha256 OF THE DUMP (.gsa) THAT YtdahmaepfmcpbaaProg.lean LOADS. Nothing in Lean hashes anything: it is a label: what it is worth is what the hold of that sum in a sandbox is worth. -/
noncomputable def Try.pinned : Pinned := { name := "ytdahmaepfmcpbaa", sum := "cf1587ef73fd1e098727bf09f268bdd0994be1047513a6234c960d9c5dffc706", checked := Try.checked }
namespace Rows
def none {H : Type} : Left H := { results := [], args := [] }

/-- 'cambiumlaw04.ItemAsks': WHATEVER THE INPUT: true; the input reads as it did. -/
def itemAsksSpec : ChangeSpec := { name := "itemAsks", fn := fun _ => fun
  | [d1, d2] => { results := [.lit (.bool true)], args := [d1, d2] }
  | _ => none }
def itemAsksRow : OpenClaim := { program := "ytdahmaepfmcpbaa", sum := "cf1587ef73fd1e098727bf09f268bdd0994be1047513a6234c960d9c5dffc706", func := "cambium/cambiumlaw04.ItemAsks", spec := "itemAsks", inPlace := ["slices.overlaps[cambium/api.Item]"], unfollowed := true, recurses := true, apart := false }
def ItemAsksSaid : Prop := itemAsksRow.holds Try.pinned (OpenSpec.ofChange itemAsksSpec)

/-- ITS FALSE NEIGHBOUR: 'it returns false'. Refute it at one input. -/
def itemAsksWrong : ChangeSpec := { name := "itemAsks", fn := fun _ => fun
  | [d1, d2] => { results := [.lit (.bool false)], args := [d1, d2] }
  | _ => none }
def ItemAsksWrongFalsely : Prop := itemAsksRow.holds Try.pinned (OpenSpec.ofChange itemAsksWrong)

/-- 'cambiumlaw04.ItemChanges': WHATEVER THE INPUT: true; the input reads as it did. -/
def itemChangesSpec : ChangeSpec := { name := "itemChanges", fn := fun _ => fun
  | [d1, d2, d3] => { results := [.lit (.bool true)], args := [d1, d2, d3] }
  | _ => none }
def itemChangesRow : OpenClaim := { program := "ytdahmaepfmcpbaa", sum := "cf1587ef73fd1e098727bf09f268bdd0994be1047513a6234c960d9c5dffc706", func := "cambium/cambiumlaw04.ItemChanges", spec := "itemChanges", inPlace := ["slices.overlaps[cambium/api.Item]"], unfollowed := true, recurses := true, apart := false }
def ItemChangesSaid : Prop := itemChangesRow.holds Try.pinned (OpenSpec.ofChange itemChangesSpec)

/-- ITS FALSE NEIGHBOUR: 'it returns false'. Refute it at one input. -/
def itemChangesWrong : ChangeSpec := { name := "itemChanges", fn := fun _ => fun
  | [d1, d2, d3] => { results := [.lit (.bool false)], args := [d1, d2, d3] }
  | _ => none }
def ItemChangesWrongFalsely : Prop := itemChangesRow.holds Try.pinned (OpenSpec.ofChange itemChangesWrong)

/-- 'cambiumlaw04.ItemBack': WHATEVER THE INPUT: true; the input reads as it did. -/
def itemBackSpec : ChangeSpec := { name := "itemBack", fn := fun _ => fun
  | [d1, d2] => { results := [.lit (.bool true)], args := [d1, d2] }
  | _ => none }
def itemBackRow : OpenClaim := { program := "ytdahmaepfmcpbaa", sum := "cf1587ef73fd1e098727bf09f268bdd0994be1047513a6234c960d9c5dffc706", func := "cambium/cambiumlaw04.ItemBack", spec := "itemBack", inPlace := ["slices.overlaps[cambium/api.Item]"], unfollowed := true, recurses := true, apart := false }
def ItemBackSaid : Prop := itemBackRow.holds Try.pinned (OpenSpec.ofChange itemBackSpec)

/-- ITS FALSE NEIGHBOUR: 'it returns false'. Refute it at one input. -/
def itemBackWrong : ChangeSpec := { name := "itemBack", fn := fun _ => fun
  | [d1, d2] => { results := [.lit (.bool false)], args := [d1, d2] }
  | _ => none }
def ItemBackWrongFalsely : Prop := itemBackRow.holds Try.pinned (OpenSpec.ofChange itemBackWrong)

/-- 'cambiumlaw04.ItemLast': WHATEVER THE INPUT: true; the input reads as it did. -/
def itemLastSpec : ChangeSpec := { name := "itemLast", fn := fun _ => fun
  | [d1, d2, d3] => { results := [.lit (.bool true)], args := [d1, d2, d3] }
  | _ => none }
def itemLastRow : OpenClaim := { program := "ytdahmaepfmcpbaa", sum := "cf1587ef73fd1e098727bf09f268bdd0994be1047513a6234c960d9c5dffc706", func := "cambium/cambiumlaw04.ItemLast", spec := "itemLast", inPlace := ["slices.overlaps[cambium/api.Item]"], unfollowed := true, recurses := true, apart := false }
def ItemLastSaid : Prop := itemLastRow.holds Try.pinned (OpenSpec.ofChange itemLastSpec)

/-- ITS FALSE NEIGHBOUR: 'it returns false'. Refute it at one input. -/
def itemLastWrong : ChangeSpec := { name := "itemLast", fn := fun _ => fun
  | [d1, d2, d3] => { results := [.lit (.bool false)], args := [d1, d2, d3] }
  | _ => none }
def ItemLastWrongFalsely : Prop := itemLastRow.holds Try.pinned (OpenSpec.ofChange itemLastWrong)

/-- 'cambiumlaw04.ItemSteps': WHATEVER THE INPUT: true; the input reads as it did. -/
def itemStepsSpec : ChangeSpec := { name := "itemSteps", fn := fun _ => fun
  | [d1, d2, d3] => { results := [.lit (.bool true)], args := [d1, d2, d3] }
  | _ => none }
def itemStepsRow : OpenClaim := { program := "ytdahmaepfmcpbaa", sum := "cf1587ef73fd1e098727bf09f268bdd0994be1047513a6234c960d9c5dffc706", func := "cambium/cambiumlaw04.ItemSteps", spec := "itemSteps", inPlace := ["slices.overlaps[cambium/api.Item]"], unfollowed := true, recurses := true, apart := false }
def ItemStepsSaid : Prop := itemStepsRow.holds Try.pinned (OpenSpec.ofChange itemStepsSpec)

/-- ITS FALSE NEIGHBOUR: 'it returns false'. Refute it at one input. -/
def itemStepsWrong : ChangeSpec := { name := "itemSteps", fn := fun _ => fun
  | [d1, d2, d3] => { results := [.lit (.bool false)], args := [d1, d2, d3] }
  | _ => none }
def ItemStepsWrongFalsely : Prop := itemStepsRow.holds Try.pinned (OpenSpec.ofChange itemStepsWrong)

/-- 'cambiumlaw04.ItemUnder': WHATEVER THE INPUT: true; the input reads as it did. -/
def itemUnderSpec : ChangeSpec := { name := "itemUnder", fn := fun _ => fun
  | [d1, d2] => { results := [.lit (.bool true)], args := [d1, d2] }
  | _ => none }
def itemUnderRow : OpenClaim := { program := "ytdahmaepfmcpbaa", sum := "cf1587ef73fd1e098727bf09f268bdd0994be1047513a6234c960d9c5dffc706", func := "cambium/cambiumlaw04.ItemUnder", spec := "itemUnder", inPlace := ["slices.overlaps[cambium/api.Item]"], unfollowed := true, recurses := true, apart := false }
def ItemUnderSaid : Prop := itemUnderRow.holds Try.pinned (OpenSpec.ofChange itemUnderSpec)

/-- ITS FALSE NEIGHBOUR: 'it returns false'. Refute it at one input. -/
def itemUnderWrong : ChangeSpec := { name := "itemUnder", fn := fun _ => fun
  | [d1, d2] => { results := [.lit (.bool false)], args := [d1, d2] }
  | _ => none }
def ItemUnderWrongFalsely : Prop := itemUnderRow.holds Try.pinned (OpenSpec.ofChange itemUnderWrong)

/-- 'cambiumlaw04.ItemFew': WHATEVER THE INPUT: true; the input reads as it did. -/
def itemFewSpec : ChangeSpec := { name := "itemFew", fn := fun _ => fun
  | [d1, d2] => { results := [.lit (.bool true)], args := [d1, d2] }
  | _ => none }
def itemFewRow : OpenClaim := { program := "ytdahmaepfmcpbaa", sum := "cf1587ef73fd1e098727bf09f268bdd0994be1047513a6234c960d9c5dffc706", func := "cambium/cambiumlaw04.ItemFew", spec := "itemFew", inPlace := ["slices.overlaps[cambium/api.Item]"], unfollowed := true, recurses := true, apart := false }
def ItemFewSaid : Prop := itemFewRow.holds Try.pinned (OpenSpec.ofChange itemFewSpec)

/-- ITS FALSE NEIGHBOUR: 'it returns false'. Refute it at one input. -/
def itemFewWrong : ChangeSpec := { name := "itemFew", fn := fun _ => fun
  | [d1, d2] => { results := [.lit (.bool false)], args := [d1, d2] }
  | _ => none }
def ItemFewWrongFalsely : Prop := itemFewRow.holds Try.pinned (OpenSpec.ofChange itemFewWrong)

/-- 'cambiumlaw04.ItemOwn': WHATEVER THE INPUT: true; the input reads as it did. -/
def itemOwnSpec : ChangeSpec := { name := "itemOwn", fn := fun _ => fun
  | [d1, d2, d3] => { results := [.lit (.bool true)], args := [d1, d2, d3] }
  | _ => none }
def itemOwnRow : OpenClaim := { program := "ytdahmaepfmcpbaa", sum := "cf1587ef73fd1e098727bf09f268bdd0994be1047513a6234c960d9c5dffc706", func := "cambium/cambiumlaw04.ItemOwn", spec := "itemOwn", inPlace := ["slices.overlaps[cambium/api.Item]"], unfollowed := true, recurses := true, apart := false }
def ItemOwnSaid : Prop := itemOwnRow.holds Try.pinned (OpenSpec.ofChange itemOwnSpec)

/-- ITS FALSE NEIGHBOUR: 'it returns false'. Refute it at one input. -/
def itemOwnWrong : ChangeSpec := { name := "itemOwn", fn := fun _ => fun
  | [d1, d2, d3] => { results := [.lit (.bool false)], args := [d1, d2, d3] }
  | _ => none }
def ItemOwnWrongFalsely : Prop := itemOwnRow.holds Try.pinned (OpenSpec.ofChange itemOwnWrong)

/-- 'cambiumlaw04.ItemTwice': WHATEVER THE INPUT: true; the input reads as it did. -/
def itemTwiceSpec : ChangeSpec := { name := "itemTwice", fn := fun _ => fun
  | [d1, d2] => { results := [.lit (.bool true)], args := [d1, d2] }
  | _ => none }
def itemTwiceRow : OpenClaim := { program := "ytdahmaepfmcpbaa", sum := "cf1587ef73fd1e098727bf09f268bdd0994be1047513a6234c960d9c5dffc706", func := "cambium/cambiumlaw04.ItemTwice", spec := "itemTwice", inPlace := ["slices.overlaps[cambium/api.Item]"], unfollowed := true, recurses := true, apart := false }
def ItemTwiceSaid : Prop := itemTwiceRow.holds Try.pinned (OpenSpec.ofChange itemTwiceSpec)

/-- ITS FALSE NEIGHBOUR: 'it returns false'. Refute it at one input. -/
def itemTwiceWrong : ChangeSpec := { name := "itemTwice", fn := fun _ => fun
  | [d1, d2] => { results := [.lit (.bool false)], args := [d1, d2] }
  | _ => none }
def ItemTwiceWrongFalsely : Prop := itemTwiceRow.holds Try.pinned (OpenSpec.ofChange itemTwiceWrong)

/- THE SECOND FORM. 'bulk': how many values and letters a reading holds, each counted each time it is reached (what is shared counts as often as it is met; a slice's spare places count too). A statement '..UptoSaid' is the law's where the arguments, and the package variables that the reading takes, are together of bulk at most 1048576: NARROWER than '..Said'. Prove '..Said' where nothing that the law and all that it calls make is longer than what came in: it says more and counts as full. Else prove '..UptoSaid'. A law counts once. -/
mutual
def uptoBulk {H : Type} : DataW H → Nat
  | .lit (.string bytes) => bytes.length + 1
  | .lit _ => 1
  | .nil => 1
  | .ptr d => uptoBulk d + 1
  | .slice elems spare => uptoBulkAll elems + uptoBulkAll spare + 1
  | .agg parts => uptoBulkAll parts + 1
  | .iface _ d => uptoBulk d + 1
  | .map entries => uptoBulkEntries entries + 1
  | .held _ => 1
def uptoBulkAll {H : Type} : List (DataW H) → Nat
  | [] => 0
  | d :: r => uptoBulk d + uptoBulkAll r
def uptoBulkEntries {H : Type} : List (Lit × DataW H) → Nat
  | [] => 0
  | x :: r => uptoBulkEntry x + uptoBulkEntries r
def uptoBulkEntry {H : Type} : Lit × DataW H → Nat
  | (.string bytes, d) => bytes.length + uptoBulk d + 1
  | (_, d) => uptoBulk d + 1
 end
def uptoSmall : (H : Type) → List (DataW H) → Bool := fun _ ds => decide (uptoBulkAll ds ≤ 1048576)
def OpenSpec.upto (s : _root_.Go.ChangeSpec) : _root_.Go.OpenSpec := { _root_.Go.OpenSpec.ofChange s with cond := some uptoSmall }

/-- 'cambiumlaw04.ItemAsks', WHERE WHAT IT READS IS OF BULK AT MOST 1048576: true; the input reads as it did. -/
def itemAsksUptoRow : OpenClaim := { program := "ytdahmaepfmcpbaa", sum := "cf1587ef73fd1e098727bf09f268bdd0994be1047513a6234c960d9c5dffc706", func := "cambium/cambiumlaw04.ItemAsks", spec := "itemAsks", inPlace := ["slices.overlaps[cambium/api.Item]"], unfollowed := true, recurses := true, apart := false, narrowed := true }
def ItemAsksUptoSaid : Prop := itemAsksUptoRow.holds Try.pinned (OpenSpec.upto itemAsksSpec)

/-- 'cambiumlaw04.ItemChanges', WHERE WHAT IT READS IS OF BULK AT MOST 1048576: true; the input reads as it did. -/
def itemChangesUptoRow : OpenClaim := { program := "ytdahmaepfmcpbaa", sum := "cf1587ef73fd1e098727bf09f268bdd0994be1047513a6234c960d9c5dffc706", func := "cambium/cambiumlaw04.ItemChanges", spec := "itemChanges", inPlace := ["slices.overlaps[cambium/api.Item]"], unfollowed := true, recurses := true, apart := false, narrowed := true }
def ItemChangesUptoSaid : Prop := itemChangesUptoRow.holds Try.pinned (OpenSpec.upto itemChangesSpec)

/-- 'cambiumlaw04.ItemBack', WHERE WHAT IT READS IS OF BULK AT MOST 1048576: true; the input reads as it did. -/
def itemBackUptoRow : OpenClaim := { program := "ytdahmaepfmcpbaa", sum := "cf1587ef73fd1e098727bf09f268bdd0994be1047513a6234c960d9c5dffc706", func := "cambium/cambiumlaw04.ItemBack", spec := "itemBack", inPlace := ["slices.overlaps[cambium/api.Item]"], unfollowed := true, recurses := true, apart := false, narrowed := true }
def ItemBackUptoSaid : Prop := itemBackUptoRow.holds Try.pinned (OpenSpec.upto itemBackSpec)

/-- 'cambiumlaw04.ItemLast', WHERE WHAT IT READS IS OF BULK AT MOST 1048576: true; the input reads as it did. -/
def itemLastUptoRow : OpenClaim := { program := "ytdahmaepfmcpbaa", sum := "cf1587ef73fd1e098727bf09f268bdd0994be1047513a6234c960d9c5dffc706", func := "cambium/cambiumlaw04.ItemLast", spec := "itemLast", inPlace := ["slices.overlaps[cambium/api.Item]"], unfollowed := true, recurses := true, apart := false, narrowed := true }
def ItemLastUptoSaid : Prop := itemLastUptoRow.holds Try.pinned (OpenSpec.upto itemLastSpec)

/-- 'cambiumlaw04.ItemSteps', WHERE WHAT IT READS IS OF BULK AT MOST 1048576: true; the input reads as it did. -/
def itemStepsUptoRow : OpenClaim := { program := "ytdahmaepfmcpbaa", sum := "cf1587ef73fd1e098727bf09f268bdd0994be1047513a6234c960d9c5dffc706", func := "cambium/cambiumlaw04.ItemSteps", spec := "itemSteps", inPlace := ["slices.overlaps[cambium/api.Item]"], unfollowed := true, recurses := true, apart := false, narrowed := true }
def ItemStepsUptoSaid : Prop := itemStepsUptoRow.holds Try.pinned (OpenSpec.upto itemStepsSpec)

/-- 'cambiumlaw04.ItemUnder', WHERE WHAT IT READS IS OF BULK AT MOST 1048576: true; the input reads as it did. -/
def itemUnderUptoRow : OpenClaim := { program := "ytdahmaepfmcpbaa", sum := "cf1587ef73fd1e098727bf09f268bdd0994be1047513a6234c960d9c5dffc706", func := "cambium/cambiumlaw04.ItemUnder", spec := "itemUnder", inPlace := ["slices.overlaps[cambium/api.Item]"], unfollowed := true, recurses := true, apart := false, narrowed := true }
def ItemUnderUptoSaid : Prop := itemUnderUptoRow.holds Try.pinned (OpenSpec.upto itemUnderSpec)

/-- 'cambiumlaw04.ItemFew', WHERE WHAT IT READS IS OF BULK AT MOST 1048576: true; the input reads as it did. -/
def itemFewUptoRow : OpenClaim := { program := "ytdahmaepfmcpbaa", sum := "cf1587ef73fd1e098727bf09f268bdd0994be1047513a6234c960d9c5dffc706", func := "cambium/cambiumlaw04.ItemFew", spec := "itemFew", inPlace := ["slices.overlaps[cambium/api.Item]"], unfollowed := true, recurses := true, apart := false, narrowed := true }
def ItemFewUptoSaid : Prop := itemFewUptoRow.holds Try.pinned (OpenSpec.upto itemFewSpec)

/-- 'cambiumlaw04.ItemOwn', WHERE WHAT IT READS IS OF BULK AT MOST 1048576: true; the input reads as it did. -/
def itemOwnUptoRow : OpenClaim := { program := "ytdahmaepfmcpbaa", sum := "cf1587ef73fd1e098727bf09f268bdd0994be1047513a6234c960d9c5dffc706", func := "cambium/cambiumlaw04.ItemOwn", spec := "itemOwn", inPlace := ["slices.overlaps[cambium/api.Item]"], unfollowed := true, recurses := true, apart := false, narrowed := true }
def ItemOwnUptoSaid : Prop := itemOwnUptoRow.holds Try.pinned (OpenSpec.upto itemOwnSpec)

/-- 'cambiumlaw04.ItemTwice', WHERE WHAT IT READS IS OF BULK AT MOST 1048576: true; the input reads as it did. -/
def itemTwiceUptoRow : OpenClaim := { program := "ytdahmaepfmcpbaa", sum := "cf1587ef73fd1e098727bf09f268bdd0994be1047513a6234c960d9c5dffc706", func := "cambium/cambiumlaw04.ItemTwice", spec := "itemTwice", inPlace := ["slices.overlaps[cambium/api.Item]"], unfollowed := true, recurses := true, apart := false, narrowed := true }
def ItemTwiceUptoSaid : Prop := itemTwiceUptoRow.holds Try.pinned (OpenSpec.upto itemTwiceSpec)

end Rows
end Go.Proofs.Ytdahmaepfmcpbaa
