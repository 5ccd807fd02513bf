/- TopWritten: at every input the law's function returns true and leaves its arguments as they were; no condition beyond the row's own. Part 1 of 3: this session's own texts, laid together. -/
import Derived.Test.YthbljhmjppjcjaaDoorProg
import Derived.Below
import Derived.Deep.Draws
import Derived.Deep.AppendLies
import Derived.Maps.AppendAt
import Derived.OwnWalk
import Derived.Laws.BytesArg
import Derived.Laws.MakeOwn
import Derived.Laws.OwnMore
import Derived.Deep.OwnRows
import Derived.Tactics
import Derived.Lib.ConvBytes
import Derived.Laws.Slices
import Derived.WalkKit
import Derived.KernelRfl
import Derived.RowKit3
import Derived.Deep.LoopGhost
import Derived.Deep.QuietTactic
import Derived.BigQuiet
import Derived.WideLaws
import Derived.Deep.DeepCutAuto
import Derived.Deep.CutBlock
import Derived.Deep.RegionHeld3
import Derived.Laws.Rows
import Derived.Lib.AppendStr
import Derived.ArgAppend
import Derived.Laws.IdiomCopy
import Derived.OrdersHeld
import Derived.Laws.BitsLemmas
import Derived.RowKit
import Derived.Test.YthbljhmjppjcjaaDoorWWords
import Derived.Test.YthbljhmjppjcjaaDoorWLast
import Derived.Test.YthbljhmjppjcjaaDoorWTab
import Derived.Test.YthbljhmjppjcjaaDoorWQPut
import Derived.Test.YthbljhmjppjcjaaDoorWApart
import Derived.Test.YthbljhmjppjcjaaDoorWArr
import Derived.Test.YthbljhmjppjcjaaDoorWZeros
import Derived.Test.YthbljhmjppjcjaaDoorWFoot
import Derived.Test.YthbljhmjppjcjaaDoorWKept
import Derived.Test.YthbljhmjppjcjaaDoorWShare
import Derived.Test.YthbljhmjppjcjaaDoorWN
import Derived.Test.YthbljhmjppjcjaaDoorWEqStruct
import Derived.Test.YthbljhmjppjcjaaDoorWRepsOne
import Derived.Test.YthbljhmjppjcjaaDoorWGuard
import Derived.Test.YthbljhmjppjcjaaDoorWNEv
import Derived.Test.YthbljhmjppjcjaaDoorWMore
import Derived.Laws.Strings
import Derived.WalkMore
import Derived.StillTailTactics
import Derived.Laws.CopyOwn
import Derived.Laws.LoneSync
import Derived.Lib.SliceRun
import Derived.Lib.AppendZeros
import Derived.Lib.Overlaps
import Derived.Deep.AppendSrc
import Derived.Deep.RegionLaw
import Derived.WalkSpells
import Derived.IntWalk
import Derived.Deep.DeepFit
import Derived.Shelf.RegionOpenPlain
import Derived.Lib.AppendZerosOnto
import Derived.Laws.NewBlocks
section
-- Printed by a program of this session (mp.py) out of the translation.
namespace Go.Proofs.YthbljhmjppjcjaaDoor.Z
open Go.RowKit Go.Proofs.YthbljhmjppjcjaaDoorW.PrintWords Go.Proofs.YthbljhmjppjcjaaDoorW.PrintLast Go.Proofs.YthbljhmjppjcjaaDoorW.PrintMore
attribute [local go_sem] max2_int min2_int max_two min_two max_three min_three max_four min_four   -- for this text's walks alone
set_option linter.unusedVariables false
set_option linter.unusedSimpArgs false



def errW : Option Int → Value
  | none => .nilIface
  | some c => .iface 0 (.int .i64 c)
theorem errW_none : errW none = .nilIface := rfl
theorem errW_some (c : Int) : errW (some c) = .iface 0 (.int .i64 c) := rfl

theorem info5 : (Tryd.prog.info? 5).map (fun i => (i.zero, i.size, i.bytes)) = some (some (.int .u8 0), 1, 1) := by kernel_rfl
-- the values' own types
/-! #### struct type 32 -/
structure S32 where
  f0 : ByteArray
  f1 : ByteArray
def z32 : S32 := ⟨(⟨#[]⟩ : ByteArray), (⟨#[]⟩ : ByteArray)⟩
def k32 : Kd S32 := Kd.iso (Kd.pair Kd.string Kd.string) (fun x : S32 => (x.f0, x.f1))
theorem k32_open {w : World} {x : S32} {cs : List Value} (h : k32.K w x cs) : cs = [.string x.f0, .string x.f1] := by
  obtain ⟨_, _, rfl, rfl, rfl⟩ := h
  exact rfl
theorem k32_openM {w : World} {base : Nat} {ok : Nat → Prop} {x : S32} {cs : List Value} (h : k32.M w base ok x cs) : cs = [.string x.f0, .string x.f1] := by
  obtain ⟨_, _, rfl, rfl, rfl⟩ := h
  exact rfl
theorem k32_mk (w : World) (x : S32)  : k32.K w x [.string x.f0, .string x.f1] := ⟨[.string x.f0], [.string x.f1], rfl, rfl, rfl⟩
theorem k32_mkM (w : World) (base : Nat) (ok : Nat → Prop) (x : S32)  : k32.M w base ok x [.string x.f0, .string x.f1] := ⟨[.string x.f0], [.string x.f1], rfl, rfl, rfl⟩
def rd_T32 (xs : List S32) (i : Int) : S32 := xs.getD i.toNat z32
theorem at_T32 {w : World} {A : Option Addr} {n : Nat} {xs : List S32} (h : Kd.C k32 w A n xs) (i : Int) (h0 : 0 ≤ i) (h1 : i < n) : ∃ ad , A = some ad ∧ w.cell? (ad.add (i.toNat * 2)) = some (.string (rd_T32 xs i).f0) ∧ w.cell? ⟨(ad.add (i.toNat * 2)).block, (ad.add (i.toNat * 2)).off + 1, none⟩ = some (.string (rd_T32 xs i).f1) := by
  obtain ⟨ad, c, e, _, hK, hc0⟩ := Kd.C_get h z32 i h0 h1
  have hc : ∀ j u, c[j]? = some u → w.cell? (ad.add (i.toNat * 2 + j)) = some u := hc0
  obtain rfl := k32_open hK
  exact ⟨ad, e, hc 0 _ rfl, by rw [← add_field _ _ 1 (by omega)]; exact hc 1 _ rfl⟩

/-! #### struct type 60 -/
structure S60 where
  f0 : Int
  f1 : ByteArray
def z60 : S60 := ⟨(0 : Int), (⟨#[]⟩ : ByteArray)⟩
def k60 : Kd S60 := Kd.iso (Kd.pair (Kd.int .u32) Kd.string) (fun x : S60 => (x.f0, x.f1))
theorem k60_open {w : World} {x : S60} {cs : List Value} (h : k60.K w x cs) : cs = [.int .u32 x.f0, .string x.f1] := by
  obtain ⟨_, _, rfl, rfl, rfl⟩ := h
  exact rfl
theorem k60_openM {w : World} {base : Nat} {ok : Nat → Prop} {x : S60} {cs : List Value} (h : k60.M w base ok x cs) : cs = [.int .u32 x.f0, .string x.f1] := by
  obtain ⟨_, _, rfl, rfl, rfl⟩ := h
  exact rfl
theorem k60_mk (w : World) (x : S60)  : k60.K w x [.int .u32 x.f0, .string x.f1] := ⟨[.int .u32 x.f0], [.string x.f1], rfl, rfl, rfl⟩
theorem k60_mkM (w : World) (base : Nat) (ok : Nat → Prop) (x : S60)  : k60.M w base ok x [.int .u32 x.f0, .string x.f1] := ⟨[.int .u32 x.f0], [.string x.f1], rfl, rfl, rfl⟩
def rd_T60 (xs : List S60) (i : Int) : S60 := xs.getD i.toNat z60
theorem at_T60 {w : World} {A : Option Addr} {n : Nat} {xs : List S60} (h : Kd.C k60 w A n xs) (i : Int) (h0 : 0 ≤ i) (h1 : i < n) : ∃ ad , A = some ad ∧ w.cell? (ad.add (i.toNat * 2)) = some (.int .u32 (rd_T60 xs i).f0) ∧ w.cell? ⟨(ad.add (i.toNat * 2)).block, (ad.add (i.toNat * 2)).off + 1, none⟩ = some (.string (rd_T60 xs i).f1) := by
  obtain ⟨ad, c, e, _, hK, hc0⟩ := Kd.C_get h z60 i h0 h1
  have hc : ∀ j u, c[j]? = some u → w.cell? (ad.add (i.toNat * 2 + j)) = some u := hc0
  obtain rfl := k60_open hK
  exact ⟨ad, e, hc 0 _ rfl, by rw [← add_field _ _ 1 (by omega)]; exact hc 1 _ rfl⟩

def rd_L5 (xs : List (List S60)) (i : Int) : (List S60) := xs.getD i.toNat ([] : List S60)
theorem at_L5 {w : World} {A : Option Addr} {n : Nat} {xs : List (List S60)} (h : Kd.C (Kd.slice 60 k60) w A n xs) (i : Int) (h0 : 0 ≤ i) (h1 : i < n) : ∃ ad A0 c0, A = some ad ∧ w.cell? (ad.add i.toNat) = some (.slice A0 (rd_L5 xs i).length c0) ∧ (rd_L5 xs i).length ≤ c0 ∧ k60.C w A0 (rd_L5 xs i).length (rd_L5 xs i) := by
  obtain ⟨ad, c, e, _, hK, hc0⟩ := Kd.C_get h ([] : List S60) i h0 h1
  have hc : ∀ j u, c[j]? = some u → w.cell? (ad.add (i.toNat * 1 + j)) = some u := hc0
  obtain ⟨A0, c0, rfl, l0, g0⟩ := hK
  exact ⟨ad, A0, c0, e, by have hq := hc 0 _ rfl; rwa [Nat.mul_one, Nat.add_zero] at hq, l0, g0⟩

/-! #### struct type 30 -/
structure S30 where
  f0 : Int
  f1 : (List S60)
  f2 : (List S60)
  f3 : Bool
  f4 : Int
def z30 : S30 := ⟨(0 : Int), ([] : List S60), ([] : List S60), false, (0 : Int)⟩
def k30 : Kd S30 := Kd.iso (Kd.pair (Kd.int .u32) (Kd.pair (Kd.slice 60 k60) (Kd.pair (Kd.slice 60 k60) (Kd.pair Kd.bool (Kd.int .i64))))) (fun x : S30 => (x.f0, x.f1, x.f2, x.f3, x.f4))
theorem k30_open {w : World} {x : S30} {cs : List Value} (h : k30.K w x cs) : ∃ A1 c1 A2 c2, cs = [.int .u32 x.f0, .slice A1 x.f1.length c1, .slice A2 x.f2.length c2, .bool x.f3, .int .i64 x.f4] ∧ x.f1.length ≤ c1 ∧ k60.C w A1 x.f1.length x.f1 ∧ x.f2.length ≤ c2 ∧ k60.C w A2 x.f2.length x.f2 := by
  obtain ⟨_, _, rfl, rfl, ⟨_, _, rfl, ⟨A1, c1, rfl, l1, g1⟩, ⟨_, _, rfl, ⟨A2, c2, rfl, l2, g2⟩, ⟨_, _, rfl, rfl, rfl⟩⟩⟩⟩ := h
  exact ⟨A1, c1, A2, c2, rfl, l1, g1, l2, g2⟩
theorem k30_openM {w : World} {base : Nat} {ok : Nat → Prop} {x : S30} {cs : List Value} (h : k30.M w base ok x cs) : ∃ v1 v2, cs = [.int .u32 x.f0, v1, v2, .bool x.f3, .int .i64 x.f4] ∧ k60.R 60 w base ok v1 x.f1 ∧ k60.R 60 w base ok v2 x.f2 := by
  obtain ⟨_, _, rfl, rfl, ⟨_, _, rfl, ⟨v1, rfl, g1⟩, ⟨_, _, rfl, ⟨v2, rfl, g2⟩, ⟨_, _, rfl, rfl, rfl⟩⟩⟩⟩ := h
  exact ⟨v1, v2, rfl, g1, g2⟩
theorem k30_mk (w : World) (x : S30) {A1 : Option Addr} {c1 : Nat} (l1 : x.f1.length ≤ c1) (g1 : k60.C w A1 x.f1.length x.f1) {A2 : Option Addr} {c2 : Nat} (l2 : x.f2.length ≤ c2) (g2 : k60.C w A2 x.f2.length x.f2) : k30.K w x [.int .u32 x.f0, .slice A1 x.f1.length c1, .slice A2 x.f2.length c2, .bool x.f3, .int .i64 x.f4] := ⟨[.int .u32 x.f0], [.slice A1 x.f1.length c1, .slice A2 x.f2.length c2, .bool x.f3, .int .i64 x.f4], rfl, rfl, ⟨[.slice A1 x.f1.length c1], [.slice A2 x.f2.length c2, .bool x.f3, .int .i64 x.f4], rfl, ⟨A1, c1, rfl, l1, g1⟩, ⟨[.slice A2 x.f2.length c2], [.bool x.f3, .int .i64 x.f4], rfl, ⟨A2, c2, rfl, l2, g2⟩, ⟨[.bool x.f3], [.int .i64 x.f4], rfl, rfl, rfl⟩⟩⟩⟩
theorem k30_mkM (w : World) (base : Nat) (ok : Nat → Prop) (x : S30) {v1 : Value} (g1 : k60.R 60 w base ok v1 x.f1) {v2 : Value} (g2 : k60.R 60 w base ok v2 x.f2) : k30.M w base ok x [.int .u32 x.f0, v1, v2, .bool x.f3, .int .i64 x.f4] := ⟨[.int .u32 x.f0], [v1, v2, .bool x.f3, .int .i64 x.f4], rfl, rfl, ⟨[v1], [v2, .bool x.f3, .int .i64 x.f4], rfl, ⟨v1, rfl, g1⟩, ⟨[v2], [.bool x.f3, .int .i64 x.f4], rfl, ⟨v2, rfl, g2⟩, ⟨[.bool x.f3], [.int .i64 x.f4], rfl, rfl, rfl⟩⟩⟩⟩
def rd_T30 (xs : List S30) (i : Int) : S30 := xs.getD i.toNat z30
theorem at_T30 {w : World} {A : Option Addr} {n : Nat} {xs : List S30} (h : Kd.C k30 w A n xs) (i : Int) (h0 : 0 ≤ i) (h1 : i < n) : ∃ ad A1 c1 A2 c2, A = some ad ∧ w.cell? (ad.add (i.toNat * 5)) = some (.int .u32 (rd_T30 xs i).f0) ∧ w.cell? ⟨(ad.add (i.toNat * 5)).block, (ad.add (i.toNat * 5)).off + 1, none⟩ = some (.slice A1 (rd_T30 xs i).f1.length c1) ∧ w.cell? ⟨(ad.add (i.toNat * 5)).block, (ad.add (i.toNat * 5)).off + 2, none⟩ = some (.slice A2 (rd_T30 xs i).f2.length c2) ∧ w.cell? ⟨(ad.add (i.toNat * 5)).block, (ad.add (i.toNat * 5)).off + 3, none⟩ = some (.bool (rd_T30 xs i).f3) ∧ w.cell? ⟨(ad.add (i.toNat * 5)).block, (ad.add (i.toNat * 5)).off + 4, none⟩ = some (.int .i64 (rd_T30 xs i).f4) ∧ (rd_T30 xs i).f1.length ≤ c1 ∧ k60.C w A1 (rd_T30 xs i).f1.length (rd_T30 xs i).f1 ∧ (rd_T30 xs i).f2.length ≤ c2 ∧ k60.C w A2 (rd_T30 xs i).f2.length (rd_T30 xs i).f2 := by
  obtain ⟨ad, c, e, _, hK, hc0⟩ := Kd.C_get h z30 i h0 h1
  have hc : ∀ j u, c[j]? = some u → w.cell? (ad.add (i.toNat * 5 + j)) = some u := hc0
  obtain ⟨A1, c1, A2, c2, rfl, l1, g1, l2, g2⟩ := k30_open hK
  exact ⟨ad, A1, c1, A2, c2, e, hc 0 _ rfl, by rw [← add_field _ _ 1 (by omega)]; exact hc 1 _ rfl, by rw [← add_field _ _ 2 (by omega)]; exact hc 2 _ rfl, by rw [← add_field _ _ 3 (by omega)]; exact hc 3 _ rfl, by rw [← add_field _ _ 4 (by omega)]; exact hc 4 _ rfl, l1, g1, l2, g2⟩

end Go.Proofs.YthbljhmjppjcjaaDoor.Z
end

section
/- Short words for what each step of a walk shows alike: facts are told of the world that has come, cells of a block are read, an operation of a region is taken. -/
namespace Go.Proofs.YthbljhmjppjcjaaDoor.Z
open Go.RowKit Go.Proofs.YthbljhmjppjcjaaDoorW.PrintWords Go.Proofs.YthbljhmjppjcjaaDoorW.PrintLast Go.Proofs.YthbljhmjppjcjaaDoorW.PrintMore
set_option linter.unusedVariables false
/-- From one world to the next: orders drawn, blocks made. -/
theorem wx_ {w w1 : World} (h : Below w.heap.size w w1 := by with_reducible repeat (first | exact Below.refl _ _ | apply below_alloc | apply pw_below_drewN | apply below_drew1)) : Below w.heap.size w w1 := h
theorem bel_ {w w1 : World} (h : Below w.heap.size w w1 := by repeat (first | (with_reducible first | exact HB.out | apply below_alloc | apply pw_below_drewN | apply below_drew1 | refine below_set ?_ (Aside0.out (by with_reducible assumption))) | exact HB.out)) : Below w.heap.size w w1 := h
theorem hb_ {w0 w1 w2 : World} (hb : Below w1.heap.size w1 w2) (h : Below w0.heap.size w0 w1 := by repeat (first | (with_reducible first | exact HB.out | apply below_alloc | apply pw_below_drewN | apply below_drew1 | refine below_set ?_ (Aside0.out (by with_reducible assumption))) | exact HB.out)) : Aside0 (Below w0.heap.size w0 w2) := ⟨below_step h hb⟩
theorem kb_ {w w1 w2 : World} {g : Nat} {o : Obj} (h : Aside0 (w.heap[g]? = some o)) (hb : Below w1.heap.size w1 w2) (hw : Below w.heap.size w w1 := by with_reducible repeat (first | exact Below.refl _ _ | apply below_alloc | apply pw_below_drewN | apply below_drew1)) : Aside0 (w2.heap[g]? = some o) := ⟨blk_below (blk_below h.out hw) hb⟩
theorem bk_ {w w1 : World} {g : Nat} {o : Obj} (h : Aside0 (w.heap[g]? = some o)) (hw : Below w.heap.size w w1 := by with_reducible repeat (first | exact Below.refl _ _ | apply below_alloc | apply pw_below_drewN | apply below_drew1)) : w1.heap[g]? = some o := blk_below h.out hw
theorem ge_ {w0 w1 : World} {g : Nat} (hg : g = w1.heap.size) (h : Below w0.heap.size w0 w1 := by repeat (first | (with_reducible first | exact HB.out | apply below_alloc | apply pw_below_drewN | apply below_drew1 | refine below_set ?_ (Aside0.out (by with_reducible assumption))) | exact HB.out)) : Aside0 (w0.heap.size ≤ g) := ⟨by rw [hg]; exact below_size h⟩
theorem nl_ {w w1 : World} {g g' : Nat} {o : Obj} (h : Aside0 (w.heap[g]? = some o)) (hg : g' = w1.heap.size) (hw : Below w.heap.size w w1 := by with_reducible repeat (first | exact Below.refl _ _ | apply below_alloc | apply pw_below_drewN | apply below_drew1)) : Aside0 (g ≠ g') := ⟨by rw [hg]; exact Nat.ne_of_lt (blk_lt (blk_below h.out hw))⟩
theorem ng_ {w w1 : World} {g g' : Nat} {o : Obj} (h : Aside0 (w.heap[g]? = some o)) (hg : g' = w1.heap.size) (hw : Below w.heap.size w w1 := by with_reducible repeat (first | exact Below.refl _ _ | apply below_alloc | apply pw_below_drewN | apply below_drew1)) : Aside0 (g' ≠ g) := ⟨by rw [hg]; exact Nat.ne_of_gt (blk_lt (blk_below h.out hw))⟩
section
variable {α : Type} {d : Kd α} {e base base' n : Nat} {ok : Nat → Prop} {w w1 w2 : World} {v : Value} {xs : List α} {A : Option Addr}
theorem rb_ (h : Aside0 (d.R e w base ok v xs)) (hb : Below w1.heap.size w1 w2) (hw : Below w.heap.size w w1 := by with_reducible repeat (first | exact Below.refl _ _ | apply below_alloc | apply pw_below_drewN | apply below_drew1)) : Aside0 (d.R e w2 base ok v xs) := ⟨Kd.R_below (Kd.R_below h.out hw) hb⟩
theorem ra_ (h : Aside0 (d.R e w base ok v xs)) (hw : Below w.heap.size w w1 := by with_reducible repeat (first | exact Below.refl _ _ | apply below_alloc | apply pw_below_drewN | apply below_drew1)) : d.R e w1 base ok v xs := Kd.R_below h.out hw
theorem rl_ {w0 : World} (h : d.R e w2 w1.heap.size ok v xs) (hb : Below w0.heap.size w0 w1 := by repeat (first | (with_reducible first | exact HB.out | apply below_alloc | apply pw_below_drewN | apply below_drew1 | refine below_set ?_ (Aside0.out (by with_reducible assumption))) | exact HB.out)) : Aside0 (d.R e w2 w0.heap.size ok v xs) := ⟨Kd.R_lower h (below_size hb)⟩
theorem cb_ {w0 : World} (h : Aside0 (d.C w0 A n xs)) (hb : Below w0.heap.size w0 w1 := by repeat (first | (with_reducible first | exact HB.out | apply below_alloc | apply pw_below_drewN | apply below_drew1 | refine below_set ?_ (Aside0.out (by with_reducible assumption))) | exact HB.out)) : d.C w1 A n xs := Kd.C_below h.out hb
end
/-- From world to world, a row of this kind is as it was. -/
def Off {α : Type} (d : Kd α) (e : Nat) (w W : World) : Prop := ∀ base ok v xs, d.R e w base ok v xs → d.R e W base ok v xs
section
variable {α : Type} {d : Kd α} {e base n c : Nat} {ok : Nat → Prop} {w W w1 w2 : World} {v : Value} {xs : List α} {A : Option Addr}
theorem Off.refl : Off d e w w := fun _ _ _ _ h => h
theorem Off.alloc (h : Off d e w W) (o : Obj) : Off d e w (W.alloc o) := fun _ _ _ _ q => Kd.R_alloc (h _ _ _ _ q) o
theorem Off.drewN (h : Off d e w W) (k : Nat) : Off d e w (W.drewN k) := fun _ _ _ _ q => Kd.R_drewN (h _ _ _ _ q) k
theorem Off.drew (h : Off d e w W) : Off d e w W.drew := fun _ _ _ _ q => Kd.R_drew (h _ _ _ _ q)
theorem Off.set {g i t : Nat} {u : Value} {cs : Array Value} (h : Off d e w W) (hb : Aside0 (w.heap[g]? = some (.cells cs t (0, 0)))) (ht : ∀ q, q ∈ e :: d.E → q ≠ t) : Off d e w (W.setCell ⟨g, i, none⟩ u) :=
  fun _ _ _ _ q => Kd.R_mono (Kd.R_far (p := ⟨g, i, none⟩) (h _ _ _ _ (Kd.R_types q hb.out ht)) (fun _ hk => hk.2) u) (fun _ hk => hk.1)
theorem rw_ (h : Aside0 (d.R e w base ok v xs)) (q : Off d e w W := by ((with_reducible repeat (first | exact Off.refl | apply Off.alloc | apply Off.drewN | apply Off.drew | apply Off.set)); all_goals (first | with_reducible assumption | decide))) : d.R e W base ok v xs := q _ _ _ _ h.out
theorem rm_ {ok' : Nat → Prop} (h : Aside0 (d.R e w base ok v xs)) (m : ∀ k, ok k → ok' k) (q : Off d e w W := by ((with_reducible repeat (first | exact Off.refl | apply Off.alloc | apply Off.drewN | apply Off.drew | apply Off.set)); all_goals (first | with_reducible assumption | decide))) : d.R e W base ok' v xs := Kd.R_mono (q _ _ _ _ h.out) m
theorem rv_ {ok' : Nat → Prop} {base' g t : Nat} {cs : Array Value} (h : Aside0 (d.R e w base ok v xs)) (hb : Aside0 (w.heap[g]? = some (.cells cs t (0, 0)))) (m : ∀ k, ok k ∧ k ≠ g → ok' k) (ht : ∀ q, q ∈ e :: d.E → q ≠ t := by decide) (q : Off d e w W := by ((with_reducible repeat (first | exact Off.refl | apply Off.alloc | apply Off.drewN | apply Off.drew | apply Off.set)); all_goals (first | with_reducible assumption | decide))) : d.V e W base' ok' v xs := Kd.V_mono (Kd.R_V (q _ _ _ _ (Kd.R_types h.out hb.out ht))) m
theorem cr_ (h : Aside0 (d.R e w base ok (.slice A xs.length c) xs)) (hw : Below w.heap.size w w1 := by with_reducible repeat (first | exact Below.refl _ _ | apply below_alloc | apply pw_below_drewN | apply below_drew1)) : d.C w1 A xs.length xs := Kd.C_below (Kd.R_reads' h.out).2.2 hw
end
theorem bf_ {w : World} {g g' i t : Nat} {u : Value} {cs : Array Value} (h : w.heap[g]? = some (.cells cs t (0, 0))) (hn : Aside0 (g ≠ g')) : (w.setCell ⟨g', i, none⟩ u).heap[g]? = some (.cells cs t (0, 0)) := blk_far (p := ⟨g', i, none⟩) h hn.out u
theorem bs_ {w : World} {g : Nat} {o : Obj} (h : w.heap[g]? = some o := by ((with_reducible repeat (first | apply blk_drewN | apply blk_drew | apply blk_alloc | apply blk_put | apply bf_)); exact Aside0.out (by with_reducible assumption); all_goals (first | with_reducible assumption | (simp only [List.setIfInBounds_toArray, List.set_cons_zero, List.set_cons_succ]; rfl) | rfl))) : w.heap[g]? = some o := h
section
variable {P : Program} {ops : Array Oper} {Q : Exit → Act → World → Prop} {md : Region.Mode} {S : World → Prop} {ds : List Nat} {fuel : Nat} {l l' : Array Bool} {a a' : Act} {w : World} {oi : Oper} {v : Value}
theorem pu_ (i N : Nat) (h : wpAnyLast P md ops Q S ds fuel l' a' w) (hi : ops[i]? = some oi := by rfl) (hN : oi.dst = some N := by rfl) (hl : l.setIfInBounds i true = l' := by (simp only [List.setIfInBounds_toArray, List.set_cons_zero, List.set_cons_succ]; rfl))
    (hc : anyB md ops l l' i = true := by first | exact any_of HT_.out (by kernel_rfl) | kernel_rfl) (hQ : ∀ c a w, Q (.panic c) (a.put oi.dst v) w → Q (.panic c) a w := by exact fun _ _ _ h => h)
    (hy : Yields P ops oi v a := by exact Or.inl ⟨by rfl, by (intro w'; go_simp; with_reducible rfl)⟩)
    (ha : a.put (some N) v = a' := by (simp only [Act.put, List.setIfInBounds_toArray, List.set_cons_zero, List.set_cons_succ, i64_w, i32_w]; rfl)) : wpAnyLast P md ops Q S ds (fuel + 1) l a w := pure_ l' hi hN hc hQ hy ha h
theorem un_ (i N : Nat) (h : wpAnyLast P md ops Q S ds fuel l' a' w) (hi : ops[i]? = some oi := by rfl) (hN : oi.dst = some N := by rfl) (hl : l.setIfInBounds i true = l' := by (simp only [List.setIfInBounds_toArray, List.set_cons_zero, List.set_cons_succ]; rfl))
    (hc : anyB md ops l l' i = true := by first | exact any_of HT_.out (by kernel_rfl) | kernel_rfl) (hQ : ∀ c a w, Q (.panic c) (a.put oi.dst undef) w → Q (.panic c) a w := by exact fun _ _ _ h => h)
    (hy : Yields P ops oi undef a := by exact Or.inr ⟨by rfl, rfl⟩)
    (ha : a.put (some N) undef = a' := by (simp only [Act.put, List.setIfInBounds_toArray, List.set_cons_zero, List.set_cons_succ, i64_w, i32_w]; rfl)) : wpAnyLast P md ops Q S ds (fuel + 1) l a w := pure_ l' hi hN hc hQ hy ha h
theorem on_ (i N : Nat) (h : ∀ K : Act → World → Prop, Shut (∀ a' w', S w' → (S w' → wpAnyLast P md ops Q S ds fuel l' a' w') → K a' w') → if Region.wanted oi (yielded ops a.tmps) = true then Oper.wp P oi a w K Q else K (a.put (some N) undef) w)
    (hi : ops[i]? = some oi := by rfl) (hN : oi.dst = some N := by rfl) (hl : l.setIfInBounds i true = l' := by (simp only [List.setIfInBounds_toArray, List.set_cons_zero, List.set_cons_succ]; rfl))
    (hc : readyB md ops l l' i = true := by first | exact one_of HT_.out (by kernel_rfl) | kernel_rfl) (hd : i ∉ ds := by decide) : wpAnyLast P md ops Q S ds (fuel + 1) l a w := one_ l' hi hN hc hd h
theorem nm_ (N : Nat) (h : wpAnyLast P md ops Q S ds fuel l a' w) {a0 : Act} (e : a = Act.put a0 (some N) v := by rfl) (ha : Act.put a0 (some N) v = a' := by (simp only [Act.put, List.setIfInBounds_toArray, List.set_cons_zero, List.set_cons_succ, i64_w, i32_w]; rfl)) : wpAnyLast P md ops Q S ds fuel l a w := norm_ (e.trans ha) h
theorem tk2_ (i N : Nat) (h : wpAnyLast P md ops Q S ds fuel l' a' w) (hi : ops[i]? = some oi := by rfl) (hN : oi.dst = some N := by rfl) (hl : l.setIfInBounds i true = l' := by (simp only [List.setIfInBounds_toArray, List.set_cons_zero, List.set_cons_succ]; rfl))
    (hc : takeB md ops ds l l' i = true := by first | exact take_ofW HT_.out HW_.out (by kernel_rfl) | kernel_rfl) (hQ : ∀ c a w, Q (.panic c) (a.put oi.dst v) w → Q (.panic c) a w := by exact fun _ _ _ h => h)
    (hy : YieldsIf P ops S oi v a := by exact Or.inl ⟨by rfl, by (rintro w' ⟨s0, s1⟩; go_simp; with_reducible rfl)⟩) (hS : S w := by exact hHeld)
    (ha : a.put (some N) v = a' := by (simp only [Act.put, List.setIfInBounds_toArray, List.set_cons_zero, List.set_cons_succ, i64_w, i32_w]; rfl)) : wpAnyLast P md ops Q S ds (fuel + 1) l a w := take_ l' hi hN hc hQ hy hS ha h
theorem tk3_ (i N : Nat) (h : wpAnyLast P md ops Q S ds fuel l' a' w) (hi : ops[i]? = some oi := by rfl) (hN : oi.dst = some N := by rfl) (hl : l.setIfInBounds i true = l' := by (simp only [List.setIfInBounds_toArray, List.set_cons_zero, List.set_cons_succ]; rfl))
    (hc : takeB md ops ds l l' i = true := by first | exact take_ofW HT_.out HW_.out (by kernel_rfl) | kernel_rfl) (hQ : ∀ c a w, Q (.panic c) (a.put oi.dst v) w → Q (.panic c) a w := by exact fun _ _ _ h => h)
    (hy : YieldsIf P ops S oi v a := by exact Or.inl ⟨by rfl, by (rintro w' ⟨s0, s1, s2⟩; go_simp; with_reducible rfl)⟩) (hS : S w := by exact hHeld)
    (ha : a.put (some N) v = a' := by (simp only [Act.put, List.setIfInBounds_toArray, List.set_cons_zero, List.set_cons_succ, i64_w, i32_w]; rfl)) : wpAnyLast P md ops Q S ds (fuel + 1) l a w := take_ l' hi hN hc hQ hy hS ha h
theorem tk5_ (i N : Nat) (h : wpAnyLast P md ops Q S ds fuel l' a' w) (hi : ops[i]? = some oi := by rfl) (hN : oi.dst = some N := by rfl) (hl : l.setIfInBounds i true = l' := by (simp only [List.setIfInBounds_toArray, List.set_cons_zero, List.set_cons_succ]; rfl))
    (hc : takeB md ops ds l l' i = true := by first | exact take_ofW HT_.out HW_.out (by kernel_rfl) | kernel_rfl) (hQ : ∀ c a w, Q (.panic c) (a.put oi.dst v) w → Q (.panic c) a w := by exact fun _ _ _ h => h)
    (hy : YieldsIf P ops S oi v a := by exact Or.inl ⟨by rfl, by (rintro w' ⟨s0, s1, s2, s3, s4⟩; go_simp; with_reducible rfl)⟩) (hS : S w := by exact hHeld)
    (ha : a.put (some N) v = a' := by (simp only [Act.put, List.setIfInBounds_toArray, List.set_cons_zero, List.set_cons_succ, i64_w, i32_w]; rfl)) : wpAnyLast P md ops Q S ds (fuel + 1) l a w := take_ l' hi hN hc hQ hy hS ha h
theorem tk7_ (i N : Nat) (h : wpAnyLast P md ops Q S ds fuel l' a' w) (hi : ops[i]? = some oi := by rfl) (hN : oi.dst = some N := by rfl) (hl : l.setIfInBounds i true = l' := by (simp only [List.setIfInBounds_toArray, List.set_cons_zero, List.set_cons_succ]; rfl))
    (hc : takeB md ops ds l l' i = true := by first | exact take_ofW HT_.out HW_.out (by kernel_rfl) | kernel_rfl) (hQ : ∀ c a w, Q (.panic c) (a.put oi.dst v) w → Q (.panic c) a w := by exact fun _ _ _ h => h)
    (hy : YieldsIf P ops S oi v a := by exact Or.inl ⟨by rfl, by (rintro w' ⟨s0, s1, s2, s3, s4, s5, s6⟩; go_simp; with_reducible rfl)⟩) (hS : S w := by exact hHeld)
    (ha : a.put (some N) v = a' := by (simp only [Act.put, List.setIfInBounds_toArray, List.set_cons_zero, List.set_cons_succ, i64_w, i32_w]; rfl)) : wpAnyLast P md ops Q S ds (fuel + 1) l a w := take_ l' hi hN hc hQ hy hS ha h
theorem tk9_ (i N : Nat) (h : wpAnyLast P md ops Q S ds fuel l' a' w) (hi : ops[i]? = some oi := by rfl) (hN : oi.dst = some N := by rfl) (hl : l.setIfInBounds i true = l' := by (simp only [List.setIfInBounds_toArray, List.set_cons_zero, List.set_cons_succ]; rfl))
    (hc : takeB md ops ds l l' i = true := by first | exact take_ofW HT_.out HW_.out (by kernel_rfl) | kernel_rfl) (hQ : ∀ c a w, Q (.panic c) (a.put oi.dst v) w → Q (.panic c) a w := by exact fun _ _ _ h => h)
    (hy : YieldsIf P ops S oi v a := by exact Or.inl ⟨by rfl, by (rintro w' ⟨s0, s1, s2, s3, s4, s5, s6, s7, s8⟩; go_simp; with_reducible rfl)⟩) (hS : S w := by exact hHeld)
    (ha : a.put (some N) v = a' := by (simp only [Act.put, List.setIfInBounds_toArray, List.set_cons_zero, List.set_cons_succ, i64_w, i32_w]; rfl)) : wpAnyLast P md ops Q S ds (fuel + 1) l a w := take_ l' hi hN hc hQ hy hS ha h
end
theorem cell0_ {w : World} {g i : Nat} {t : TypeId} {cs : Array Value} {v : Value} (h : Aside0 (w.heap[g]? = some (.cells cs t (0, 0)))) (e : cs[i]? = some v) : w.cell? ⟨g, i, none⟩ = some v := (blk_cell h.out i).trans e
theorem hc_ {p : Prop} (h : p := by (try dsimp only); repeat (first | (exact cell0_ (by first | (with_reducible assumption) | (refine Aside0.mk ?_; (with_reducible repeat (first | refine blk_drewN ?_ _ | refine blk_drew ?_ | refine blk_alloc ?_ _)); exact Aside0.out (by with_reducible assumption))) (by rfl)) | (refine And.intro ?_ ?_; focus (exact cell0_ (by first | (with_reducible assumption) | (refine Aside0.mk ?_; (with_reducible repeat (first | refine blk_drewN ?_ _ | refine blk_drew ?_ | refine blk_alloc ?_ _)); exact Aside0.out (by with_reducible assumption))) (by rfl))))) : p := h
section
variable {P : Program} {ops : Array Oper} {rest : List Oper} {oi o : Oper} {a : Act} {Q : Exit → Act → World → Prop} {w W : World}
theorem gl_ (N : Option Tmp) {f : FuncId} {fn : Func} (hf : P.funcs[f]? = some fn) {ars : Array Operand} {ts : Array TypeId} (args : Array Value) (h : Calls P f args w fun e w' => ∃ v, e = .returned v ∧ wpList P ops Q rest (a.put N v) w')
    (hd : oi.dst = N := by exact rfl) (hg : oi.guard = none := by exact rfl) (hname : (fn.name == "runtime.NumGoroutine") = false := by kernel_rfl) (hb : fn.body.isSome = true := by exact rfl)
    (hop : oi.op = .call { callee := .value (.func f), args := ars, argTypes := ts } := by exact rfl) (hargs : ars.map a.eval = args := by ((try simp only [List.map_toArray, List.map_cons, List.map_nil]); first | done | rfl | (simp only [List.length_drop, List.length_take]; rfl))) : wpList P ops Q (oi :: rest) a w := goesL_ N hd hg hf hname hb args hop hargs h
theorem bx_ {N : Tmp} {cs : Array Value} {t : TypeId} (h : ∀ g, g = W.heap.size → ∀ w1, w1.heap[g]? = some (.cells cs t (0, 0)) → Below W.heap.size W w1 → wpList P ops Q rest (a.put o.dst (.pointer (some ⟨g, 0, none⟩))) w1)
    (hg : o.guard = none := by rfl) (hd : o.dst = some N := by rfl)
    (hrun : (execOp a.eval o).run P W = .ok (.value (.pointer (some ⟨W.heap.size, 0, none⟩))) (W.alloc (.cells cs t (0, 0))) := by first | (go_simp; done) | (go_simp; rfl)) : wpList P ops Q (o :: rest) a W := box_event hg hd hrun h
end
theorem cl2_ {w : World} {g : Nat} {t : TypeId} {x0 x1 : Value} (h : Aside0 (w.heap[g]? = some (.cells #[x0, x1] t (0, 0)))) : w.cell? ⟨g, 0, none⟩ = some x0 ∧ w.cell? ⟨g, 1, none⟩ = some x1 := ⟨(blk_cell h.out 0).trans rfl, (blk_cell h.out 1).trans rfl⟩
theorem fz2_ {w : World} {g : Nat} {t : TypeId} {cs : Array Value} (h : Aside0 (w.heap[g]? = some (.cells cs t (0, 0)))) : w.frozen? ⟨g, 0, none⟩ = false ∧ w.frozen? ⟨g, 1, none⟩ = false := ⟨blk_frozen h.out 0, blk_frozen h.out 1⟩
theorem cl5_ {w : World} {g : Nat} {t : TypeId} {x0 x1 x2 x3 x4 : Value} (h : Aside0 (w.heap[g]? = some (.cells #[x0, x1, x2, x3, x4] t (0, 0)))) : w.cell? ⟨g, 0, none⟩ = some x0 ∧ w.cell? ⟨g, 1, none⟩ = some x1 ∧ w.cell? ⟨g, 2, none⟩ = some x2 ∧ w.cell? ⟨g, 3, none⟩ = some x3 ∧ w.cell? ⟨g, 4, none⟩ = some x4 := ⟨(blk_cell h.out 0).trans rfl, (blk_cell h.out 1).trans rfl, (blk_cell h.out 2).trans rfl, (blk_cell h.out 3).trans rfl, (blk_cell h.out 4).trans rfl⟩
theorem fz5_ {w : World} {g : Nat} {t : TypeId} {cs : Array Value} (h : Aside0 (w.heap[g]? = some (.cells cs t (0, 0)))) : w.frozen? ⟨g, 0, none⟩ = false ∧ w.frozen? ⟨g, 1, none⟩ = false ∧ w.frozen? ⟨g, 2, none⟩ = false ∧ w.frozen? ⟨g, 3, none⟩ = false ∧ w.frozen? ⟨g, 4, none⟩ = false := ⟨blk_frozen h.out 0, blk_frozen h.out 1, blk_frozen h.out 2, blk_frozen h.out 3, blk_frozen h.out 4⟩
end Go.Proofs.YthbljhmjppjcjaaDoor.Z
end

section
-- Printed by a program of this session (mp.py) out of the translation.
namespace Go.Proofs.YthbljhmjppjcjaaDoor.Z
open Go.RowKit Go.Proofs.YthbljhmjppjcjaaDoorW.PrintWords Go.Proofs.YthbljhmjppjcjaaDoorW.PrintLast Go.Proofs.YthbljhmjppjcjaaDoorW.PrintMore
attribute [local go_sem] max2_int min2_int max_two min_two max_three min_three max_four min_four   -- for this text's walks alone
set_option linter.unusedVariables false
set_option linter.unusedSimpArgs false

/-! ### item_right: function 13 -/
def item_right.f (a0 : ByteArray) (a1 : ByteArray) : Option (Bool) := if a0.toList = ([] : List UInt8) then (some false) else (if (a0.size : Int) ≤ 48 then (some (decide ((a1.size : Int) ≤ 160))) else (some false))
set_option maxHeartbeats 8000000 in
set_option maxRecDepth 100000 in
theorem item_right.calls (a0 : ByteArray) (a1 : ByteArray) (r : Bool) (w : World) (h : item_right.f a0 a1 = some r) :
    Calls Tryd.prog 13 #[.string a0, .string a1] w fun e w' => e = .returned (.bool r) ∧ Drawn0 w w' := by
  have H : (if a0.toList = ([] : List UInt8) then (some false) else (if (a0.size : Int) ≤ 48 then (some (decide ((a1.size : Int) ≤ 160))) else (some false))) = some r := h
  clear h
  by_cases c3 : a0.toList = ([] : List UInt8)
  · rw [if_pos c3] at H
    have c3b0 : (a0.toList == ([] : List UInt8)) = true := beq_iff_eq.mpr c3
    have c3b1 : (a0.toList != ([] : List UInt8)) = false := bne_eq_false_iff_eq.mpr c3
    clear c3
    obtain rfl := Option.some.inj H
    go_enter Tryd.func13, Tryd.ntmps13
    go_wp2
    go_ret
    exact ⟨by first | rfl | (simp; done) | (simp [*]; done), by repeat (first | exact Drawn0.refl _ | apply Drawn0.step)⟩
  · rw [if_neg c3] at H
    have c3b0 : (a0.toList == ([] : List UInt8)) = false := beq_eq_false_iff_ne.mpr c3
    have c3b1 : (a0.toList != ([] : List UInt8)) = true := bne_iff_ne.mpr c3
    by_cases c4 : (a0.size : Int) ≤ 48
    · rw [if_pos c4] at H
      have c4b0 : decide ((a0.size : Int) ≤ 48) = true := decide_eq_true c4
      have c4b1 : decide (a0.size ≤ 48) = true := decide_eq_true (by omega)
      clear c4
      obtain rfl := Option.some.inj H
      go_enter Tryd.func13, Tryd.ntmps13
      go_wp2
      go_ret
      exact ⟨by first | rfl | (simp; done) | (simp [*]; done), by repeat (first | exact Drawn0.refl _ | apply Drawn0.step)⟩
    · rw [if_neg c4] at H
      have c4b0 : decide ((a0.size : Int) ≤ 48) = false := decide_eq_false c4
      have c4b1 : decide (a0.size ≤ 48) = false := decide_eq_false (by omega)
      clear c4
      obtain rfl := Option.some.inj H
      go_enter Tryd.func13, Tryd.ntmps13
      go_wp2
      go_ret
      exact ⟨by first | rfl | (simp; done) | (simp [*]; done), by repeat (first | exact Drawn0.refl _ | apply Drawn0.step)⟩

end Go.Proofs.YthbljhmjppjcjaaDoor.Z
end

section
/- The order of texts, byte by byte; what the walk takes of a text's > and <=. -/
namespace Go.Proofs.YthbljhmjppjcjaaDoor.Z
open Go
theorem bl_irrefl : ∀ x : List UInt8, Op.bytesLess x x = false
  | [] => rfl
  | a :: x => by simp [Op.bytesLess, bl_irrefl x]
theorem bl_trans : ∀ {x y z : List UInt8}, Op.bytesLess x y = true → Op.bytesLess y z = true → Op.bytesLess x z = true
  | _, [], _, h, _ => by simp [Op.bytesLess] at h
  | [], _ :: _, [], _, h => by simp [Op.bytesLess] at h
  | _ :: _, _ :: _, [], _, h => by simp [Op.bytesLess] at h
  | [], _ :: _, _ :: _, _, _ => rfl
  | a :: x, b :: y, c :: z, h, k => by
    simp only [Op.bytesLess, Bool.or_eq_true, decide_eq_true_eq, Bool.and_eq_true, beq_iff_eq] at h k ⊢
    rcases h with h | ⟨rfl, h⟩ <;> rcases k with k | ⟨rfl, k⟩
    · exact .inl (UInt8.lt_trans h k)
    · exact .inl h
    · exact .inl k
    · exact .inr ⟨rfl, bl_trans h k⟩
theorem bl_total : ∀ x y : List UInt8, x = y ∨ Op.bytesLess x y = true ∨ Op.bytesLess y x = true
  | [], [] => .inl rfl
  | [], _ :: _ => .inr (.inl rfl)
  | _ :: _, [] => .inr (.inr rfl)
  | a :: x, b :: y => by
    simp only [Op.bytesLess, Bool.or_eq_true, decide_eq_true_eq, Bool.and_eq_true, beq_iff_eq]
    rcases Nat.lt_trichotomy a.toNat b.toNat with h | h | h
    · exact .inr (.inl (.inl (UInt8.lt_iff_toNat_lt.2 h)))
    · obtain rfl := UInt8.toNat_inj.1 h
      rcases bl_total x y with rfl | k | k
      · exact .inl rfl
      · exact .inr (.inl (.inr ⟨rfl, k⟩))
      · exact .inr (.inr (.inr ⟨rfl, k⟩))
    · exact .inr (.inr (.inl (UInt8.lt_iff_toNat_lt.2 h)))
theorem bl_asymm {x y : List UInt8} (h : Op.bytesLess x y = true) : Op.bytesLess y x = false := by
  cases k : Op.bytesLess y x
  · rfl
  · have := bl_trans h k; rw [bl_irrefl] at this; cases this
theorem bl_ne {x y : List UInt8} (h : Op.bytesLess x y = true) : x ≠ y := by rintro rfl; rw [bl_irrefl] at h; cases h
theorem bl_leq (x y : List UInt8) : (Op.bytesLess x y || x == y) = !Op.bytesLess y x := by
  rcases bl_total x y with rfl | h | h
  · simp [bl_irrefl]
  · simp [h, bl_asymm h]
  · have : (x == y) = false := by simpa using (bl_ne h).symm
    simp [h, bl_asymm h, this]
theorem bl_gtr (x y : List UInt8) : (!(Op.bytesLess x y || x == y)) = Op.bytesLess y x := by rw [bl_leq]; simp
@[go_sem] theorem binOp_string_gtr_ (t : TypeId) (a b : ByteArray) : binOp .gtr t (.string a) (.string b) = pure (.bool (Op.bytesLess b.toList a.toList)) := by
  simp [binOp, Op.stringOp]
  rw [← Bool.not_or, bl_gtr]
@[go_sem] theorem binOp_string_leq_ (t : TypeId) (a b : ByteArray) : binOp .leq t (.string a) (.string b) = pure (.bool !(Op.bytesLess b.toList a.toList)) := by
  simp [binOp, Op.stringOp]
  rw [bl_leq]
@[go_sem] theorem binOp_string_geq_ (t : TypeId) (a b : ByteArray) : binOp .geq t (.string a) (.string b) = pure (.bool !(Op.bytesLess a.toList b.toList)) := by
  simp [binOp, Op.stringOp]
end Go.Proofs.YthbljhmjppjcjaaDoor.Z
end

section
-- Printed by a program of this session (mp.py) out of the translation.
namespace Go.Proofs.YthbljhmjppjcjaaDoor.Z
open Go.RowKit Go.Proofs.YthbljhmjppjcjaaDoorW.PrintWords Go.Proofs.YthbljhmjppjcjaaDoorW.PrintLast Go.Proofs.YthbljhmjppjcjaaDoorW.PrintMore
attribute [local go_sem] max2_int min2_int max_two min_two max_three min_three max_four min_four   -- for this text's walks alone
set_option linter.unusedVariables false
set_option linter.unusedSimpArgs false

/-! ### item_Check: function 5 -/
def item_Check.l0 : Nat → List (S32) → List (S32) → Int → Int → Option (Int)
  | 0, _, _, _, _ => none
  | k + 1, x0, x5, x6, x7 => if x7 < x6 then (if 0 ≤ x7 then (if x7 < (x5.length : Int) then ((item_right.f ((rd_T32 x5 x7).f0) ((rd_T32 x5 x7).f1)).bind fun t109 => (if t109 = true then (if x7 > 0 then (if 0 ≤ (wrap64 (x7 - 1)) then (if (wrap64 (x7 - 1)) < (x0.length : Int) then (if ((Op.bytesLess (((rd_T32 x0 (wrap64 (x7 - 1))).f0).toList) (((rd_T32 x5 x7).f0).toList)) = true) then (item_Check.l0 k x0 x5 x6 (wrap64 (x7 + 1))) else (some 4)) else (none)) else (none)) else (item_Check.l0 k x0 x5 x6 (wrap64 (x7 + 1)))) else (some 4))) else (none)) else (none)) else (some 0)
def item_Check.f (k : Nat) (l0 : List (S32)) : Option (Int) := item_Check.l0 k l0 l0 (l0.length : Int) 0
theorem item_Check.mono_l : ∀ k, (∀ y0 y1 y2 y3, LeO (item_Check.l0 k y0 y1 y2 y3) (item_Check.l0 (k + 1) y0 y1 y2 y3))
  | 0 => fun _ _ _ _ r h => by simp [item_Check.l0] at h
  | k + 1 => by
    have ih0 := item_Check.mono_l k
    · intro y0 y1 y2 y3
      unfold item_Check.l0
      repeat' first
      | (with_reducible exact ih0 _ _ _ _)
      | (with_reducible exact LeO.refl _)
      | (with_reducible exact LeO.none _)
      | (with_reducible refine LeO.ite ?_ ?_)
      | (with_reducible refine LeO.bind ?_ (fun _ => ?_))
      | exact ih0 _ _ _ _
      | exact LeO.none _
      | refine LeO.ite ?_ ?_
      | refine LeO.bind ?_ (fun _ => ?_)
theorem item_Check.mono : ∀ a0 k, LeO (item_Check.f k a0) (item_Check.f (k + 1) a0) := by
  intro a0 k
  have ih0 := item_Check.mono_l k
  unfold item_Check.f
  repeat' first
      | (with_reducible exact ih0 _ _ _ _)
      | (with_reducible exact LeO.refl _)
      | (with_reducible exact LeO.none _)
      | (with_reducible refine LeO.ite ?_ ?_)
      | (with_reducible refine LeO.bind ?_ (fun _ => ?_))
      | exact ih0 _ _ _ _
      | exact LeO.none _
      | refine LeO.ite ?_ ?_
      | refine LeO.bind ?_ (fun _ => ?_)
set_option maxHeartbeats 8000000 in
set_option maxRecDepth 100000 in
theorem item_Check.calls (k : Nat) (A0 : Option Addr) (c0 : Nat) (l0 : List (S32)) (r : Int) (w : World) (hr0 : Kd.C k32 w A0 l0.length l0) (hc0 : l0.length ≤ c0) (h : item_Check.f k l0 = some r) :
    Calls Tryd.prog 5 #[.slice A0 l0.length c0] w fun e w' => e = .returned (.int .i64 r) ∧ Below w.heap.size w w' := by
  have hu32 := Tryd.underlying32
  have HR0 := Aside0.mk hr0
  have HC0 := Aside0.mk hc0
  clear hr0 hc0
  have HB := Aside0.mk (Below.refl w.heap.size w)
  have H : (item_Check.l0 k l0 l0 (l0.length : Int) 0) = some r := h
  clear h
  have H' := Aside0.mk H
  clear H
  go_enter Tryd.func5, Tryd.ntmps5
  go_wp2
  repeat (go_quiet (fail); try go_wp2)
  go_loopg [7] k (fun kq v7 w' => ∃ (x7_1 : Int), v7 = .int .i64 x7_1 ∧ Aside0 (item_Check.l0 kq l0 l0 (l0.length : Int) x7_1 = some r) ∧ Aside0 (kq ≤ k) ∧ Aside0 (Below w.heap.size w w'))
  case atStart => exact ⟨(0), (by first | rfl | (simp; done) | (simp [*]; done)), H', ⟨Nat.le_refl _⟩, ⟨bel_⟩⟩
  case round =>
    clear H'
    obtain ⟨x7_1, rfl, HA, HK1, HB⟩ := hrel
    cases gk with
    | zero => exact absurd HA.out (by simp [item_Check.l0])
    | succ k1 =>
      have H := HA.out
      clear HA
      simp only [item_Check.l0] at H
      by_cases c2 : x7_1 < (l0.length : Int)
      · rw [if_pos c2] at H
        have c2b0 : decide (x7_1 < (l0.length : Int)) = true := decide_eq_true c2
        clear c2
        by_cases c3 : 0 ≤ x7_1
        · rw [if_pos c3] at H
          have c3b0 : decide (0 ≤ x7_1) = true := decide_eq_true c3
          clear c3
          by_cases c4 : x7_1 < (l0.length : Int)
          · rw [if_pos c4] at H
            have c4b0 : decide (x7_1 < (l0.length : Int)) = true := decide_eq_true c4
            clear c4
            replace H := Option.bind_eq_some_iff.mp H
            obtain ⟨t109, A50, H⟩ := H
            replace H : (if t109 = true then (if x7_1 > 0 then (if 0 ≤ (wrap64 (x7_1 - 1)) then (if (wrap64 (x7_1 - 1)) < (l0.length : Int) then (if ((Op.bytesLess (((rd_T32 l0 (wrap64 (x7_1 - 1))).f0).toList) (((rd_T32 l0 x7_1).f0).toList)) = true) then (item_Check.l0 k1 l0 l0 (l0.length : Int) (wrap64 (x7_1 + 1))) else (some 4)) else (none)) else (none)) else (item_Check.l0 k1 l0 l0 (l0.length : Int) (wrap64 (x7_1 + 1)))) else (some 4)) = some r := H
            have A5 := Aside0.mk A50
            clear A50
            by_cases c6 : t109 = true
            · subst c6
              have H1 : (if x7_1 > 0 then (if 0 ≤ (wrap64 (x7_1 - 1)) then (if (wrap64 (x7_1 - 1)) < (l0.length : Int) then (if ((Op.bytesLess (((rd_T32 l0 (wrap64 (x7_1 - 1))).f0).toList) (((rd_T32 l0 x7_1).f0).toList)) = true) then (item_Check.l0 k1 l0 l0 (l0.length : Int) (wrap64 (x7_1 + 1))) else (some 4)) else (none)) else (none)) else (item_Check.l0 k1 l0 l0 (l0.length : Int) (wrap64 (x7_1 + 1)))) = some r := by rw [if_pos rfl] at H; exact H
              clear H
              have H := H1
              clear H1
              by_cases c7 : x7_1 > 0
              · rw [if_pos c7] at H
                have c7b0 : decide (0 < x7_1) = true := decide_eq_true c7
                clear c7
                obtain ⟨ji8, hji8⟩ : ∃ j_ : Int, (wrap64 (x7_1 - 1)) = j_ := ⟨_, rfl⟩
                replace H : (if 0 ≤ (ji8) then (if (ji8) < (l0.length : Int) then (if ((Op.bytesLess (((rd_T32 l0 (ji8)).f0).toList) (((rd_T32 l0 x7_1).f0).toList)) = true) then (item_Check.l0 k1 l0 l0 (l0.length : Int) (wrap64 (x7_1 + 1))) else (some 4)) else (none)) else (none)) = some r := by first | (rw [hji8] at H; exact H) | (simp only [hji8] at H ⊢; exact H)
                (try rw [hji8] at A5)
                have hji8w : (IntKind.i64.wrap (x7_1 - 1)) = ji8 := (i64_w _).trans hji8
                by_cases c9 : 0 ≤ (ji8)
                · rw [if_pos c9] at H
                  have c9b0 : decide (0 ≤ (ji8)) = true := decide_eq_true c9
                  clear c9
                  by_cases c10 : (ji8) < (l0.length : Int)
                  · rw [if_pos c10] at H
                    have c10b0 : decide ((ji8) < (l0.length : Int)) = true := decide_eq_true c10
                    clear c10
                    by_cases c11 : ((Op.bytesLess (((rd_T32 l0 (ji8)).f0).toList) (((rd_T32 l0 x7_1).f0).toList)) = true)
                    · rw [if_pos c11] at H
                      have c11b0 : (Op.bytesLess (((rd_T32 l0 (ji8)).f0).toList) (((rd_T32 l0 x7_1).f0).toList)) = true := c11
                      clear c11
                      have H' := Aside0.mk H
                      clear H
                      have p107 : 0 ≤ (x7_1 : Int) := of_decide_eq_true (by first | (with_reducible assumption) | assumption)
                      have q107 : x7_1 < (l0.length : Int) := of_decide_eq_true (by first | (with_reducible assumption) | assumption)
                      obtain ⟨ad107, e107, hx107_0, hx107_1⟩ := at_T32 HR0.out x7_1 p107 q107
                      cases e107
                      replace hx107_0 := (HB.out.cell (World.block_lt_of_cell? w _ hx107_0)).trans hx107_0
                      replace hx107_1 := (HB.out.cell (World.block_lt_of_cell? w _ hx107_1)).trans hx107_1
                      replace p107 := eq_true p107
                      replace q107 := eq_true q107
                      go_wp2_with (first | ((with_reducible refine gate_dst (N := 4) rfl ?_); refine bx_ (N := 4) (cs := #[.string (⟨#[]⟩ : ByteArray), .string (⟨#[]⟩ : ByteArray)]) (t := 32) ?_; intro gb108 hg w12 hbox hb; have BK108 := Aside0.mk (hbox); have GW108 := ge_ hg; have GE108 := ge_ hg; replace HB := hb_ hb; clear hb hbox hg; obtain ⟨hcz13_0, hcz13_1⟩ := cl2_ BK108; obtain ⟨hfz13_0, hfz13_1⟩ := fz2_ BK108) | (go_at_call 13; (with_reducible refine (item_right.calls ((rd_T32 l0 x7_1).f0) ((rd_T32 l0 x7_1).f1) true _ A5.out).mono ?_); rintro e w' ⟨rfl, ⟨nd, rfl⟩⟩; (try first | exact ⟨rfl, _, World.drewN_drewN _ _ _⟩ | exact ⟨rfl, _, Eq.trans (World.drewN_drewN _ _ _) (congrArg (World.drewN _) (Nat.add_assoc _ _ _))⟩); have p110 : 0 ≤ ((ji8) : Int) := of_decide_eq_true (by first | (with_reducible assumption) | assumption); have q110 : (ji8) < (l0.length : Int) := of_decide_eq_true (by first | (with_reducible assumption) | assumption); obtain ⟨ad110, e110, hx110_0, hx110_1⟩ := at_T32 HR0.out (ji8) p110 q110; obtain rfl : ad107 = ad110 := (by injection e110); have hn110_0 : ad107.block ≠ gb108 := Nat.ne_of_lt (Nat.lt_of_lt_of_le (by have := World.block_lt_of_cell? _ _ hx110_0; first | rwa [add_block] at this | exact this) GW108.out); have hn110_1 : ad107.block ≠ gb108 := Nat.ne_of_lt (Nat.lt_of_lt_of_le (by have := World.block_lt_of_cell? _ _ hx110_0; first | rwa [add_block] at this | exact this) GW108.out); replace hx110_0 := (HB.out.cell (World.block_lt_of_cell? w _ hx110_0)).trans hx110_0; replace hx110_1 := (HB.out.cell (World.block_lt_of_cell? w _ hx110_1)).trans hx110_1; replace hx110_0 := (cell_far (p := ⟨gb108, 0, none⟩) (by first | (rw [add_block]; exact hn110_0) | (show (Addr.add _ _).block ≠ _; rw [add_block]; exact hn110_0) | exact hn110_0) (.string ((rd_T32 l0 x7_1).f0))).trans hx110_0; replace hx110_1 := (cell_far (p := ⟨gb108, 0, none⟩) (by first | (rw [add_block]; exact hn110_0) | (show (Addr.add _ _).block ≠ _; rw [add_block]; exact hn110_0) | exact hn110_0) (.string ((rd_T32 l0 x7_1).f0))).trans hx110_1; replace hx110_0 := (cell_far (p := ⟨gb108, 1, none⟩) (by first | (rw [add_block]; exact hn110_1) | (show (Addr.add _ _).block ≠ _; rw [add_block]; exact hn110_1) | exact hn110_1) (.string ((rd_T32 l0 x7_1).f1))).trans hx110_0; replace hx110_1 := (cell_far (p := ⟨gb108, 1, none⟩) (by first | (rw [add_block]; exact hn110_1) | (show (Addr.add _ _).block ≠ _; rw [add_block]; exact hn110_1) | exact hn110_1) (.string ((rd_T32 l0 x7_1).f1))).trans hx110_1; (try have hy110_0 := fun (n_ : Nat) => (show ((((w12.drewN n_).setCell ⟨gb108, 0, none⟩ (.string ((rd_T32 l0 x7_1).f0))).setCell ⟨gb108, 1, none⟩ (.string ((rd_T32 l0 x7_1).f1)))).cell? _ = some _ from hx110_0)); (try have hy110_1 := fun (n_ : Nat) => (show ((((w12.drewN n_).setCell ⟨gb108, 0, none⟩ (.string ((rd_T32 l0 x7_1).f0))).setCell ⟨gb108, 1, none⟩ (.string ((rd_T32 l0 x7_1).f1)))).cell? _ = some _ from hx110_1)); clear hn110_0; clear hn110_1; replace p110 := eq_true p110; replace q110 := eq_true q110))
                      repeat (go_quiet (first | ((with_reducible refine gate_dst (N := 4) rfl ?_); refine bx_ (N := 4) (cs := #[.string (⟨#[]⟩ : ByteArray), .string (⟨#[]⟩ : ByteArray)]) (t := 32) ?_; intro gb108 hg w12 hbox hb; have n0_ := Aside0.mk (below_step bel_ hb); have n1_ := Aside0.mk (hbox); have n2_ := Aside0.mk ((by rw [hg]; exact (below_size bel_) : w.heap.size ≤ gb108)); have n3_ := Aside0.mk ((by rw [hg]; exact (below_size bel_) : w.heap.size ≤ gb108)); clear HB; have HB := n0_; have BK108 := n1_; have GW108 := n2_; have GE108 := n3_; clear n0_ n1_ n2_ n3_; clear hb hbox hg; have hcz13_0 : w12.cell? ⟨gb108, 0, none⟩ = some (.string (⟨#[]⟩ : ByteArray)) := (blk_cell BK108.out 0).trans rfl; have hcz13_1 : w12.cell? ⟨gb108, 1, none⟩ = some (.string (⟨#[]⟩ : ByteArray)) := (blk_cell BK108.out 1).trans rfl; have hfz13_0 := blk_frozen BK108.out 0; have hfz13_1 := blk_frozen BK108.out 1) | (go_at_call 13; (with_reducible refine (item_right.calls ((rd_T32 l0 x7_1).f0) ((rd_T32 l0 x7_1).f1) true _ A5.out).mono ?_); rintro e w' ⟨rfl, ⟨nd, rfl⟩⟩; (try first | exact ⟨rfl, _, World.drewN_drewN _ _ _⟩ | exact ⟨rfl, _, Eq.trans (World.drewN_drewN _ _ _) (congrArg (World.drewN _) (Nat.add_assoc _ _ _))⟩); have p110 : 0 ≤ ((ji8) : Int) := of_decide_eq_true (by first | (with_reducible assumption) | assumption); have q110 : (ji8) < (l0.length : Int) := of_decide_eq_true (by first | (with_reducible assumption) | assumption); obtain ⟨ad110, e110, hx110_0, hx110_1⟩ := at_T32 HR0.out (ji8) p110 q110; obtain rfl : ad107 = ad110 := (by injection e110); have hn110_0 : ad107.block ≠ gb108 := Nat.ne_of_lt (Nat.lt_of_lt_of_le (by have := World.block_lt_of_cell? _ _ hx110_0; first | rwa [add_block] at this | exact this) GW108.out); have hn110_1 : ad107.block ≠ gb108 := Nat.ne_of_lt (Nat.lt_of_lt_of_le (by have := World.block_lt_of_cell? _ _ hx110_0; first | rwa [add_block] at this | exact this) GW108.out); replace hx110_0 := (HB.out.cell (World.block_lt_of_cell? w _ hx110_0)).trans hx110_0; replace hx110_1 := (HB.out.cell (World.block_lt_of_cell? w _ hx110_1)).trans hx110_1; replace hx110_0 := (cell_far (p := ⟨gb108, 0, none⟩) (by first | (rw [add_block]; exact hn110_0) | (show (Addr.add _ _).block ≠ _; rw [add_block]; exact hn110_0) | exact hn110_0) (.string ((rd_T32 l0 x7_1).f0))).trans hx110_0; replace hx110_1 := (cell_far (p := ⟨gb108, 0, none⟩) (by first | (rw [add_block]; exact hn110_0) | (show (Addr.add _ _).block ≠ _; rw [add_block]; exact hn110_0) | exact hn110_0) (.string ((rd_T32 l0 x7_1).f0))).trans hx110_1; replace hx110_0 := (cell_far (p := ⟨gb108, 1, none⟩) (by first | (rw [add_block]; exact hn110_1) | (show (Addr.add _ _).block ≠ _; rw [add_block]; exact hn110_1) | exact hn110_1) (.string ((rd_T32 l0 x7_1).f1))).trans hx110_0; replace hx110_1 := (cell_far (p := ⟨gb108, 1, none⟩) (by first | (rw [add_block]; exact hn110_1) | (show (Addr.add _ _).block ≠ _; rw [add_block]; exact hn110_1) | exact hn110_1) (.string ((rd_T32 l0 x7_1).f1))).trans hx110_1; (try have hy110_0 := fun (n_ : Nat) => (show ((((w12.drewN n_).setCell ⟨gb108, 0, none⟩ (.string ((rd_T32 l0 x7_1).f0))).setCell ⟨gb108, 1, none⟩ (.string ((rd_T32 l0 x7_1).f1)))).cell? _ = some _ from hx110_0)); (try have hy110_1 := fun (n_ : Nat) => (show ((((w12.drewN n_).setCell ⟨gb108, 0, none⟩ (.string ((rd_T32 l0 x7_1).f0))).setCell ⟨gb108, 1, none⟩ (.string ((rd_T32 l0 x7_1).f1)))).cell? _ = some _ from hx110_1)); clear hn110_0; clear hn110_1; replace p110 := eq_true p110; replace q110 := eq_true q110)); try go_wp2_with (first | ((with_reducible refine gate_dst (N := 4) rfl ?_); refine bx_ (N := 4) (cs := #[.string (⟨#[]⟩ : ByteArray), .string (⟨#[]⟩ : ByteArray)]) (t := 32) ?_; intro gb108 hg w12 hbox hb; have BK108 := Aside0.mk (hbox); have GW108 := ge_ hg; have GE108 := ge_ hg; replace HB := hb_ hb; clear hb hbox hg; obtain ⟨hcz13_0, hcz13_1⟩ := cl2_ BK108; obtain ⟨hfz13_0, hfz13_1⟩ := fz2_ BK108) | (go_at_call 13; (with_reducible refine (item_right.calls ((rd_T32 l0 x7_1).f0) ((rd_T32 l0 x7_1).f1) true _ A5.out).mono ?_); rintro e w' ⟨rfl, ⟨nd, rfl⟩⟩; (try first | exact ⟨rfl, _, World.drewN_drewN _ _ _⟩ | exact ⟨rfl, _, Eq.trans (World.drewN_drewN _ _ _) (congrArg (World.drewN _) (Nat.add_assoc _ _ _))⟩); have p110 : 0 ≤ ((ji8) : Int) := of_decide_eq_true (by first | (with_reducible assumption) | assumption); have q110 : (ji8) < (l0.length : Int) := of_decide_eq_true (by first | (with_reducible assumption) | assumption); obtain ⟨ad110, e110, hx110_0, hx110_1⟩ := at_T32 HR0.out (ji8) p110 q110; obtain rfl : ad107 = ad110 := (by injection e110); have hn110_0 : ad107.block ≠ gb108 := Nat.ne_of_lt (Nat.lt_of_lt_of_le (by have := World.block_lt_of_cell? _ _ hx110_0; first | rwa [add_block] at this | exact this) GW108.out); have hn110_1 : ad107.block ≠ gb108 := Nat.ne_of_lt (Nat.lt_of_lt_of_le (by have := World.block_lt_of_cell? _ _ hx110_0; first | rwa [add_block] at this | exact this) GW108.out); replace hx110_0 := (HB.out.cell (World.block_lt_of_cell? w _ hx110_0)).trans hx110_0; replace hx110_1 := (HB.out.cell (World.block_lt_of_cell? w _ hx110_1)).trans hx110_1; replace hx110_0 := (cell_far (p := ⟨gb108, 0, none⟩) (by first | (rw [add_block]; exact hn110_0) | (show (Addr.add _ _).block ≠ _; rw [add_block]; exact hn110_0) | exact hn110_0) (.string ((rd_T32 l0 x7_1).f0))).trans hx110_0; replace hx110_1 := (cell_far (p := ⟨gb108, 0, none⟩) (by first | (rw [add_block]; exact hn110_0) | (show (Addr.add _ _).block ≠ _; rw [add_block]; exact hn110_0) | exact hn110_0) (.string ((rd_T32 l0 x7_1).f0))).trans hx110_1; replace hx110_0 := (cell_far (p := ⟨gb108, 1, none⟩) (by first | (rw [add_block]; exact hn110_1) | (show (Addr.add _ _).block ≠ _; rw [add_block]; exact hn110_1) | exact hn110_1) (.string ((rd_T32 l0 x7_1).f1))).trans hx110_0; replace hx110_1 := (cell_far (p := ⟨gb108, 1, none⟩) (by first | (rw [add_block]; exact hn110_1) | (show (Addr.add _ _).block ≠ _; rw [add_block]; exact hn110_1) | exact hn110_1) (.string ((rd_T32 l0 x7_1).f1))).trans hx110_1; (try have hy110_0 := fun (n_ : Nat) => (show ((((w12.drewN n_).setCell ⟨gb108, 0, none⟩ (.string ((rd_T32 l0 x7_1).f0))).setCell ⟨gb108, 1, none⟩ (.string ((rd_T32 l0 x7_1).f1)))).cell? _ = some _ from hx110_0)); (try have hy110_1 := fun (n_ : Nat) => (show ((((w12.drewN n_).setCell ⟨gb108, 0, none⟩ (.string ((rd_T32 l0 x7_1).f0))).setCell ⟨gb108, 1, none⟩ (.string ((rd_T32 l0 x7_1).f1)))).cell? _ = some _ from hx110_1)); clear hn110_0; clear hn110_1; replace p110 := eq_true p110; replace q110 := eq_true q110)))
                      go_roundg k1
                      case measure => have := HK1.out; omega
                      case rel => exact ⟨(wrap64 (x7_1 + 1)), (by first | rfl | (simp; done) | (simp [*]; done)), H', ⟨by have := HK1.out; omega⟩, ⟨bel_⟩⟩
                    · rw [if_neg c11] at H
                      have c11b0 : (Op.bytesLess (((rd_T32 l0 (ji8)).f0).toList) (((rd_T32 l0 x7_1).f0).toList)) = false := by simpa using c11
                      clear c11
                      obtain rfl := Option.some.inj H
                      have p107 : 0 ≤ (x7_1 : Int) := of_decide_eq_true (by first | (with_reducible assumption) | assumption)
                      have q107 : x7_1 < (l0.length : Int) := of_decide_eq_true (by first | (with_reducible assumption) | assumption)
                      obtain ⟨ad107, e107, hx107_0, hx107_1⟩ := at_T32 HR0.out x7_1 p107 q107
                      cases e107
                      replace hx107_0 := (HB.out.cell (World.block_lt_of_cell? w _ hx107_0)).trans hx107_0
                      replace hx107_1 := (HB.out.cell (World.block_lt_of_cell? w _ hx107_1)).trans hx107_1
                      replace p107 := eq_true p107
                      replace q107 := eq_true q107
                      go_wp2_with (first | ((with_reducible refine gate_dst (N := 4) rfl ?_); refine bx_ (N := 4) (cs := #[.string (⟨#[]⟩ : ByteArray), .string (⟨#[]⟩ : ByteArray)]) (t := 32) ?_; intro gb108 hg w14 hbox hb; have BK108 := Aside0.mk (hbox); have GW108 := ge_ hg; have GE108 := ge_ hg; replace HB := hb_ hb; clear hb hbox hg; obtain ⟨hcz15_0, hcz15_1⟩ := cl2_ BK108; obtain ⟨hfz15_0, hfz15_1⟩ := fz2_ BK108) | (go_at_call 13; (with_reducible refine (item_right.calls ((rd_T32 l0 x7_1).f0) ((rd_T32 l0 x7_1).f1) true _ A5.out).mono ?_); rintro e w' ⟨rfl, ⟨nd, rfl⟩⟩; (try first | exact ⟨rfl, _, World.drewN_drewN _ _ _⟩ | exact ⟨rfl, _, Eq.trans (World.drewN_drewN _ _ _) (congrArg (World.drewN _) (Nat.add_assoc _ _ _))⟩); have p110 : 0 ≤ ((ji8) : Int) := of_decide_eq_true (by first | (with_reducible assumption) | assumption); have q110 : (ji8) < (l0.length : Int) := of_decide_eq_true (by first | (with_reducible assumption) | assumption); obtain ⟨ad110, e110, hx110_0, hx110_1⟩ := at_T32 HR0.out (ji8) p110 q110; obtain rfl : ad107 = ad110 := (by injection e110); have hn110_0 : ad107.block ≠ gb108 := Nat.ne_of_lt (Nat.lt_of_lt_of_le (by have := World.block_lt_of_cell? _ _ hx110_0; first | rwa [add_block] at this | exact this) GW108.out); have hn110_1 : ad107.block ≠ gb108 := Nat.ne_of_lt (Nat.lt_of_lt_of_le (by have := World.block_lt_of_cell? _ _ hx110_0; first | rwa [add_block] at this | exact this) GW108.out); replace hx110_0 := (HB.out.cell (World.block_lt_of_cell? w _ hx110_0)).trans hx110_0; replace hx110_1 := (HB.out.cell (World.block_lt_of_cell? w _ hx110_1)).trans hx110_1; replace hx110_0 := (cell_far (p := ⟨gb108, 0, none⟩) (by first | (rw [add_block]; exact hn110_0) | (show (Addr.add _ _).block ≠ _; rw [add_block]; exact hn110_0) | exact hn110_0) (.string ((rd_T32 l0 x7_1).f0))).trans hx110_0; replace hx110_1 := (cell_far (p := ⟨gb108, 0, none⟩) (by first | (rw [add_block]; exact hn110_0) | (show (Addr.add _ _).block ≠ _; rw [add_block]; exact hn110_0) | exact hn110_0) (.string ((rd_T32 l0 x7_1).f0))).trans hx110_1; replace hx110_0 := (cell_far (p := ⟨gb108, 1, none⟩) (by first | (rw [add_block]; exact hn110_1) | (show (Addr.add _ _).block ≠ _; rw [add_block]; exact hn110_1) | exact hn110_1) (.string ((rd_T32 l0 x7_1).f1))).trans hx110_0; replace hx110_1 := (cell_far (p := ⟨gb108, 1, none⟩) (by first | (rw [add_block]; exact hn110_1) | (show (Addr.add _ _).block ≠ _; rw [add_block]; exact hn110_1) | exact hn110_1) (.string ((rd_T32 l0 x7_1).f1))).trans hx110_1; (try have hy110_0 := fun (n_ : Nat) => (show ((((w14.drewN n_).setCell ⟨gb108, 0, none⟩ (.string ((rd_T32 l0 x7_1).f0))).setCell ⟨gb108, 1, none⟩ (.string ((rd_T32 l0 x7_1).f1)))).cell? _ = some _ from hx110_0)); (try have hy110_1 := fun (n_ : Nat) => (show ((((w14.drewN n_).setCell ⟨gb108, 0, none⟩ (.string ((rd_T32 l0 x7_1).f0))).setCell ⟨gb108, 1, none⟩ (.string ((rd_T32 l0 x7_1).f1)))).cell? _ = some _ from hx110_1)); clear hn110_0; clear hn110_1; replace p110 := eq_true p110; replace q110 := eq_true q110))
                      repeat (go_quiet (first | ((with_reducible refine gate_dst (N := 4) rfl ?_); refine bx_ (N := 4) (cs := #[.string (⟨#[]⟩ : ByteArray), .string (⟨#[]⟩ : ByteArray)]) (t := 32) ?_; intro gb108 hg w14 hbox hb; have n0_ := Aside0.mk (below_step bel_ hb); have n1_ := Aside0.mk (hbox); have n2_ := Aside0.mk ((by rw [hg]; exact (below_size bel_) : w.heap.size ≤ gb108)); have n3_ := Aside0.mk ((by rw [hg]; exact (below_size bel_) : w.heap.size ≤ gb108)); clear HB; have HB := n0_; have BK108 := n1_; have GW108 := n2_; have GE108 := n3_; clear n0_ n1_ n2_ n3_; clear hb hbox hg; have hcz15_0 : w14.cell? ⟨gb108, 0, none⟩ = some (.string (⟨#[]⟩ : ByteArray)) := (blk_cell BK108.out 0).trans rfl; have hcz15_1 : w14.cell? ⟨gb108, 1, none⟩ = some (.string (⟨#[]⟩ : ByteArray)) := (blk_cell BK108.out 1).trans rfl; have hfz15_0 := blk_frozen BK108.out 0; have hfz15_1 := blk_frozen BK108.out 1) | (go_at_call 13; (with_reducible refine (item_right.calls ((rd_T32 l0 x7_1).f0) ((rd_T32 l0 x7_1).f1) true _ A5.out).mono ?_); rintro e w' ⟨rfl, ⟨nd, rfl⟩⟩; (try first | exact ⟨rfl, _, World.drewN_drewN _ _ _⟩ | exact ⟨rfl, _, Eq.trans (World.drewN_drewN _ _ _) (congrArg (World.drewN _) (Nat.add_assoc _ _ _))⟩); have p110 : 0 ≤ ((ji8) : Int) := of_decide_eq_true (by first | (with_reducible assumption) | assumption); have q110 : (ji8) < (l0.length : Int) := of_decide_eq_true (by first | (with_reducible assumption) | assumption); obtain ⟨ad110, e110, hx110_0, hx110_1⟩ := at_T32 HR0.out (ji8) p110 q110; obtain rfl : ad107 = ad110 := (by injection e110); have hn110_0 : ad107.block ≠ gb108 := Nat.ne_of_lt (Nat.lt_of_lt_of_le (by have := World.block_lt_of_cell? _ _ hx110_0; first | rwa [add_block] at this | exact this) GW108.out); have hn110_1 : ad107.block ≠ gb108 := Nat.ne_of_lt (Nat.lt_of_lt_of_le (by have := World.block_lt_of_cell? _ _ hx110_0; first | rwa [add_block] at this | exact this) GW108.out); replace hx110_0 := (HB.out.cell (World.block_lt_of_cell? w _ hx110_0)).trans hx110_0; replace hx110_1 := (HB.out.cell (World.block_lt_of_cell? w _ hx110_1)).trans hx110_1; replace hx110_0 := (cell_far (p := ⟨gb108, 0, none⟩) (by first | (rw [add_block]; exact hn110_0) | (show (Addr.add _ _).block ≠ _; rw [add_block]; exact hn110_0) | exact hn110_0) (.string ((rd_T32 l0 x7_1).f0))).trans hx110_0; replace hx110_1 := (cell_far (p := ⟨gb108, 0, none⟩) (by first | (rw [add_block]; exact hn110_0) | (show (Addr.add _ _).block ≠ _; rw [add_block]; exact hn110_0) | exact hn110_0) (.string ((rd_T32 l0 x7_1).f0))).trans hx110_1; replace hx110_0 := (cell_far (p := ⟨gb108, 1, none⟩) (by first | (rw [add_block]; exact hn110_1) | (show (Addr.add _ _).block ≠ _; rw [add_block]; exact hn110_1) | exact hn110_1) (.string ((rd_T32 l0 x7_1).f1))).trans hx110_0; replace hx110_1 := (cell_far (p := ⟨gb108, 1, none⟩) (by first | (rw [add_block]; exact hn110_1) | (show (Addr.add _ _).block ≠ _; rw [add_block]; exact hn110_1) | exact hn110_1) (.string ((rd_T32 l0 x7_1).f1))).trans hx110_1; (try have hy110_0 := fun (n_ : Nat) => (show ((((w14.drewN n_).setCell ⟨gb108, 0, none⟩ (.string ((rd_T32 l0 x7_1).f0))).setCell ⟨gb108, 1, none⟩ (.string ((rd_T32 l0 x7_1).f1)))).cell? _ = some _ from hx110_0)); (try have hy110_1 := fun (n_ : Nat) => (show ((((w14.drewN n_).setCell ⟨gb108, 0, none⟩ (.string ((rd_T32 l0 x7_1).f0))).setCell ⟨gb108, 1, none⟩ (.string ((rd_T32 l0 x7_1).f1)))).cell? _ = some _ from hx110_1)); clear hn110_0; clear hn110_1; replace p110 := eq_true p110; replace q110 := eq_true q110)); try go_wp2_with (first | ((with_reducible refine gate_dst (N := 4) rfl ?_); refine bx_ (N := 4) (cs := #[.string (⟨#[]⟩ : ByteArray), .string (⟨#[]⟩ : ByteArray)]) (t := 32) ?_; intro gb108 hg w14 hbox hb; have BK108 := Aside0.mk (hbox); have GW108 := ge_ hg; have GE108 := ge_ hg; replace HB := hb_ hb; clear hb hbox hg; obtain ⟨hcz15_0, hcz15_1⟩ := cl2_ BK108; obtain ⟨hfz15_0, hfz15_1⟩ := fz2_ BK108) | (go_at_call 13; (with_reducible refine (item_right.calls ((rd_T32 l0 x7_1).f0) ((rd_T32 l0 x7_1).f1) true _ A5.out).mono ?_); rintro e w' ⟨rfl, ⟨nd, rfl⟩⟩; (try first | exact ⟨rfl, _, World.drewN_drewN _ _ _⟩ | exact ⟨rfl, _, Eq.trans (World.drewN_drewN _ _ _) (congrArg (World.drewN _) (Nat.add_assoc _ _ _))⟩); have p110 : 0 ≤ ((ji8) : Int) := of_decide_eq_true (by first | (with_reducible assumption) | assumption); have q110 : (ji8) < (l0.length : Int) := of_decide_eq_true (by first | (with_reducible assumption) | assumption); obtain ⟨ad110, e110, hx110_0, hx110_1⟩ := at_T32 HR0.out (ji8) p110 q110; obtain rfl : ad107 = ad110 := (by injection e110); have hn110_0 : ad107.block ≠ gb108 := Nat.ne_of_lt (Nat.lt_of_lt_of_le (by have := World.block_lt_of_cell? _ _ hx110_0; first | rwa [add_block] at this | exact this) GW108.out); have hn110_1 : ad107.block ≠ gb108 := Nat.ne_of_lt (Nat.lt_of_lt_of_le (by have := World.block_lt_of_cell? _ _ hx110_0; first | rwa [add_block] at this | exact this) GW108.out); replace hx110_0 := (HB.out.cell (World.block_lt_of_cell? w _ hx110_0)).trans hx110_0; replace hx110_1 := (HB.out.cell (World.block_lt_of_cell? w _ hx110_1)).trans hx110_1; replace hx110_0 := (cell_far (p := ⟨gb108, 0, none⟩) (by first | (rw [add_block]; exact hn110_0) | (show (Addr.add _ _).block ≠ _; rw [add_block]; exact hn110_0) | exact hn110_0) (.string ((rd_T32 l0 x7_1).f0))).trans hx110_0; replace hx110_1 := (cell_far (p := ⟨gb108, 0, none⟩) (by first | (rw [add_block]; exact hn110_0) | (show (Addr.add _ _).block ≠ _; rw [add_block]; exact hn110_0) | exact hn110_0) (.string ((rd_T32 l0 x7_1).f0))).trans hx110_1; replace hx110_0 := (cell_far (p := ⟨gb108, 1, none⟩) (by first | (rw [add_block]; exact hn110_1) | (show (Addr.add _ _).block ≠ _; rw [add_block]; exact hn110_1) | exact hn110_1) (.string ((rd_T32 l0 x7_1).f1))).trans hx110_0; replace hx110_1 := (cell_far (p := ⟨gb108, 1, none⟩) (by first | (rw [add_block]; exact hn110_1) | (show (Addr.add _ _).block ≠ _; rw [add_block]; exact hn110_1) | exact hn110_1) (.string ((rd_T32 l0 x7_1).f1))).trans hx110_1; (try have hy110_0 := fun (n_ : Nat) => (show ((((w14.drewN n_).setCell ⟨gb108, 0, none⟩ (.string ((rd_T32 l0 x7_1).f0))).setCell ⟨gb108, 1, none⟩ (.string ((rd_T32 l0 x7_1).f1)))).cell? _ = some _ from hx110_0)); (try have hy110_1 := fun (n_ : Nat) => (show ((((w14.drewN n_).setCell ⟨gb108, 0, none⟩ (.string ((rd_T32 l0 x7_1).f0))).setCell ⟨gb108, 1, none⟩ (.string ((rd_T32 l0 x7_1).f1)))).cell? _ = some _ from hx110_1)); clear hn110_0; clear hn110_1; replace p110 := eq_true p110; replace q110 := eq_true q110)))
                      go_ret
                      exact ⟨by first | rfl | (simp [errW_none, errW_some] <;> rfl) | (simp only [← hji8]; first | rfl | (simp [errW_none, errW_some] <;> rfl)) | (simp [*, errW_none, errW_some] <;> rfl), bel_⟩
                  · rw [if_neg c10] at H
                    exact absurd H (by simp)
                · rw [if_neg c9] at H
                  exact absurd H (by simp)
              · rw [if_neg c7] at H
                have c7b0 : decide (0 < x7_1) = false := decide_eq_false c7
                clear c7
                have H' := Aside0.mk H
                clear H
                have p107 : 0 ≤ (x7_1 : Int) := of_decide_eq_true (by first | (with_reducible assumption) | assumption)
                have q107 : x7_1 < (l0.length : Int) := of_decide_eq_true (by first | (with_reducible assumption) | assumption)
                obtain ⟨ad107, e107, hx107_0, hx107_1⟩ := at_T32 HR0.out x7_1 p107 q107
                cases e107
                replace hx107_0 := (HB.out.cell (World.block_lt_of_cell? w _ hx107_0)).trans hx107_0
                replace hx107_1 := (HB.out.cell (World.block_lt_of_cell? w _ hx107_1)).trans hx107_1
                replace p107 := eq_true p107
                replace q107 := eq_true q107
                go_wp2_with (first | ((with_reducible refine gate_dst (N := 4) rfl ?_); refine bx_ (N := 4) (cs := #[.string (⟨#[]⟩ : ByteArray), .string (⟨#[]⟩ : ByteArray)]) (t := 32) ?_; intro gb108 hg w16 hbox hb; have BK108 := Aside0.mk (hbox); have GW108 := ge_ hg; have GE108 := ge_ hg; replace HB := hb_ hb; clear hb hbox hg; obtain ⟨hcz17_0, hcz17_1⟩ := cl2_ BK108; obtain ⟨hfz17_0, hfz17_1⟩ := fz2_ BK108) | (go_at_call 13; (with_reducible refine (item_right.calls ((rd_T32 l0 x7_1).f0) ((rd_T32 l0 x7_1).f1) true _ A5.out).mono ?_); rintro e w' ⟨rfl, ⟨nd, rfl⟩⟩; (try first | exact ⟨rfl, _, World.drewN_drewN _ _ _⟩ | exact ⟨rfl, _, Eq.trans (World.drewN_drewN _ _ _) (congrArg (World.drewN _) (Nat.add_assoc _ _ _))⟩)))
                repeat (go_quiet (first | ((with_reducible refine gate_dst (N := 4) rfl ?_); refine bx_ (N := 4) (cs := #[.string (⟨#[]⟩ : ByteArray), .string (⟨#[]⟩ : ByteArray)]) (t := 32) ?_; intro gb108 hg w16 hbox hb; have n0_ := Aside0.mk (below_step bel_ hb); have n1_ := Aside0.mk (hbox); have n2_ := Aside0.mk ((by rw [hg]; exact (below_size bel_) : w.heap.size ≤ gb108)); have n3_ := Aside0.mk ((by rw [hg]; exact (below_size bel_) : w.heap.size ≤ gb108)); clear HB; have HB := n0_; have BK108 := n1_; have GW108 := n2_; have GE108 := n3_; clear n0_ n1_ n2_ n3_; clear hb hbox hg; have hcz17_0 : w16.cell? ⟨gb108, 0, none⟩ = some (.string (⟨#[]⟩ : ByteArray)) := (blk_cell BK108.out 0).trans rfl; have hcz17_1 : w16.cell? ⟨gb108, 1, none⟩ = some (.string (⟨#[]⟩ : ByteArray)) := (blk_cell BK108.out 1).trans rfl; have hfz17_0 := blk_frozen BK108.out 0; have hfz17_1 := blk_frozen BK108.out 1) | (go_at_call 13; (with_reducible refine (item_right.calls ((rd_T32 l0 x7_1).f0) ((rd_T32 l0 x7_1).f1) true _ A5.out).mono ?_); rintro e w' ⟨rfl, ⟨nd, rfl⟩⟩; (try first | exact ⟨rfl, _, World.drewN_drewN _ _ _⟩ | exact ⟨rfl, _, Eq.trans (World.drewN_drewN _ _ _) (congrArg (World.drewN _) (Nat.add_assoc _ _ _))⟩))); try go_wp2_with (first | ((with_reducible refine gate_dst (N := 4) rfl ?_); refine bx_ (N := 4) (cs := #[.string (⟨#[]⟩ : ByteArray), .string (⟨#[]⟩ : ByteArray)]) (t := 32) ?_; intro gb108 hg w16 hbox hb; have BK108 := Aside0.mk (hbox); have GW108 := ge_ hg; have GE108 := ge_ hg; replace HB := hb_ hb; clear hb hbox hg; obtain ⟨hcz17_0, hcz17_1⟩ := cl2_ BK108; obtain ⟨hfz17_0, hfz17_1⟩ := fz2_ BK108) | (go_at_call 13; (with_reducible refine (item_right.calls ((rd_T32 l0 x7_1).f0) ((rd_T32 l0 x7_1).f1) true _ A5.out).mono ?_); rintro e w' ⟨rfl, ⟨nd, rfl⟩⟩; (try first | exact ⟨rfl, _, World.drewN_drewN _ _ _⟩ | exact ⟨rfl, _, Eq.trans (World.drewN_drewN _ _ _) (congrArg (World.drewN _) (Nat.add_assoc _ _ _))⟩))))
                go_roundg k1
                case measure => have := HK1.out; omega
                case rel => exact ⟨(wrap64 (x7_1 + 1)), (by first | rfl | (simp; done) | (simp [*]; done)), H', ⟨by have := HK1.out; omega⟩, ⟨bel_⟩⟩
            · replace c6 := Bool.eq_false_iff.mpr c6
              subst c6
              have H1 : (some 4) = some r := by rw [if_neg (show ¬ (false = true) by decide)] at H; exact H
              clear H
              have H := H1
              clear H1
              obtain rfl := Option.some.inj H
              have p107 : 0 ≤ (x7_1 : Int) := of_decide_eq_true (by first | (with_reducible assumption) | assumption)
              have q107 : x7_1 < (l0.length : Int) := of_decide_eq_true (by first | (with_reducible assumption) | assumption)
              obtain ⟨ad107, e107, hx107_0, hx107_1⟩ := at_T32 HR0.out x7_1 p107 q107
              cases e107
              replace hx107_0 := (HB.out.cell (World.block_lt_of_cell? w _ hx107_0)).trans hx107_0
              replace hx107_1 := (HB.out.cell (World.block_lt_of_cell? w _ hx107_1)).trans hx107_1
              replace p107 := eq_true p107
              replace q107 := eq_true q107
              go_wp2_with (first | ((with_reducible refine gate_dst (N := 4) rfl ?_); refine bx_ (N := 4) (cs := #[.string (⟨#[]⟩ : ByteArray), .string (⟨#[]⟩ : ByteArray)]) (t := 32) ?_; intro gb108 hg w18 hbox hb; have BK108 := Aside0.mk (hbox); have GW108 := ge_ hg; have GE108 := ge_ hg; replace HB := hb_ hb; clear hb hbox hg; obtain ⟨hcz19_0, hcz19_1⟩ := cl2_ BK108; obtain ⟨hfz19_0, hfz19_1⟩ := fz2_ BK108) | (go_at_call 13; (with_reducible refine (item_right.calls ((rd_T32 l0 x7_1).f0) ((rd_T32 l0 x7_1).f1) false _ A5.out).mono ?_); rintro e w' ⟨rfl, ⟨nd, rfl⟩⟩; (try first | exact ⟨rfl, _, World.drewN_drewN _ _ _⟩ | exact ⟨rfl, _, Eq.trans (World.drewN_drewN _ _ _) (congrArg (World.drewN _) (Nat.add_assoc _ _ _))⟩)))
              repeat (go_quiet (first | ((with_reducible refine gate_dst (N := 4) rfl ?_); refine bx_ (N := 4) (cs := #[.string (⟨#[]⟩ : ByteArray), .string (⟨#[]⟩ : ByteArray)]) (t := 32) ?_; intro gb108 hg w18 hbox hb; have n0_ := Aside0.mk (below_step bel_ hb); have n1_ := Aside0.mk (hbox); have n2_ := Aside0.mk ((by rw [hg]; exact (below_size bel_) : w.heap.size ≤ gb108)); have n3_ := Aside0.mk ((by rw [hg]; exact (below_size bel_) : w.heap.size ≤ gb108)); clear HB; have HB := n0_; have BK108 := n1_; have GW108 := n2_; have GE108 := n3_; clear n0_ n1_ n2_ n3_; clear hb hbox hg; have hcz19_0 : w18.cell? ⟨gb108, 0, none⟩ = some (.string (⟨#[]⟩ : ByteArray)) := (blk_cell BK108.out 0).trans rfl; have hcz19_1 : w18.cell? ⟨gb108, 1, none⟩ = some (.string (⟨#[]⟩ : ByteArray)) := (blk_cell BK108.out 1).trans rfl; have hfz19_0 := blk_frozen BK108.out 0; have hfz19_1 := blk_frozen BK108.out 1) | (go_at_call 13; (with_reducible refine (item_right.calls ((rd_T32 l0 x7_1).f0) ((rd_T32 l0 x7_1).f1) false _ A5.out).mono ?_); rintro e w' ⟨rfl, ⟨nd, rfl⟩⟩; (try first | exact ⟨rfl, _, World.drewN_drewN _ _ _⟩ | exact ⟨rfl, _, Eq.trans (World.drewN_drewN _ _ _) (congrArg (World.drewN _) (Nat.add_assoc _ _ _))⟩))); try go_wp2_with (first | ((with_reducible refine gate_dst (N := 4) rfl ?_); refine bx_ (N := 4) (cs := #[.string (⟨#[]⟩ : ByteArray), .string (⟨#[]⟩ : ByteArray)]) (t := 32) ?_; intro gb108 hg w18 hbox hb; have BK108 := Aside0.mk (hbox); have GW108 := ge_ hg; have GE108 := ge_ hg; replace HB := hb_ hb; clear hb hbox hg; obtain ⟨hcz19_0, hcz19_1⟩ := cl2_ BK108; obtain ⟨hfz19_0, hfz19_1⟩ := fz2_ BK108) | (go_at_call 13; (with_reducible refine (item_right.calls ((rd_T32 l0 x7_1).f0) ((rd_T32 l0 x7_1).f1) false _ A5.out).mono ?_); rintro e w' ⟨rfl, ⟨nd, rfl⟩⟩; (try first | exact ⟨rfl, _, World.drewN_drewN _ _ _⟩ | exact ⟨rfl, _, Eq.trans (World.drewN_drewN _ _ _) (congrArg (World.drewN _) (Nat.add_assoc _ _ _))⟩))))
              go_ret
              exact ⟨by first | rfl | (simp [errW_none, errW_some] <;> rfl) | (simp [*, errW_none, errW_some] <;> rfl), bel_⟩
          · rw [if_neg c4] at H
            exact absurd H (by simp)
        · rw [if_neg c3] at H
          exact absurd H (by simp)
      · rw [if_neg c2] at H
        have c2b0 : decide (x7_1 < (l0.length : Int)) = false := decide_eq_false c2
        clear c2
        obtain rfl := Option.some.inj H
        go_wp2
        repeat (go_quiet (fail); try go_wp2)
        go_ret
        exact ⟨by first | rfl | (simp [errW_none, errW_some] <;> rfl) | (simp [*, errW_none, errW_some] <;> rfl), bel_⟩

end Go.Proofs.YthbljhmjppjcjaaDoor.Z
end

section
-- Printed by a program of this session (mp.py) out of the translation.
namespace Go.Proofs.YthbljhmjppjcjaaDoor.Z
open Go.RowKit Go.Proofs.YthbljhmjppjcjaaDoorW.PrintWords Go.Proofs.YthbljhmjppjcjaaDoorW.PrintLast Go.Proofs.YthbljhmjppjcjaaDoorW.PrintMore
attribute [local go_sem] max2_int min2_int max_two min_two max_three min_three max_four min_four   -- for this text's walks alone
set_option linter.unusedVariables false
set_option linter.unusedSimpArgs false

/-! ### cmp_isNaN_string: function 53 -/
def cmp_isNaN_string.f (a0 : ByteArray) : Option (Bool) := some (a0.toList != a0.toList)
set_option maxHeartbeats 8000000 in
set_option maxRecDepth 100000 in
theorem cmp_isNaN_string.calls (a0 : ByteArray) (r : Bool) (w : World) (h : cmp_isNaN_string.f a0 = some r) :
    Calls Tryd.prog 53 #[.string a0] w fun e w' => e = .returned (.bool r) ∧ Drawn0 w w' := by
  have H : (some (a0.toList != a0.toList)) = some r := h
  clear h
  obtain rfl := Option.some.inj H
  go_enter Tryd.func53, Tryd.ntmps53
  go_wp2
  go_ret
  exact ⟨by first | rfl | (simp; done) | (simp [*]; done), by repeat (first | exact Drawn0.refl _ | apply Drawn0.step)⟩

end Go.Proofs.YthbljhmjppjcjaaDoor.Z
end

section
-- Printed by a program of this session (mp.py) out of the translation.
namespace Go.Proofs.YthbljhmjppjcjaaDoor.Z
open Go.RowKit Go.Proofs.YthbljhmjppjcjaaDoorW.PrintWords Go.Proofs.YthbljhmjppjcjaaDoorW.PrintLast Go.Proofs.YthbljhmjppjcjaaDoorW.PrintMore
attribute [local go_sem] max2_int min2_int max_two min_two max_three min_three max_four min_four   -- for this text's walks alone
set_option linter.unusedVariables false
set_option linter.unusedSimpArgs false

/-! ### cmp_Compare_string: function 37 -/
def cmp_Compare_string.f (a0 : ByteArray) (a1 : ByteArray) : Option (Int) := (cmp_isNaN_string.f a0).bind fun t137 => ((cmp_isNaN_string.f a1).bind fun t138 => (if t137 = true then (if t138 = true then (some 0) else (some (-1))) else (if t138 = true then (some 1) else (if (Op.bytesLess a0.toList a1.toList) = true then (some (-1)) else (if (Op.bytesLess a1.toList a0.toList) = true then (some 1) else (some 0))))))
set_option maxHeartbeats 8000000 in
set_option maxRecDepth 100000 in
theorem cmp_Compare_string.calls (a0 : ByteArray) (a1 : ByteArray) (r : Int) (w : World) (h : cmp_Compare_string.f a0 a1 = some r) :
    Calls Tryd.prog 37 #[.string a0, .string a1] w fun e w' => e = .returned (.int .i64 r) ∧ Drawn0 w w' := by
  have H : ((cmp_isNaN_string.f a0).bind fun t137 => ((cmp_isNaN_string.f a1).bind fun t138 => (if t137 = true then (if t138 = true then (some 0) else (some (-1))) else (if t138 = true then (some 1) else (if (Op.bytesLess a0.toList a1.toList) = true then (some (-1)) else (if (Op.bytesLess a1.toList a0.toList) = true then (some 1) else (some 0))))))) = some r := h
  clear h
  replace H := Option.bind_eq_some_iff.mp H
  obtain ⟨t137, A30, H⟩ := H
  replace H : ((cmp_isNaN_string.f a1).bind fun t138 => (if t137 = true then (if t138 = true then (some 0) else (some (-1))) else (if t138 = true then (some 1) else (if (Op.bytesLess a0.toList a1.toList) = true then (some (-1)) else (if (Op.bytesLess a1.toList a0.toList) = true then (some 1) else (some 0)))))) = some r := H
  have A3 := Aside0.mk A30
  clear A30
  replace H := Option.bind_eq_some_iff.mp H
  obtain ⟨t138, A40, H⟩ := H
  replace H : (if t137 = true then (if t138 = true then (some 0) else (some (-1))) else (if t138 = true then (some 1) else (if (Op.bytesLess a0.toList a1.toList) = true then (some (-1)) else (if (Op.bytesLess a1.toList a0.toList) = true then (some 1) else (some 0))))) = some r := H
  have A4 := Aside0.mk A40
  clear A40
  by_cases c5 : t137 = true
  · subst c5
    have H1 : (if t138 = true then (some 0) else (some (-1))) = some r := by rw [if_pos rfl] at H; exact H
    clear H
    have H := H1
    clear H1
    by_cases c6 : t138 = true
    · subst c6
      have H1 : (some 0) = some r := by rw [if_pos rfl] at H; exact H
      clear H
      have H := H1
      clear H1
      obtain rfl := Option.some.inj H
      go_enter Tryd.func37, Tryd.ntmps37
      go_wp2_with (first | ((with_reducible refine gate_callee (f := 53) rfl ?_); refine gl_ (some 8) Tryd.func53 #[.string a0] ?_; (with_reducible refine (cmp_isNaN_string.calls a0 true _ A3.out).mono ?_); rintro e w' ⟨rfl, ⟨nd, rfl⟩⟩; refine ⟨_, rfl, ?_⟩) | ((with_reducible refine gate_callee (f := 53) rfl ?_); refine gl_ (some 10) Tryd.func53 #[.string a1] ?_; (with_reducible refine (cmp_isNaN_string.calls a1 true _ A4.out).mono ?_); rintro e w' ⟨rfl, ⟨nd, rfl⟩⟩; refine ⟨_, rfl, ?_⟩))
      go_ret
      exact ⟨by first | rfl | (simp; done) | (simp [*]; done), by repeat (first | exact Drawn0.refl _ | apply Drawn0.step)⟩
    · replace c6 := Bool.eq_false_iff.mpr c6
      subst c6
      have H1 : (some (-1)) = some r := by rw [if_neg (show ¬ (false = true) by decide)] at H; exact H
      clear H
      have H := H1
      clear H1
      obtain rfl := Option.some.inj H
      go_enter Tryd.func37, Tryd.ntmps37
      go_wp2_with (first | ((with_reducible refine gate_callee (f := 53) rfl ?_); refine gl_ (some 8) Tryd.func53 #[.string a0] ?_; (with_reducible refine (cmp_isNaN_string.calls a0 true _ A3.out).mono ?_); rintro e w' ⟨rfl, ⟨nd, rfl⟩⟩; refine ⟨_, rfl, ?_⟩) | ((with_reducible refine gate_callee (f := 53) rfl ?_); refine gl_ (some 10) Tryd.func53 #[.string a1] ?_; (with_reducible refine (cmp_isNaN_string.calls a1 false _ A4.out).mono ?_); rintro e w' ⟨rfl, ⟨nd, rfl⟩⟩; refine ⟨_, rfl, ?_⟩))
      go_ret
      exact ⟨by first | rfl | (simp; done) | (simp [*]; done), by repeat (first | exact Drawn0.refl _ | apply Drawn0.step)⟩
  · replace c5 := Bool.eq_false_iff.mpr c5
    subst c5
    have H1 : (if t138 = true then (some 1) else (if (Op.bytesLess a0.toList a1.toList) = true then (some (-1)) else (if (Op.bytesLess a1.toList a0.toList) = true then (some 1) else (some 0)))) = some r := by rw [if_neg (show ¬ (false = true) by decide)] at H; exact H
    clear H
    have H := H1
    clear H1
    by_cases c7 : t138 = true
    · subst c7
      have H1 : (some 1) = some r := by rw [if_pos rfl] at H; exact H
      clear H
      have H := H1
      clear H1
      obtain rfl := Option.some.inj H
      go_enter Tryd.func37, Tryd.ntmps37
      go_wp2_with (first | ((with_reducible refine gate_callee (f := 53) rfl ?_); refine gl_ (some 8) Tryd.func53 #[.string a0] ?_; (with_reducible refine (cmp_isNaN_string.calls a0 false _ A3.out).mono ?_); rintro e w' ⟨rfl, ⟨nd, rfl⟩⟩; refine ⟨_, rfl, ?_⟩) | ((with_reducible refine gate_callee (f := 53) rfl ?_); refine gl_ (some 10) Tryd.func53 #[.string a1] ?_; (with_reducible refine (cmp_isNaN_string.calls a1 true _ A4.out).mono ?_); rintro e w' ⟨rfl, ⟨nd, rfl⟩⟩; refine ⟨_, rfl, ?_⟩))
      go_ret
      exact ⟨by first | rfl | (simp; done) | (simp [*]; done), by repeat (first | exact Drawn0.refl _ | apply Drawn0.step)⟩
    · replace c7 := Bool.eq_false_iff.mpr c7
      subst c7
      have H1 : (if (Op.bytesLess a0.toList a1.toList) = true then (some (-1)) else (if (Op.bytesLess a1.toList a0.toList) = true then (some 1) else (some 0))) = some r := by rw [if_neg (show ¬ (false = true) by decide)] at H; exact H
      clear H
      have H := H1
      clear H1
      by_cases c8 : (Op.bytesLess a0.toList a1.toList) = true
      · rw [if_pos c8] at H
        have c8b0 : (Op.bytesLess a0.toList a1.toList) = true := c8
        clear c8
        obtain rfl := Option.some.inj H
        go_enter Tryd.func37, Tryd.ntmps37
        go_wp2_with (first | ((with_reducible refine gate_callee (f := 53) rfl ?_); refine gl_ (some 8) Tryd.func53 #[.string a0] ?_; (with_reducible refine (cmp_isNaN_string.calls a0 false _ A3.out).mono ?_); rintro e w' ⟨rfl, ⟨nd, rfl⟩⟩; refine ⟨_, rfl, ?_⟩) | ((with_reducible refine gate_callee (f := 53) rfl ?_); refine gl_ (some 10) Tryd.func53 #[.string a1] ?_; (with_reducible refine (cmp_isNaN_string.calls a1 false _ A4.out).mono ?_); rintro e w' ⟨rfl, ⟨nd, rfl⟩⟩; refine ⟨_, rfl, ?_⟩))
        go_ret
        exact ⟨by first | rfl | (simp; done) | (simp [*]; done), by repeat (first | exact Drawn0.refl _ | apply Drawn0.step)⟩
      · rw [if_neg c8] at H
        have c8b0 : (Op.bytesLess a0.toList a1.toList) = false := by simpa using c8
        clear c8
        by_cases c9 : (Op.bytesLess a1.toList a0.toList) = true
        · rw [if_pos c9] at H
          have c9b0 : (Op.bytesLess a1.toList a0.toList) = true := c9
          clear c9
          obtain rfl := Option.some.inj H
          go_enter Tryd.func37, Tryd.ntmps37
          go_wp2_with (first | ((with_reducible refine gate_callee (f := 53) rfl ?_); refine gl_ (some 8) Tryd.func53 #[.string a0] ?_; (with_reducible refine (cmp_isNaN_string.calls a0 false _ A3.out).mono ?_); rintro e w' ⟨rfl, ⟨nd, rfl⟩⟩; refine ⟨_, rfl, ?_⟩) | ((with_reducible refine gate_callee (f := 53) rfl ?_); refine gl_ (some 10) Tryd.func53 #[.string a1] ?_; (with_reducible refine (cmp_isNaN_string.calls a1 false _ A4.out).mono ?_); rintro e w' ⟨rfl, ⟨nd, rfl⟩⟩; refine ⟨_, rfl, ?_⟩))
          go_ret
          exact ⟨by first | rfl | (simp; done) | (simp [*]; done), by repeat (first | exact Drawn0.refl _ | apply Drawn0.step)⟩
        · rw [if_neg c9] at H
          have c9b0 : (Op.bytesLess a1.toList a0.toList) = false := by simpa using c9
          clear c9
          obtain rfl := Option.some.inj H
          go_enter Tryd.func37, Tryd.ntmps37
          go_wp2_with (first | ((with_reducible refine gate_callee (f := 53) rfl ?_); refine gl_ (some 8) Tryd.func53 #[.string a0] ?_; (with_reducible refine (cmp_isNaN_string.calls a0 false _ A3.out).mono ?_); rintro e w' ⟨rfl, ⟨nd, rfl⟩⟩; refine ⟨_, rfl, ?_⟩) | ((with_reducible refine gate_callee (f := 53) rfl ?_); refine gl_ (some 10) Tryd.func53 #[.string a1] ?_; (with_reducible refine (cmp_isNaN_string.calls a1 false _ A4.out).mono ?_); rintro e w' ⟨rfl, ⟨nd, rfl⟩⟩; refine ⟨_, rfl, ?_⟩))
          go_ret
          exact ⟨by first | rfl | (simp; done) | (simp [*]; done), by repeat (first | exact Drawn0.refl _ | apply Drawn0.step)⟩

end Go.Proofs.YthbljhmjppjcjaaDoor.Z
end

section
-- Printed by a program of this session (mp.py) out of the translation.
namespace Go.Proofs.YthbljhmjppjcjaaDoor.Z
open Go.RowKit Go.Proofs.YthbljhmjppjcjaaDoorW.PrintWords Go.Proofs.YthbljhmjppjcjaaDoorW.PrintLast Go.Proofs.YthbljhmjppjcjaaDoorW.PrintMore
attribute [local go_sem] max2_int min2_int max_two min_two max_three min_three max_four min_four   -- for this text's walks alone
set_option linter.unusedVariables false
set_option linter.unusedSimpArgs false

/-! ### item_place_1: function 36 -/
def item_place_1.f (a0_0 : ByteArray) (a0_1 : ByteArray) (a1 : ByteArray) : Option (Int) := (cmp_Compare_string.f a0_0 a1).bind fun t140 => (some t140)
set_option maxHeartbeats 8000000 in
set_option maxRecDepth 100000 in
theorem item_place_1.calls (a0_0 : ByteArray) (a0_1 : ByteArray) (a1 : ByteArray) (r : Int) (w : World) (h : item_place_1.f a0_0 a0_1 a1 = some r) :
    Calls Tryd.prog 36 #[.agg #[.string a0_0, .string a0_1], .string a1] w fun e w' => e = .returned (.int .i64 r) ∧ Below w.heap.size w w' := by
  have hu32 := Tryd.underlying32
  have HB := Aside0.mk (Below.refl w.heap.size w)
  have H : ((cmp_Compare_string.f a0_0 a1).bind fun t140 => (some t140)) = some r := h
  clear h
  replace H := Option.bind_eq_some_iff.mp H
  obtain ⟨t140, A30, H⟩ := H
  replace H : (some t140) = some r := H
  have A3 := Aside0.mk A30
  clear A30
  obtain rfl := Option.some.inj H
  go_enter Tryd.func36, Tryd.ntmps36
  go_wp2_with (first | ((with_reducible refine gate_dst (N := 2) rfl ?_); refine bx_ (N := 2) (cs := #[.string a0_0, .string a0_1]) (t := 32) ?_; intro gb139 hg w4 hbox hb; have BK139 := Aside0.mk (hbox); have GW139 := ge_ hg; have GE139 := ge_ hg; replace HB := hb_ hb; clear hb hbox hg; obtain ⟨hcz5_0, hcz5_1⟩ := cl2_ BK139; obtain ⟨hfz5_0, hfz5_1⟩ := fz2_ BK139) | ((with_reducible refine gate_callee (f := 37) rfl ?_); refine gl_ (some 8) Tryd.func37 #[.string a0_0, .string a1] ?_; (with_reducible refine (cmp_Compare_string.calls a0_0 a1 t140 _ A3.out).mono ?_); rintro e w' ⟨rfl, ⟨nd, rfl⟩⟩; refine ⟨_, rfl, ?_⟩))
  go_ret
  exact ⟨by first | rfl | (simp [errW_none, errW_some] <;> rfl) | (simp [*, errW_none, errW_some] <;> rfl), bel_⟩

end Go.Proofs.YthbljhmjppjcjaaDoor.Z
end

section
/- Small lemmas that the printed texts and the hand contracts share. -/
namespace Go.Proofs.YthbljhmjppjcjaaDoor.Z
open Go.RowKit Go.Proofs.YthbljhmjppjcjaaDoorW.PrintWords Go.Proofs.YthbljhmjppjcjaaDoorW.PrintLast
/-- A body that lies in a scope and makes no jump. -/
theorem wp_scope_post {P : Program} {fn : Func} {R : Ending → World → Prop} {c : Code} {a : Act} {w : World} (h : c.wp P (bodyPost P fn R) a w) : (Code.scope c).wp P (bodyPost P fn R) a w := by
  refine wp_scope_straight ?_
  intro b k cs
  obtain ⟨e, a', w', hq, harr⟩ := h b k cs
  refine ⟨e, a', w', ?_, harr⟩
  cases e <;> first | exact hq | exact hq.elim
/-- A call of what a place holds: a plain function. -/
theorem gate_dyn {P : Program} {ops : Array Oper} {rest : List Oper} {o : Oper} {a : Act} {Q : Exit → Act → World → Prop} {W : World} {t : Tmp} {xs : Array Operand} {ts : Array TypeId}
    (_ho : o.op = .call { callee := .value (.tmp t), args := xs, argTypes := ts }) (h : wpList P ops Q (o :: rest) a W) : wpList P ops Q (o :: rest) a W := h
theorem goesD_ {P : Program} {ops : Array Oper} {Q : Exit → Act → World → Prop} {rest : List Oper} {oi : Oper} {a : Act} {w : World} (N : Option Tmp) (hd : oi.dst = N) (hg : oi.guard = none) {f : FuncId} {fn : Func} {x : Operand} {xs : Array Operand} {ts : Array TypeId} (hf : P.funcs[f]? = some fn) (hname : (fn.name == "runtime.NumGoroutine") = false) (hb : fn.body.isSome = true) (args : Array Value)
    (hop : oi.op = .call { callee := .value x, args := xs, argTypes := ts }) (hx : a.eval x = .func (.func f) #[] #[]) (hargs : xs.map a.eval = args)
    (h : Calls P f args w fun e w' => ∃ v, e = .returned v ∧ wpList P ops Q rest (a.put N v) w') : wpList P ops Q (oi :: rest) a w := by
  refine wpList_plain hg fun K hK => ?_
  have he := enters_ hf hname hb args w
  have hrun : (execOp a.eval oi).run P w = .ok (.enter f args) w := by
    unfold execOp
    simp [hop, resolve, Deferred.ofValue, invoke, hx, hargs, he]
  unfold Oper.wp
  rw [hrun, Oper.upon_enter]
  refine h.mono fun e w'' hh => ?_
  obtain ⟨v, rfl, hk⟩ := hh
  subst hd
  exact hK _ _ hk
/-- Where a slice's cells lie, plainly. -/
theorem addr_plain {w : World} {ad : Addr} {i : Nat} {v : Value} (h : w.cell? (ad.add i) = some v) (h0 : i = 0) : ad = ⟨ad.block, ad.off, none⟩ ∧ ad.block < w.heap.size := by
  subst h0
  rw [show ad.add 0 = ad from rfl] at h
  obtain ⟨b, o, s⟩ := ad
  cases s with
  | none => exact ⟨rfl, World.block_lt_of_cell? w _ h⟩
  | some s => simp only [World.cell?] at h; split at h <;> simp at h
theorem C_strings {w : World} {A : Option Addr} {n : Nat} {l : List ByteArray} (h : Kd.C Kd.string w A n l) (hn : 0 < n) :
    ∃ b o, A = some ⟨b, o, none⟩ ∧ b < w.heap.size ∧ ∀ j x, l[j]? = some x → w.cell? ⟨b, o + j, none⟩ = some (.string x) := by
  obtain ⟨hl, _, hc0⟩ := h
  obtain ⟨ad, rfl, hc⟩ := hc0 hn

  have hcell : ∀ j x, l[j]? = some x → w.cell? (ad.add j) = some (.string x) := by
    intro j x hx
    obtain ⟨c, hs, hr, hcell⟩ := hc j x hx
    have hr' : c = [.string x] := hr
    subst hr'
    have := hcell 0 _ rfl
    simpa [show (Kd.string).sz = 1 from rfl] using this
  obtain ⟨x0, hx0⟩ : ∃ x, l[0]? = some x := ⟨l[0]'(by omega), List.getElem?_eq_getElem (by omega)⟩
  obtain ⟨hp, hlt⟩ := addr_plain (hcell 0 x0 hx0) rfl
  refine ⟨ad.block, ad.off, by rw [← hp], hlt, fun j x hx => ?_⟩
  have := hcell j x hx
  rw [hp, add_at] at this
  exact this
end Go.Proofs.YthbljhmjppjcjaaDoor.Z
end

section
-- Printed by a program of this session (mp.py) out of the translation.
namespace Go.Proofs.YthbljhmjppjcjaaDoor.Z
open Go.RowKit Go.Proofs.YthbljhmjppjcjaaDoorW.PrintWords Go.Proofs.YthbljhmjppjcjaaDoorW.PrintLast Go.Proofs.YthbljhmjppjcjaaDoorW.PrintMore
attribute [local go_sem] max2_int min2_int max_two min_two max_three min_three max_four min_four   -- for this text's walks alone
set_option linter.unusedVariables false
set_option linter.unusedSimpArgs false

/-! ### slices_BinarySearchFunc_api_Item_api_Item_string_fn36: function 35 -/
def slices_BinarySearchFunc_api_Item_api_Item_string_fn36.l0 : Nat → List (S32) → ByteArray → Int → Int → Int → Option (Int × Bool)
  | 0, _, _, _, _, _ => none
  | k + 1, x0, x1, x8, x9, x10 => if x9 < x10 then (if 0 ≤ (wrap64 ((IntKind.u64.wrap (wrap64 (x9 + x10))) / 2)) then (if (wrap64 ((IntKind.u64.wrap (wrap64 (x9 + x10))) / 2)) < (x0.length : Int) then ((item_place_1.f ((rd_T32 x0 (wrap64 ((IntKind.u64.wrap (wrap64 (x9 + x10))) / 2))).f0) ((rd_T32 x0 (wrap64 ((IntKind.u64.wrap (wrap64 (x9 + x10))) / 2))).f1) x1).bind fun t142 => (if t142 < 0 then (slices_BinarySearchFunc_api_Item_api_Item_string_fn36.l0 k x0 x1 x8 (wrap64 ((wrap64 ((IntKind.u64.wrap (wrap64 (x9 + x10))) / 2)) + 1)) x10) else (slices_BinarySearchFunc_api_Item_api_Item_string_fn36.l0 k x0 x1 x8 x9 (wrap64 ((IntKind.u64.wrap (wrap64 (x9 + x10))) / 2))))) else (none)) else (none)) else (if x9 < x8 then (if 0 ≤ x9 then (if x9 < (x0.length : Int) then ((item_place_1.f ((rd_T32 x0 x9).f0) ((rd_T32 x0 x9).f1) x1).bind fun t144 => (some (x9, (t144 == 0)))) else (none)) else (none)) else (some (x9, false)))
def slices_BinarySearchFunc_api_Item_api_Item_string_fn36.f (k : Nat) (l0 : List (S32)) (a1 : ByteArray)  : Option (Int × Bool) := slices_BinarySearchFunc_api_Item_api_Item_string_fn36.l0 k l0 a1 (l0.length : Int) 0 (l0.length : Int)
theorem slices_BinarySearchFunc_api_Item_api_Item_string_fn36.mono_l : ∀ k, (∀ y0 y1 y2 y3 y4, LeO (slices_BinarySearchFunc_api_Item_api_Item_string_fn36.l0 k y0 y1 y2 y3 y4) (slices_BinarySearchFunc_api_Item_api_Item_string_fn36.l0 (k + 1) y0 y1 y2 y3 y4))
  | 0 => fun _ _ _ _ _ r h => by simp [slices_BinarySearchFunc_api_Item_api_Item_string_fn36.l0] at h
  | k + 1 => by
    have ih0 := slices_BinarySearchFunc_api_Item_api_Item_string_fn36.mono_l k
    · intro y0 y1 y2 y3 y4
      unfold slices_BinarySearchFunc_api_Item_api_Item_string_fn36.l0
      repeat' first
      | (with_reducible exact ih0 _ _ _ _ _)
      | (with_reducible exact LeO.refl _)
      | (with_reducible exact LeO.none _)
      | (with_reducible refine LeO.ite ?_ ?_)
      | (with_reducible refine LeO.bind ?_ (fun _ => ?_))
      | exact ih0 _ _ _ _ _
      | exact LeO.none _
      | refine LeO.ite ?_ ?_
      | refine LeO.bind ?_ (fun _ => ?_)
theorem slices_BinarySearchFunc_api_Item_api_Item_string_fn36.mono : ∀ a0 a1 k, LeO (slices_BinarySearchFunc_api_Item_api_Item_string_fn36.f k a0 a1) (slices_BinarySearchFunc_api_Item_api_Item_string_fn36.f (k + 1) a0 a1) := by
  intro a0 a1 k
  have ih0 := slices_BinarySearchFunc_api_Item_api_Item_string_fn36.mono_l k
  unfold slices_BinarySearchFunc_api_Item_api_Item_string_fn36.f
  repeat' first
      | (with_reducible exact ih0 _ _ _ _ _)
      | (with_reducible exact LeO.refl _)
      | (with_reducible exact LeO.none _)
      | (with_reducible refine LeO.ite ?_ ?_)
      | (with_reducible refine LeO.bind ?_ (fun _ => ?_))
      | exact ih0 _ _ _ _ _
      | exact LeO.none _
      | refine LeO.ite ?_ ?_
      | refine LeO.bind ?_ (fun _ => ?_)
set_option maxHeartbeats 8000000 in
set_option maxRecDepth 100000 in
theorem slices_BinarySearchFunc_api_Item_api_Item_string_fn36.calls (k : Nat) (A0 : Option Addr) (c0 : Nat) (l0 : List (S32)) (a1 : ByteArray)  (r1 : Int) (r2 : Bool) (w : World) (hr0 : Kd.C k32 w A0 l0.length l0) (hc0 : l0.length ≤ c0) (h : slices_BinarySearchFunc_api_Item_api_Item_string_fn36.f k l0 a1 = some (r1, r2)) :
    Calls Tryd.prog 35 #[.slice A0 l0.length c0, .string a1, .func (.func 36) #[] #[]] w fun e w' => e = .returned (.tuple #[.int .i64 r1, .bool r2]) ∧ Below w.heap.size w w' := by
  have hu32 := Tryd.underlying32
  have HR0 := Aside0.mk hr0
  have HC0 := Aside0.mk hc0
  clear hr0 hc0
  have HB := Aside0.mk (Below.refl w.heap.size w)
  have H : (slices_BinarySearchFunc_api_Item_api_Item_string_fn36.l0 k l0 a1 (l0.length : Int) 0 (l0.length : Int)) = some (r1, r2) := h
  clear h
  have H' := Aside0.mk H
  clear H
  go_enter Tryd.func35, Tryd.ntmps35
  go_wp2
  go_loopg [9, 10] k (fun kq v9 v10 w' => ∃ (x9_1 : Int) (x10_1 : Int), v9 = .int .i64 x9_1 ∧ v10 = .int .i64 x10_1 ∧ Aside0 (slices_BinarySearchFunc_api_Item_api_Item_string_fn36.l0 kq l0 a1 (l0.length : Int) x9_1 x10_1 = some (r1, r2)) ∧ Aside0 (kq ≤ k) ∧ Aside0 (Below w.heap.size w w'))
  case atStart => exact ⟨(0), ((l0.length : Int)), (by first | rfl | (simp; done) | (simp [*]; done)), (by first | rfl | (simp; done) | (simp [*]; done)), H', ⟨Nat.le_refl _⟩, ⟨bel_⟩⟩
  case round =>
    clear H'
    try clear p2
    obtain ⟨x9_1, x10_1, rfl, rfl, HA, HK1, HB⟩ := hrel
    cases gk with
    | zero => exact absurd HA.out (by simp [slices_BinarySearchFunc_api_Item_api_Item_string_fn36.l0])
    | succ k1 =>
      have H := HA.out
      clear HA
      simp only [slices_BinarySearchFunc_api_Item_api_Item_string_fn36.l0] at H
      by_cases c4 : x9_1 < x10_1
      · rw [if_pos c4] at H
        have c4b0 : decide (x9_1 < x10_1) = true := decide_eq_true c4
        clear c4
        obtain ⟨ji5, hji5⟩ : ∃ j_ : Int, (wrap64 ((IntKind.u64.wrap (wrap64 (x9_1 + x10_1))) / 2)) = j_ := ⟨_, rfl⟩
        replace H : (if 0 ≤ (ji5) then (if (ji5) < (l0.length : Int) then ((item_place_1.f ((rd_T32 l0 (ji5)).f0) ((rd_T32 l0 (ji5)).f1) a1).bind fun t142 => (if t142 < 0 then (slices_BinarySearchFunc_api_Item_api_Item_string_fn36.l0 k1 l0 a1 (l0.length : Int) (wrap64 ((ji5) + 1)) x10_1) else (slices_BinarySearchFunc_api_Item_api_Item_string_fn36.l0 k1 l0 a1 (l0.length : Int) x9_1 ji5))) else (none)) else (none)) = some (r1, r2) := by first | (rw [hji5] at H; exact H) | (simp only [hji5] at H ⊢; exact H)
        have hji5w : (IntKind.i64.wrap ((IntKind.u64.wrap (wrap64 (x9_1 + x10_1))) / 2)) = ji5 := (i64_w _).trans hji5
        by_cases c6 : 0 ≤ (ji5)
        · rw [if_pos c6] at H
          have c6b0 : decide (0 ≤ (ji5)) = true := decide_eq_true c6
          clear c6
          by_cases c7 : (ji5) < (l0.length : Int)
          · rw [if_pos c7] at H
            have c7b0 : decide ((ji5) < (l0.length : Int)) = true := decide_eq_true c7
            clear c7
            replace H := Option.bind_eq_some_iff.mp H
            obtain ⟨t142, A80, H⟩ := H
            replace H : (if t142 < 0 then (slices_BinarySearchFunc_api_Item_api_Item_string_fn36.l0 k1 l0 a1 (l0.length : Int) (wrap64 ((ji5) + 1)) x10_1) else (slices_BinarySearchFunc_api_Item_api_Item_string_fn36.l0 k1 l0 a1 (l0.length : Int) x9_1 ji5)) = some (r1, r2) := H
            have A8 := Aside0.mk A80
            clear A80
            by_cases c9 : t142 < 0
            · rw [if_pos c9] at H
              have c9b0 : decide (t142 < 0) = true := decide_eq_true c9
              clear c9
              have H' := Aside0.mk H
              clear H
              have p141 : 0 ≤ ((ji5) : Int) := of_decide_eq_true (by first | (with_reducible assumption) | assumption)
              have q141 : (ji5) < (l0.length : Int) := of_decide_eq_true (by first | (with_reducible assumption) | assumption)
              obtain ⟨ad141, e141, hx141_0, hx141_1⟩ := at_T32 HR0.out (ji5) p141 q141
              cases e141
              replace hx141_0 := (HB.out.cell (World.block_lt_of_cell? w _ hx141_0)).trans hx141_0
              replace hx141_1 := (HB.out.cell (World.block_lt_of_cell? w _ hx141_1)).trans hx141_1
              replace p141 := eq_true p141
              replace q141 := eq_true q141
              go_wp2_with (first | ((with_reducible refine gate_dyn rfl ?_); refine goesD_ (some 30) rfl rfl Tryd.func36 (by kernel_rfl) rfl #[.agg #[.string ((rd_T32 l0 (ji5)).f0), .string ((rd_T32 l0 (ji5)).f1)], .string a1] rfl rfl (by (try simp only [List.map_toArray, List.map_cons, List.map_nil]); first | done | (simp only [hji5]; rfl) | rfl | (simp only [List.length_drop, List.length_take]; rfl)) ?_; (with_reducible refine (item_place_1.calls ((rd_T32 l0 (ji5)).f0) ((rd_T32 l0 (ji5)).f1) a1 t142 _ A8.out).mono ?_); rintro e w10 ⟨rfl, hb⟩; refine ⟨_, rfl, ?_⟩; replace HB := hb_ hb; (try clear hb); (try clear hb2); (try clear hk); (try clear hi)))
              go_roundg k1
              case measure => have := HK1.out; omega
              case rel => exact ⟨(wrap64 ((ji5) + 1)), (x10_1), (by first | rfl | (simp; done) | (simp only [← hji5] <;> (first | rfl | simp)) | (simp [*]; done)), (by first | rfl | (simp; done) | (simp [*]; done)), H', ⟨by have := HK1.out; omega⟩, ⟨bel_⟩⟩
            · rw [if_neg c9] at H
              have c9b0 : decide (t142 < 0) = false := decide_eq_false c9
              clear c9
              have H' := Aside0.mk H
              clear H
              have p141 : 0 ≤ ((ji5) : Int) := of_decide_eq_true (by first | (with_reducible assumption) | assumption)
              have q141 : (ji5) < (l0.length : Int) := of_decide_eq_true (by first | (with_reducible assumption) | assumption)
              obtain ⟨ad141, e141, hx141_0, hx141_1⟩ := at_T32 HR0.out (ji5) p141 q141
              cases e141
              replace hx141_0 := (HB.out.cell (World.block_lt_of_cell? w _ hx141_0)).trans hx141_0
              replace hx141_1 := (HB.out.cell (World.block_lt_of_cell? w _ hx141_1)).trans hx141_1
              replace p141 := eq_true p141
              replace q141 := eq_true q141
              go_wp2_with (first | ((with_reducible refine gate_dyn rfl ?_); refine goesD_ (some 30) rfl rfl Tryd.func36 (by kernel_rfl) rfl #[.agg #[.string ((rd_T32 l0 (ji5)).f0), .string ((rd_T32 l0 (ji5)).f1)], .string a1] rfl rfl (by (try simp only [List.map_toArray, List.map_cons, List.map_nil]); first | done | (simp only [hji5]; rfl) | rfl | (simp only [List.length_drop, List.length_take]; rfl)) ?_; (with_reducible refine (item_place_1.calls ((rd_T32 l0 (ji5)).f0) ((rd_T32 l0 (ji5)).f1) a1 t142 _ A8.out).mono ?_); rintro e w11 ⟨rfl, hb⟩; refine ⟨_, rfl, ?_⟩; replace HB := hb_ hb; (try clear hb); (try clear hb2); (try clear hk); (try clear hi)))
              go_roundg k1
              case measure => have := HK1.out; omega
              case rel => exact ⟨(x9_1), (ji5), (by first | rfl | (simp; done) | (simp [*]; done)), (by first | rfl | (simp; done) | (simp only [← hji5] <;> (first | rfl | simp)) | (simp [*]; done)), H', ⟨by have := HK1.out; omega⟩, ⟨bel_⟩⟩
          · rw [if_neg c7] at H
            exact absurd H (by simp)
        · rw [if_neg c6] at H
          exact absurd H (by simp)
      · rw [if_neg c4] at H
        have c4b0 : decide (x9_1 < x10_1) = false := decide_eq_false c4
        clear c4
        by_cases c12 : x9_1 < (l0.length : Int)
        · rw [if_pos c12] at H
          have c12b0 : decide (x9_1 < (l0.length : Int)) = true := decide_eq_true c12
          clear c12
          by_cases c13 : 0 ≤ x9_1
          · rw [if_pos c13] at H
            have c13b0 : decide (0 ≤ x9_1) = true := decide_eq_true c13
            clear c13
            by_cases c14 : x9_1 < (l0.length : Int)
            · rw [if_pos c14] at H
              have c14b0 : decide (x9_1 < (l0.length : Int)) = true := decide_eq_true c14
              clear c14
              replace H := Option.bind_eq_some_iff.mp H
              obtain ⟨t144, A150, H⟩ := H
              replace H : (some (x9_1, (t144 == 0))) = some (r1, r2) := H
              have A15 := Aside0.mk A150
              clear A150
              simp only [Option.some.injEq, Prod.mk.injEq] at H
              obtain ⟨rfl, rfl⟩ := H
              have p143 : 0 ≤ (x9_1 : Int) := of_decide_eq_true (by first | (with_reducible assumption) | assumption)
              have q143 : x9_1 < (l0.length : Int) := of_decide_eq_true (by first | (with_reducible assumption) | assumption)
              obtain ⟨ad143, e143, hx143_0, hx143_1⟩ := at_T32 HR0.out x9_1 p143 q143
              cases e143
              replace hx143_0 := (HB.out.cell (World.block_lt_of_cell? w _ hx143_0)).trans hx143_0
              replace hx143_1 := (HB.out.cell (World.block_lt_of_cell? w _ hx143_1)).trans hx143_1
              replace p143 := eq_true p143
              replace q143 := eq_true q143
              go_wp2_with (first | (go_at_call 36; (with_reducible refine (item_place_1.calls ((rd_T32 l0 x9_1).f0) ((rd_T32 l0 x9_1).f1) a1 t144 _ A15.out).mono ?_); rintro e w16 ⟨rfl, hb⟩; replace HB := hb_ hb; (try clear hb); (try clear hb2); (try clear hk); (try clear hi)))
              go_ret2
              exact ⟨by first | rfl | (simp [errW_none, errW_some] <;> rfl) | (simp [*, errW_none, errW_some] <;> rfl), bel_⟩
            · rw [if_neg c14] at H
              exact absurd H (by simp)
          · rw [if_neg c13] at H
            exact absurd H (by simp)
        · rw [if_neg c12] at H
          have c12b0 : decide (x9_1 < (l0.length : Int)) = false := decide_eq_false c12
          clear c12
          simp only [Option.some.injEq, Prod.mk.injEq] at H
          obtain ⟨rfl, rfl⟩ := H
          go_wp2
          go_ret2
          exact ⟨by first | rfl | (simp [errW_none, errW_some] <;> rfl) | (simp [*, errW_none, errW_some] <;> rfl), bel_⟩

end Go.Proofs.YthbljhmjppjcjaaDoor.Z
end

section
-- Printed by a program of this session (mp.py) out of the translation.
namespace Go.Proofs.YthbljhmjppjcjaaDoor.Z
open Go.RowKit Go.Proofs.YthbljhmjppjcjaaDoorW.PrintWords Go.Proofs.YthbljhmjppjcjaaDoorW.PrintLast Go.Proofs.YthbljhmjppjcjaaDoorW.PrintMore
attribute [local go_sem] max2_int min2_int max_two min_two max_three min_three max_four min_four   -- for this text's walks alone
set_option linter.unusedVariables false
set_option linter.unusedSimpArgs false

/-! ### item_place: function 20 -/
def item_place.f (k : Nat) (l0 : List (S32)) (a1 : ByteArray) : Option (Int × Bool) := (slices_BinarySearchFunc_api_Item_api_Item_string_fn36.f k l0 a1).bind fun bt145 => (some (bt145.1, bt145.2))
theorem item_place.mono : ∀ a0 a1 k, LeO (item_place.f k a0 a1) (item_place.f (k + 1) a0 a1) := by
  intro a0 a1 k
  unfold item_place.f
  repeat' first
      | (with_reducible exact slices_BinarySearchFunc_api_Item_api_Item_string_fn36.mono _ _ _)
      | (with_reducible exact LeO.refl _)
      | (with_reducible exact LeO.none _)
      | (with_reducible refine LeO.ite ?_ ?_)
      | (with_reducible refine LeO.bind ?_ (fun _ => ?_))
      | exact slices_BinarySearchFunc_api_Item_api_Item_string_fn36.mono _ _ _
      | exact LeO.none _
      | refine LeO.ite ?_ ?_
      | refine LeO.bind ?_ (fun _ => ?_)
set_option maxHeartbeats 8000000 in
set_option maxRecDepth 100000 in
theorem item_place.calls (k : Nat) (A0 : Option Addr) (c0 : Nat) (l0 : List (S32)) (a1 : ByteArray) (r1 : Int) (r2 : Bool) (w : World) (hr0 : Kd.C k32 w A0 l0.length l0) (hc0 : l0.length ≤ c0) (h : item_place.f k l0 a1 = some (r1, r2)) :
    Calls Tryd.prog 20 #[.slice A0 l0.length c0, .string a1] w fun e w' => e = .returned (.tuple #[.int .i64 r1, .bool r2]) ∧ Below w.heap.size w w' := by
  have HR0 := Aside0.mk hr0
  have HC0 := Aside0.mk hc0
  clear hr0 hc0
  have HB := Aside0.mk (Below.refl w.heap.size w)
  have H : ((slices_BinarySearchFunc_api_Item_api_Item_string_fn36.f k l0 a1).bind fun bt145 => (some (bt145.1, bt145.2))) = some (r1, r2) := h
  clear h
  replace H := Option.bind_eq_some_iff.mp H
  obtain ⟨⟨t145, t146⟩, A30, H⟩ := H
  replace H : (some (t145, t146)) = some (r1, r2) := H
  have A3 := Aside0.mk A30
  clear A30
  simp only [Option.some.injEq, Prod.mk.injEq] at H
  obtain ⟨rfl, rfl⟩ := H
  go_enter Tryd.func20, Tryd.ntmps20
  go_wp2_with (first | ((with_reducible refine gate_callee (f := 35) rfl ?_); refine gl_ (some 8) Tryd.func35 #[.slice A0 l0.length c0, .string a1, .func (.func 36) #[] #[]] ?_; (with_reducible refine (slices_BinarySearchFunc_api_Item_api_Item_string_fn36.calls k _ _ l0 a1 t145 t146 _ ?side1 ?side2 A3.out).mono ?_); (case side1 => repeat (first | exact HR0.out | (with_reducible refine Kd.C_alloc ?_ _) | (with_reducible refine Kd.C_drewN ?_ _) | (with_reducible refine Kd.C_drew ?_))); (case side2 => exact HC0.out); rintro e w4 ⟨rfl, hb⟩; refine ⟨_, rfl, ?_⟩; replace HB := hb_ hb; (try clear hb); (try clear hb2); (try clear hk); (try clear hi)))
  go_ret2
  exact ⟨by first | rfl | (simp [errW_none, errW_some] <;> rfl) | (simp [*, errW_none, errW_some] <;> rfl), bel_⟩

end Go.Proofs.YthbljhmjppjcjaaDoor.Z
end

section
-- Printed by a program of this session (mp.py) out of the translation.
namespace Go.Proofs.YthbljhmjppjcjaaDoor.Z
open Go.RowKit Go.Proofs.YthbljhmjppjcjaaDoorW.PrintWords Go.Proofs.YthbljhmjppjcjaaDoorW.PrintLast Go.Proofs.YthbljhmjppjcjaaDoorW.PrintMore
attribute [local go_sem] max2_int min2_int max_two min_two max_three min_three max_four min_four   -- for this text's walks alone
set_option linter.unusedVariables false
set_option linter.unusedSimpArgs false

/-! ### item_Get: function 10 -/
def item_Get.f (k : Nat) (l0 : List (S32)) (a1 : ByteArray) : Option (ByteArray × Int) := (item_Check.f k l0).bind fun t147 => (if t147 = 0 then ((item_place.f k l0 a1).bind fun bt148 => (if bt148.2 = true then (if 0 ≤ bt148.1 then (if bt148.1 < (l0.length : Int) then (some ((rd_T32 l0 bt148.1).f1, 0)) else (none)) else (none)) else (some ((⟨#[]⟩ : ByteArray), 5)))) else (some ((⟨#[]⟩ : ByteArray), t147)))
theorem item_Get.mono : ∀ a0 a1 k, LeO (item_Get.f k a0 a1) (item_Get.f (k + 1) a0 a1) := by
  intro a0 a1 k
  unfold item_Get.f
  repeat' first
      | (with_reducible exact item_Check.mono _ _)
      | (with_reducible exact item_place.mono _ _ _)
      | (with_reducible exact LeO.refl _)
      | (with_reducible exact LeO.none _)
      | (with_reducible refine LeO.ite ?_ ?_)
      | (with_reducible refine LeO.bind ?_ (fun _ => ?_))
      | exact item_Check.mono _ _
      | exact item_place.mono _ _ _
      | exact LeO.none _
      | refine LeO.ite ?_ ?_
      | refine LeO.bind ?_ (fun _ => ?_)
set_option maxHeartbeats 8000000 in
set_option maxRecDepth 100000 in
theorem item_Get.calls (k : Nat) (A0 : Option Addr) (c0 : Nat) (l0 : List (S32)) (a1 : ByteArray) (r1 : ByteArray) (r2 : Int) (w : World) (hr0 : Kd.C k32 w A0 l0.length l0) (hc0 : l0.length ≤ c0) (h : item_Get.f k l0 a1 = some (r1, r2)) :
    Calls Tryd.prog 10 #[.slice A0 l0.length c0, .string a1] w fun e w' => e = .returned (.tuple #[.string r1, .int .i64 r2]) ∧ Below w.heap.size w w' := by
  have HR0 := Aside0.mk hr0
  have HC0 := Aside0.mk hc0
  clear hr0 hc0
  have HB := Aside0.mk (Below.refl w.heap.size w)
  have H : ((item_Check.f k l0).bind fun t147 => (if t147 = 0 then ((item_place.f k l0 a1).bind fun bt148 => (if bt148.2 = true then (if 0 ≤ bt148.1 then (if bt148.1 < (l0.length : Int) then (some ((rd_T32 l0 bt148.1).f1, 0)) else (none)) else (none)) else (some ((⟨#[]⟩ : ByteArray), 5)))) else (some ((⟨#[]⟩ : ByteArray), t147)))) = some (r1, r2) := h
  clear h
  replace H := Option.bind_eq_some_iff.mp H
  obtain ⟨t147, A30, H⟩ := H
  replace H : (if t147 = 0 then ((item_place.f k l0 a1).bind fun bt148 => (if bt148.2 = true then (if 0 ≤ bt148.1 then (if bt148.1 < (l0.length : Int) then (some ((rd_T32 l0 bt148.1).f1, 0)) else (none)) else (none)) else (some ((⟨#[]⟩ : ByteArray), 5)))) else (some ((⟨#[]⟩ : ByteArray), t147))) = some (r1, r2) := H
  have A3 := Aside0.mk A30
  clear A30
  by_cases c4 : t147 = 0
  · rw [if_pos c4] at H
    have c4b0 : (t147 == 0) = true := beq_iff_eq.mpr c4
    have c4b1 : (t147 != 0) = false := bne_eq_false_iff_eq.mpr c4
    clear c4
    replace H := Option.bind_eq_some_iff.mp H
    obtain ⟨⟨t148, t149⟩, A50, H⟩ := H
    replace H : (if t149 = true then (if 0 ≤ t148 then (if t148 < (l0.length : Int) then (some ((rd_T32 l0 t148).f1, 0)) else (none)) else (none)) else (some ((⟨#[]⟩ : ByteArray), 5))) = some (r1, r2) := H
    have A5 := Aside0.mk A50
    clear A50
    by_cases c6 : t149 = true
    · subst c6
      have H1 : (if 0 ≤ t148 then (if t148 < (l0.length : Int) then (some ((rd_T32 l0 t148).f1, 0)) else (none)) else (none)) = some (r1, r2) := by rw [if_pos rfl] at H; exact H
      clear H
      have H := H1
      clear H1
      by_cases c7 : 0 ≤ t148
      · rw [if_pos c7] at H
        have c7b0 : decide (0 ≤ t148) = true := decide_eq_true c7
        clear c7
        by_cases c8 : t148 < (l0.length : Int)
        · rw [if_pos c8] at H
          have c8b0 : decide (t148 < (l0.length : Int)) = true := decide_eq_true c8
          clear c8
          simp only [Option.some.injEq, Prod.mk.injEq] at H
          obtain ⟨rfl, rfl⟩ := H
          go_enter Tryd.func10, Tryd.ntmps10
          go_wp2_with (first | ((with_reducible refine gate_callee (f := 5) rfl ?_); refine gl_ (some 10) Tryd.func5 #[.slice A0 l0.length c0] ?_; (with_reducible refine (item_Check.calls k _ _ l0 t147 _ ?side1 ?side2 A3.out).mono ?_); (case side1 => repeat (first | exact HR0.out | (with_reducible refine Kd.C_alloc ?_ _) | (with_reducible refine Kd.C_drewN ?_ _) | (with_reducible refine Kd.C_drew ?_))); (case side2 => exact HC0.out); rintro e w9 ⟨rfl, hb⟩; refine ⟨_, rfl, ?_⟩; replace HB := hb_ hb; (try clear hb); (try clear hb2); (try clear hk); (try clear hi)) | ((with_reducible refine gate_callee (f := 20) rfl ?_); refine gl_ (some 17) Tryd.func20 #[.slice A0 l0.length c0, .string a1] ?_; (with_reducible refine (item_place.calls k _ _ l0 a1 t148 true _ ?side1 ?side2 A5.out).mono ?_); (case side1 => exact cb_ HR0); (case side2 => exact HC0.out); rintro e w10 ⟨rfl, hb⟩; refine ⟨_, rfl, ?_⟩; replace HB := hb_ hb; (try clear hb); (try clear hb2); (try clear hk); (try clear hi); have p150 : 0 ≤ (t148 : Int) := of_decide_eq_true (by first | (with_reducible assumption) | assumption); have q150 : t148 < (l0.length : Int) := of_decide_eq_true (by first | (with_reducible assumption) | assumption); obtain ⟨ad150, e150, hx150_0, hx150_1⟩ := at_T32 HR0.out t148 p150 q150; cases e150; replace hx150_0 := (HB.out.cell (World.block_lt_of_cell? w _ hx150_0)).trans hx150_0; replace hx150_1 := (HB.out.cell (World.block_lt_of_cell? w _ hx150_1)).trans hx150_1; replace p150 := eq_true p150; replace q150 := eq_true q150))
          go_ret2
          exact ⟨by first | rfl | (simp [errW_none, errW_some] <;> rfl) | (simp [*, errW_none, errW_some] <;> rfl), bel_⟩
        · rw [if_neg c8] at H
          exact absurd H (by simp)
      · rw [if_neg c7] at H
        exact absurd H (by simp)
    · replace c6 := Bool.eq_false_iff.mpr c6
      subst c6
      have H1 : (some ((⟨#[]⟩ : ByteArray), 5)) = some (r1, r2) := by rw [if_neg (show ¬ (false = true) by decide)] at H; exact H
      clear H
      have H := H1
      clear H1
      simp only [Option.some.injEq, Prod.mk.injEq] at H
      obtain ⟨rfl, rfl⟩ := H
      go_enter Tryd.func10, Tryd.ntmps10
      go_wp2_with (first | ((with_reducible refine gate_callee (f := 5) rfl ?_); refine gl_ (some 10) Tryd.func5 #[.slice A0 l0.length c0] ?_; (with_reducible refine (item_Check.calls k _ _ l0 t147 _ ?side1 ?side2 A3.out).mono ?_); (case side1 => repeat (first | exact HR0.out | (with_reducible refine Kd.C_alloc ?_ _) | (with_reducible refine Kd.C_drewN ?_ _) | (with_reducible refine Kd.C_drew ?_))); (case side2 => exact HC0.out); rintro e w11 ⟨rfl, hb⟩; refine ⟨_, rfl, ?_⟩; replace HB := hb_ hb; (try clear hb); (try clear hb2); (try clear hk); (try clear hi)) | ((with_reducible refine gate_callee (f := 20) rfl ?_); refine gl_ (some 17) Tryd.func20 #[.slice A0 l0.length c0, .string a1] ?_; (with_reducible refine (item_place.calls k _ _ l0 a1 t148 false _ ?side1 ?side2 A5.out).mono ?_); (case side1 => exact cb_ HR0); (case side2 => exact HC0.out); rintro e w12 ⟨rfl, hb⟩; refine ⟨_, rfl, ?_⟩; replace HB := hb_ hb; (try clear hb); (try clear hb2); (try clear hk); (try clear hi)))
      go_ret2
      exact ⟨by first | rfl | (simp [errW_none, errW_some] <;> rfl) | (simp [*, errW_none, errW_some] <;> rfl), bel_⟩
  · rw [if_neg c4] at H
    have c4b0 : (t147 == 0) = false := beq_eq_false_iff_ne.mpr c4
    have c4b1 : (t147 != 0) = true := bne_iff_ne.mpr c4
    simp only [Option.some.injEq, Prod.mk.injEq] at H
    obtain ⟨rfl, rfl⟩ := H
    go_enter Tryd.func10, Tryd.ntmps10
    go_wp2_with (first | ((with_reducible refine gate_callee (f := 5) rfl ?_); refine gl_ (some 10) Tryd.func5 #[.slice A0 l0.length c0] ?_; (with_reducible refine (item_Check.calls k _ _ l0 t147 _ ?side1 ?side2 A3.out).mono ?_); (case side1 => repeat (first | exact HR0.out | (with_reducible refine Kd.C_alloc ?_ _) | (with_reducible refine Kd.C_drewN ?_ _) | (with_reducible refine Kd.C_drew ?_))); (case side2 => exact HC0.out); rintro e w13 ⟨rfl, hb⟩; refine ⟨_, rfl, ?_⟩; replace HB := hb_ hb; (try clear hb); (try clear hb2); (try clear hk); (try clear hi)))
    go_ret2
    exact ⟨by first | rfl | (simp [errW_none, errW_some] <;> rfl) | (simp [*, errW_none, errW_some] <;> rfl), bel_⟩

end Go.Proofs.YthbljhmjppjcjaaDoor.Z
end

section
/- What turns one block alone. -/
namespace Go.Proofs.YthbljhmjppjcjaaDoor.Z
open Go.RowKit Go.Proofs.YthbljhmjppjcjaaDoorW.PrintWords Go.Proofs.YthbljhmjppjcjaaDoorW.PrintLast
set_option linter.unusedVariables false
/-- Only block g is another one: it is o now. -/
def Step (g : Nat) (w w' : World) (o : Obj) : Prop := w'.heap[g]? = some o ∧ KeepBut w w' g none ∧ ∀ B, B ≤ g → Below B w w'
theorem Step.refl {g : Nat} {w : World} {o : Obj} (h : w.heap[g]? = some o) : Step g w w o := ⟨h, KeepBut.refl _ _ _, fun _ _ => Below.refl _ _⟩
theorem Step.trans {g : Nat} {w w1 w2 : World} {o o' : Obj} (h : Step g w w1 o) (k : Step g w1 w2 o') : Step g w w2 o' := ⟨k.1, h.2.1.trans k.2.1 (.inl rfl), fun B hB => (h.2.2 B hB).trans (k.2.2 B hB)⟩
theorem Step.drew {g : Nat} {w w1 : World} {o : Obj} (h : Step g w w1 o) : Step g w w1.drew o := ⟨blk_drew h.1, keep_drew h.2.1, fun B hB => below_drew1 (h.2.2 B hB)⟩
theorem Step.set {g : Nat} {w w1 : World} {t : TypeId} {cs : Array Value} (h : Step g w w1 (.cells cs t (0, 0))) (j : Nat) (u : Value) {cs' : Array Value} (e : cs.setIfInBounds j u = cs') : Step g w (w1.setCell ⟨g, j, none⟩ u) (.cells cs' t (0, 0)) :=
  ⟨e ▸ blk_set h.1 j u, h.2.1.set_ j u, fun B hB => (h.2.2 B hB).setCell (p := ⟨g, j, none⟩) hB u⟩
end Go.Proofs.YthbljhmjppjcjaaDoor.Z
end

section
-- Printed by a program of this session (mp.py) out of the translation.
namespace Go.Proofs.YthbljhmjppjcjaaDoor.Z
open Go.RowKit Go.Proofs.YthbljhmjppjcjaaDoorW.PrintWords Go.Proofs.YthbljhmjppjcjaaDoorW.PrintLast Go.Proofs.YthbljhmjppjcjaaDoorW.PrintMore
attribute [local go_sem] max2_int min2_int max_two min_two max_three min_three max_four min_four   -- for this text's walks alone
set_option linter.unusedVariables false
set_option linter.unusedSimpArgs false

/-! ### bits_RotateLeft32: function 54 -/
def bits_RotateLeft32.f (a0 : Int) (a1 : Int) : Option (Int) := if 0 ≤ (Go.bits .and .u64 (IntKind.u64.wrap (a1)) 31) then (if 0 ≤ (IntKind.u64.wrap (32 - (Go.bits .and .u64 (IntKind.u64.wrap (a1)) 31))) then (some (Go.bits .or .u32 (shl .u32 a0 (Go.bits .and .u64 (IntKind.u64.wrap (a1)) 31)) (shr .u32 a0 (IntKind.u64.wrap (32 - (Go.bits .and .u64 (IntKind.u64.wrap (a1)) 31)))))) else (none)) else (none)
set_option maxHeartbeats 8000000 in
set_option maxRecDepth 100000 in
theorem bits_RotateLeft32.calls (a0 : Int) (a1 : Int) (r : Int) (w : World) (h : bits_RotateLeft32.f a0 a1 = some r) :
    Calls Tryd.prog 54 #[.int .u32 a0, .int .i64 a1] w fun e w' => e = .returned (.int .u32 r) ∧ Drawn0 w w' := by
  have H : (if 0 ≤ (Go.bits .and .u64 (IntKind.u64.wrap (a1)) 31) then (if 0 ≤ (IntKind.u64.wrap (32 - (Go.bits .and .u64 (IntKind.u64.wrap (a1)) 31))) then (some (Go.bits .or .u32 (shl .u32 a0 (Go.bits .and .u64 (IntKind.u64.wrap (a1)) 31)) (shr .u32 a0 (IntKind.u64.wrap (32 - (Go.bits .and .u64 (IntKind.u64.wrap (a1)) 31)))))) else (none)) else (none)) = some r := h
  clear h
  obtain ⟨ji3, hji3⟩ : ∃ j_ : Int, (Go.bits .and .u64 (IntKind.u64.wrap (a1)) 31) = j_ := ⟨_, rfl⟩
  replace H : (if 0 ≤ (ji3) then (if 0 ≤ (IntKind.u64.wrap (32 - (ji3))) then (some (Go.bits .or .u32 (shl .u32 a0 (ji3)) (shr .u32 a0 (IntKind.u64.wrap (32 - (ji3)))))) else (none)) else (none)) = some r := by first | (rw [hji3] at H; exact H) | (simp only [hji3] at H ⊢; exact H)
  by_cases c4 : 0 ≤ (ji3)
  · rw [if_pos c4] at H
    have c4b0 := eq_true c4
    have c4b1 : decide (0 ≤ (ji3)) = true := decide_eq_true c4
    clear c4
    obtain ⟨ji5, hji5⟩ : ∃ j_ : Int, (shl .u32 a0 (ji3)) = j_ := ⟨_, rfl⟩
    replace H : (if 0 ≤ (IntKind.u64.wrap (32 - (ji3))) then (some (Go.bits .or .u32 (ji5) (shr .u32 a0 (IntKind.u64.wrap (32 - (ji3)))))) else (none)) = some r := by first | (rw [hji5] at H; exact H) | (simp only [hji5] at H ⊢; exact H)
    have hji5_ : (IntKind.u32.wrap (a0 * 2 ^ min (ji3).toNat 32)) = ji5 := hji5
    have hji5z : (ji3) ≤ 32 → (IntKind.u32.wrap (a0 * 2 ^ (ji3).toNat)) = ji5 := shl_small hji5
    obtain ⟨ji6, hji6⟩ : ∃ j_ : Int, (IntKind.u64.wrap (32 - (ji3))) = j_ := ⟨_, rfl⟩
    replace H : (if 0 ≤ (ji6) then (some (Go.bits .or .u32 (ji5) (shr .u32 a0 (ji6)))) else (none)) = some r := by first | (rw [hji6] at H; exact H) | (simp only [hji6] at H ⊢; exact H)
    by_cases c7 : 0 ≤ (ji6)
    · rw [if_pos c7] at H
      have c7b0 := eq_true c7
      have c7b1 : decide (0 ≤ (ji6)) = true := decide_eq_true c7
      clear c7
      obtain ⟨ji8, hji8⟩ : ∃ j_ : Int, (shr .u32 a0 (ji6)) = j_ := ⟨_, rfl⟩
      replace H : (some (Go.bits .or .u32 (ji5) (ji8))) = some r := by first | (rw [hji8] at H; exact H) | (simp only [hji8] at H ⊢; exact H)
      have hji8_ : (a0 / 2 ^ min (ji6).toNat 32) = ji8 := hji8
      have hji8z : (ji6) ≤ 32 → (a0 / 2 ^ (ji6).toNat) = ji8 := shr_small hji8
      obtain rfl := Option.some.inj H
      go_enter Tryd.func54, Tryd.ntmps54
      go_wp2
      go_ret
      exact ⟨by first | rfl | (simp; done) | (simp only [← hji3, ← hji5, ← hji6, ← hji8] <;> (first | rfl | simp)) | (simp [*]; done), by repeat (first | exact Drawn0.refl _ | apply Drawn0.step)⟩
    · rw [if_neg c7] at H
      exact absurd H (by simp)
  · rw [if_neg c4] at H
    exact absurd H (by simp)

end Go.Proofs.YthbljhmjppjcjaaDoor.Z
end

section
-- Printed by a program of this session (mp.py) out of the translation.
namespace Go.Proofs.YthbljhmjppjcjaaDoor.Z
open Go.RowKit Go.Proofs.YthbljhmjppjcjaaDoorW.PrintWords Go.Proofs.YthbljhmjppjcjaaDoorW.PrintLast Go.Proofs.YthbljhmjppjcjaaDoorW.PrintMore
attribute [local go_sem] max2_int min2_int max_two min_two max_three min_three max_four min_four   -- for this text's walks alone
set_option linter.unusedVariables false
set_option linter.unusedSimpArgs false

/-! ### hash_right: function 39 -/
def hash_right.f (a0 : Int) (a1 : Int) : Option (Int) := (bits_RotateLeft32.f a0 (wrap64 (-a1))).bind fun t106 => (some t106)
set_option maxHeartbeats 8000000 in
set_option maxRecDepth 100000 in
theorem hash_right.calls (a0 : Int) (a1 : Int) (r : Int) (w : World) (h : hash_right.f a0 a1 = some r) :
    Calls Tryd.prog 39 #[.int .u32 a0, .int .i64 a1] w fun e w' => e = .returned (.int .u32 r) ∧ Drawn0 w w' := by
  have H : ((bits_RotateLeft32.f a0 (wrap64 (-a1))).bind fun t106 => (some t106)) = some r := h
  clear h
  replace H := Option.bind_eq_some_iff.mp H
  obtain ⟨t106, A30, H⟩ := H
  replace H : (some t106) = some r := H
  have A3 := Aside0.mk A30
  clear A30
  obtain rfl := Option.some.inj H
  go_enter Tryd.func39, Tryd.ntmps39
  go_wp2_with (first | ((with_reducible refine gate_callee (f := 54) rfl ?_); refine gl_ (some 8) Tryd.func54 #[.int .u32 a0, .int .i64 (wrap64 (-a1))] ?_; (with_reducible refine (bits_RotateLeft32.calls a0 (wrap64 (-a1)) t106 _ A3.out).mono ?_); rintro e w' ⟨rfl, ⟨nd, rfl⟩⟩; refine ⟨_, rfl, ?_⟩))
  go_ret
  exact ⟨by first | rfl | (simp; done) | (simp [*]; done), by repeat (first | exact Drawn0.refl _ | apply Drawn0.step)⟩

end Go.Proofs.YthbljhmjppjcjaaDoor.Z
end

section
/- hash.Sum at one block: the words, the rounds. -/
namespace Go.Proofs.YthbljhmjppjcjaaDoor.Z
open Go.RowKit Go.Proofs.YthbljhmjppjcjaaDoorW.PrintWords Go.Proofs.YthbljhmjppjcjaaDoorW.PrintLast Go.Proofs.YthbljhmjppjcjaaDoorW.PrintMore
set_option linter.unusedVariables false
set_option linter.unusedSimpArgs false
def rot (x k : Int) : Int := (hash_right.f x k).getD 0
theorem rot_some (x k : Int) (h : decide (0 ≤ (Go.bits .and .u64 (IntKind.u64.wrap (wrap64 (-k))) 31)) && decide (0 ≤ (IntKind.u64.wrap (32 - (Go.bits .and .u64 (IntKind.u64.wrap (wrap64 (-k))) 31)))) = true) : hash_right.f x k = some (rot x k) := by
  simp only [Bool.and_eq_true, decide_eq_true_eq] at h
  unfold rot hash_right.f bits_RotateLeft32.f
  rw [if_pos h.1, if_pos h.2]
  rfl
set_option maxRecDepth 100000 in
theorem rotl_same (a0 a1 r : Int) (w : World) (h : bits_RotateLeft32.f a0 a1 = some r) :
    Calls Tryd.prog 54 #[.int .u32 a0, .int .i64 a1] w fun e w' => e = .returned (.int .u32 r) ∧ w' = w := by
  have H : (if 0 ≤ (Go.bits .and .u64 (IntKind.u64.wrap (a1)) 31) then (if 0 ≤ (IntKind.u64.wrap (32 - (Go.bits .and .u64 (IntKind.u64.wrap (a1)) 31))) then (some (Go.bits .or .u32 (shl .u32 a0 (Go.bits .and .u64 (IntKind.u64.wrap (a1)) 31)) (shr .u32 a0 (IntKind.u64.wrap (32 - (Go.bits .and .u64 (IntKind.u64.wrap (a1)) 31)))))) else (none)) else (none)) = some r := h
  clear h
  obtain ⟨ji3, hji3⟩ : ∃ j_ : Int, (Go.bits .and .u64 (IntKind.u64.wrap (a1)) 31) = j_ := ⟨_, rfl⟩
  simp only [hji3] at H
  by_cases c4 : 0 ≤ (ji3)
  · rw [if_pos c4] at H
    have c4b0 := eq_true c4
    have c4b1 : decide (0 ≤ (ji3)) = true := decide_eq_true c4
    clear c4
    obtain ⟨ji5, hji5⟩ : ∃ j_ : Int, (shl .u32 a0 (ji3)) = j_ := ⟨_, rfl⟩
    simp only [hji5] at H
    have hji5_ : (IntKind.u32.wrap (a0 * 2 ^ min (ji3).toNat 32)) = ji5 := hji5
    have hji5z : (ji3) ≤ 32 → (IntKind.u32.wrap (a0 * 2 ^ (ji3).toNat)) = ji5 := shl_small hji5
    obtain ⟨ji6, hji6⟩ : ∃ j_ : Int, (IntKind.u64.wrap (32 - (ji3))) = j_ := ⟨_, rfl⟩
    simp only [hji6] at H
    by_cases c7 : 0 ≤ (ji6)
    · rw [if_pos c7] at H
      have c7b0 := eq_true c7
      have c7b1 : decide (0 ≤ (ji6)) = true := decide_eq_true c7
      clear c7
      obtain ⟨ji8, hji8⟩ : ∃ j_ : Int, (shr .u32 a0 (ji6)) = j_ := ⟨_, rfl⟩
      simp only [hji8] at H
      have hji8_ : (a0 / 2 ^ min (ji6).toNat 32) = ji8 := hji8
      have hji8z : (ji6) ≤ 32 → (a0 / 2 ^ (ji6).toNat) = ji8 := shr_small hji8
      obtain rfl := Option.some.inj H
      go_enter Tryd.func54, Tryd.ntmps54
      go_wp2
      go_ret
      exact ⟨by first | rfl | (simp; done) | (simp only [← hji3, ← hji5, ← hji6, ← hji8] <;> (first | rfl | simp)) | (simp [*]; done), rfl⟩
    · rw [if_neg c7] at H
      exact absurd H (by simp)
  · rw [if_neg c4] at H
    exact absurd H (by simp)
set_option maxRecDepth 100000 in
theorem right_same (a0 a1 r : Int) (w : World) (h : hash_right.f a0 a1 = some r) :
    Calls Tryd.prog 39 #[.int .u32 a0, .int .i64 a1] w fun e w' => e = .returned (.int .u32 r) ∧ w' = w := by
  have H : ((bits_RotateLeft32.f a0 (wrap64 (-a1))).bind fun t106 => (some t106)) = some r := h
  clear h
  replace H := Option.bind_eq_some_iff.mp H
  obtain ⟨t106, A30, H⟩ := H
  have A3 := Aside0.mk A30
  clear A30
  obtain rfl := Option.some.inj H
  go_enter Tryd.func39, Tryd.ntmps39
  go_wp2_with (go_at_call 54; refine (rotl_same a0 (wrap64 (-a1)) t106 _ A3.out).mono ?_; rintro e w' ⟨rfl, rfl⟩)
  go_ret
  exact ⟨rfl, rfl⟩
/-- An array of 32-bit words in memory. -/
def ws (t : TypeId) (l : List Int) : Obj := .cells (l.map (fun x => Value.int .u32 x)).toArray t (0, 0)
theorem ws_cell {w : World} {g : Nat} {t : TypeId} {l : List Int} (h : w.heap[g]? = some (ws t l)) (i : Nat) (hi : i < l.length) : w.cell? ⟨g, i, none⟩ = some (.int .u32 (l.getD i 0)) := by
  rw [blk_cell h, List.getElem?_toArray, List.getElem?_map, List.getD_eq_getElem?_getD, List.getElem?_eq_getElem hi]
  rfl
theorem ws_set {w : World} {g : Nat} {t : TypeId} {l : List Int} (h : w.heap[g]? = some (ws t l)) (i : Nat) (x : Int) : (w.setCell ⟨g, i, none⟩ (.int .u32 x)).heap[g]? = some (ws t (l.set i x)) := by
  rw [blk_set h]
  congr 2
  simp [ws]
theorem Step.ws {g : Nat} {w w1 : World} {t : TypeId} {l : List Int} (h : Step g w w1 (ws t l)) (i : Nat) (x : Int) : Step g w (w1.setCell ⟨g, i, none⟩ (.int .u32 x)) (ws t (l.set i x)) :=
  ⟨ws_set h.1 i x, h.2.1.set_ i _, fun B hB => (h.2.2 B hB).setCell (p := ⟨g, i, none⟩) hB _⟩
theorem ws_info {p : Option Nat} {n : Nat} {l : List Int} (h : p = some n) (hl : l.length = n) : p = some (l.map (fun x => Value.int .u32 x)).toArray.size := by
  rw [h]
  simp [hl]
theorem ws_one (l : List Int) : ((l.map (fun x => Value.int .u32 x)).toArray).all (·.oneCell') = true := by
  simp [Value.oneCell']
def rd (l : List Int) (i : Int) : Int := l.getD i.toNat 0
def wv (s : ByteArray) (t i x : Int) : Int := Go.bits .or .u32 (IntKind.u32.wrap (x * 256)) (IntKind.u32.wrap (bt s (4 * t + i)))
def winner (s : ByteArray) (t : Int) : Nat → Int → List Int → List Int
  | 0, _, l => l
  | d + 1, i, l => winner s t d (i + 1) (l.set t.toNat (wv s t i (rd l t)))
def wouter (s : ByteArray) : Nat → Int → List Int → List Int
  | 0, _, l => l
  | d + 1, t, l => wouter s d (t + 1) (winner s t 4 0 l)
def wnew (l : List Int) (a b c d : Int) : Int := (rd l a + rd l b + Go.bits .xor .u32 (Go.bits .xor .u32 (rot (rd l c) 7) (rot (rd l c) 18)) (rd l c / 8) + Go.bits .xor .u32 (Go.bits .xor .u32 (rot (rd l d) 17) (rot (rd l d) 19)) (rd l d / 1024)) % 4294967296
def wext : Nat → Int → List Int → List Int
  | 0, _, l => l
  | d + 1, t, l => wext d (t + 1) (l.set t.toNat (wnew l (t - 16) (t - 7) (t - 15) (t - 2)))
def wordsF (s : ByteArray) : List Int := wext 48 16 (wouter s 16 0 (List.replicate 64 0))
theorem winner_len (s : ByteArray) (t : Int) : ∀ d i l, (winner s t d i l).length = l.length
  | 0, _, _ => rfl
  | d + 1, i, l => by rw [winner, winner_len s t d]; simp
theorem ws_at {w : World} {g : Nat} {t : TypeId} {l : List Int} (h : w.heap[g]? = some (ws t l)) (i : Int) (h0 : 0 ≤ i) (hi : i < l.length) : w.cell? ⟨g, i.toNat, none⟩ = some (.int .u32 (rd l i)) := ws_cell h i.toNat (by omega)
set_option maxRecDepth 100000 in
set_option maxHeartbeats 3200000 in
theorem words_calls (s : ByteArray) (hs : s.size = 64) (w : World) :
    Calls Tryd.prog 38 #[.string s] w fun e w' => e = .returned (.agg ((wordsF s).map (fun x => Value.int .u32 x)).toArray) ∧ Below w.heap.size w w' := by
  have HA := Aside0.mk hs
  clear hs
  go_enter Tryd.func38, Tryd.ntmps38
  go_wp2_with ((with_reducible refine gate_dst (N := 2) rfl ?_); refine box_event ?hg (N := 2) ?hd (cs := ((List.replicate 64 (0 : Int)).map (fun x => Value.int .u32 x)).toArray) (t := 93) ?hr ?_; (case hd => rfl); (case hg => rfl); (case hr => first | (go_simp; done) | (go_simp; rfl)); intro g hg w1 hx hb; have BX := Aside0.mk (show w1.heap[g]? = some (ws 93 (List.replicate 64 0)) from hx); have BB := Aside0.mk hb; have GG := Aside0.mk (show w.heap.size ≤ g by omega); clear hx hb hg)
  go_loopw [8] (fun i wr => ∃ (x : Int) (l : List Int), i = .int .i64 x ∧ Aside0 (0 ≤ x ∧ x ≤ 16) ∧ Aside0 (Below w.heap.size w wr ∧ wr.heap[g]? = some (ws 93 l) ∧ l.length = 64) ∧ Aside0 (wouter s (16 - x.toNat) x l = wouter s 16 0 (List.replicate 64 0))) (fun i _ => 16 - (intOf i).toNat)
  case atStart => exact ⟨0, _, rfl, ⟨by omega⟩, ⟨BB.out, BX.out, by simp⟩, ⟨rfl⟩⟩
  case round =>
    obtain ⟨x, l, rfl, HX, HS, HF⟩ := hrel
    obtain ⟨hx0, hx1⟩ := HX.out
    have hsz := HA.out
    by_cases hlt : x < 16
    · have hlt2 : decide (x < 16) = true := decide_eq_true hlt
      have L := Aside0.mk hlt
      clear hlt hsz hx0 hx1 BX BB
      go_wp2
      go_loopw [11] (fun i wr => ∃ (y : Int) (l' : List Int), i = .int .i64 y ∧ Aside0 (0 ≤ y ∧ y ≤ 4) ∧ Aside0 (Below w.heap.size w wr ∧ wr.heap[g]? = some (ws 93 l') ∧ l'.length = 64) ∧ Aside0 (winner s x (4 - y.toNat) y l' = winner s x 4 0 l)) (fun i _ => 4 - (intOf i).toNat)
      case atStart => exact ⟨0, _, rfl, ⟨by omega⟩, HS, ⟨rfl⟩⟩
      case round =>
        obtain ⟨y, l', rfl, HY, HT, HG⟩ := hrel
        obtain ⟨hy0, hy1⟩ := HY.out
        have hx := HX.out
        have hsz := HA.out
        have hl := L.out
        have hll := HT.out.2.2
        by_cases hly : y < 4
        · have hly2 : decide (y < 4) = true := decide_eq_true hly
          have q0 : ((0 : Int) ≤ x) = True := eq_true (by omega)
          have q1 : (x < (64 : Int)) = True := eq_true (by omega)
          have e0 : IntKind.i64.wrap (4 * x) = 4 * x := by rw [IntKind.wrap_i64]; omega
          have e1 : IntKind.i64.wrap (4 * x + y) = 4 * x + y := by rw [IntKind.wrap_i64]; omega
          have ew : wrap64 (y + 1) = y + 1 := by unfold wrap64; omega
          have q2 : ((0 : Int) ≤ 4 * x + y) = True := eq_true (by omega)
          have q3 : (4 * x + y < (s.size : Int)) = True := eq_true (by omega)
          have hbt := bt_at s (4 * x + y)
          have hF : winner s x (4 - (y + 1).toNat) (y + 1) (l'.set x.toNat (wv s x y (rd l' x))) = winner s x 4 0 l := by
            have h := HG.out
            rw [show 4 - y.toNat = (4 - (y + 1).toNat) + 1 by omega, winner] at h
            exact h
          have HF' := Aside0.mk hF
          have EW := Aside0.mk ew
          have LY := Aside0.mk hly
          have HD := Aside0.mk (show Below w.heap.size w wr.drew ∧ wr.drew.heap[g]? = some (ws 93 l') ∧ l'.length = 64 from ⟨below_drew1 HT.out.1, blk_drew HT.out.2.1, HT.out.2.2⟩)
          have k0 := ws_at HT.out.2.1 x (by omega) (by omega)
          clear hF hx hsz hl hll hly ew hy0 hy1
          go_wp2
          go_still_tail 14, (by kernel_rfl)
          change wpList _ _ _ _ _ wr.drew
          obtain ⟨wd, hwd⟩ : ∃ wd, wd = wr.drew := ⟨_, rfl⟩
          rw [← hwd] at HD ⊢
          have k1 := ws_at HD.out.2.1 x (of_eq_true q0) (by have := HD.out.2.2; have := of_eq_true q1; omega)
          have y1 : wd.frozen? ⟨g, x.toNat, none⟩ = false := blk_frozen HD.out.2.1 _
          clear hwd k0
          go_wp2
          have hl := LY.out
          have hy := HY.out
          go_roundw
          case rel => exact ⟨y + 1, _, by rw [EW.out], ⟨by omega⟩, ⟨HD.out.1.setCell (p := ⟨g, x.toNat, none⟩) GG.out _, ws_set HD.out.2.1 _ _, by rw [List.length_set]; exact HD.out.2.2⟩, HF'⟩
          case measure =>
            simp [EW.out, intOf]
            omega
        · have hge : decide (y < 4) = false := decide_eq_false hly
          have hF := HG.out
          rw [show 4 - y.toNat = 0 by omega, winner] at hF
          have hF2 := HF.out
          rw [show 16 - x.toNat = (16 - (x + 1).toNat) + 1 by omega, wouter, ← hF] at hF2
          have HF' := Aside0.mk hF2
          have ew : wrap64 (x + 1) = x + 1 := by unfold wrap64; omega
          have EW := Aside0.mk ew
          clear hx hsz hl hll hly hy0 hy1 hF hF2 ew
          go_wp2
          have hl := L.out
          have hx := HX.out
          go_roundw
          case rel => exact ⟨x + 1, _, by rw [EW.out], ⟨by omega⟩, HT, HF'⟩
          case measure =>
            simp [EW.out, intOf]
            omega
    · have hge : decide (x < 16) = false := decide_eq_false hlt
      have hF := HF.out
      rw [show 16 - x.toNat = 0 by omega, wouter] at hF
      obtain ⟨L0, hL0⟩ : ∃ L0, L0 = wouter s 16 0 (List.replicate 64 0) := ⟨_, rfl⟩
      rw [← hL0] at hF
      have HL0 := Aside0.mk hL0
      subst hF
      clear hx0 hx1 hlt hsz hL0 HF BX BB
      go_wp2
      go_loopw [5] (fun i wr => ∃ (y : Int) (l' : List Int), i = .int .i64 y ∧ Aside0 (16 ≤ y ∧ y ≤ 64) ∧ Aside0 (Below w.heap.size w wr ∧ wr.heap[g]? = some (ws 93 l') ∧ l'.length = 64) ∧ Aside0 (wext (64 - y.toNat) y l' = wext 48 16 l)) (fun i _ => 64 - (intOf i).toNat)
      case atStart => exact ⟨16, _, rfl, ⟨by omega⟩, HS, ⟨rfl⟩⟩
      case round =>
        obtain ⟨y, l', rfl, HY, HT, HG⟩ := hrel
        obtain ⟨hy0, hy1⟩ := HY.out
        have hll := HT.out.2.2
        by_cases hly : y < 64
        · have hly2 : decide (y < 64) = true := decide_eq_true hly
          have q0 : ((0 : Int) ≤ y) = True := eq_true (by omega)
          have q1 : (y < (64 : Int)) = True := eq_true (by omega)
          obtain ⟨j15, hj15⟩ : ∃ j, j = y - 15 := ⟨_, rfl⟩
          have e15 : IntKind.i64.wrap (y - 15) = j15 := by rw [IntKind.wrap_i64]; omega
          have a15 : ((0 : Int) ≤ j15) = True := eq_true (by omega)
          have b15 : (j15 < (64 : Int)) = True := eq_true (by omega)
          have k15 := ws_at HT.out.2.1 j15 (by omega) (by omega)
          obtain ⟨j2, hj2⟩ : ∃ j, j = y - 2 := ⟨_, rfl⟩
          have e2 : IntKind.i64.wrap (y - 2) = j2 := by rw [IntKind.wrap_i64]; omega
          have a2 : ((0 : Int) ≤ j2) = True := eq_true (by omega)
          have b2 : (j2 < (64 : Int)) = True := eq_true (by omega)
          have k2 := ws_at HT.out.2.1 j2 (by omega) (by omega)
          obtain ⟨j16, hj16⟩ : ∃ j, j = y - 16 := ⟨_, rfl⟩
          have e16 : IntKind.i64.wrap (y - 16) = j16 := by rw [IntKind.wrap_i64]; omega
          have a16 : ((0 : Int) ≤ j16) = True := eq_true (by omega)
          have b16 : (j16 < (64 : Int)) = True := eq_true (by omega)
          have k16 := ws_at HT.out.2.1 j16 (by omega) (by omega)
          obtain ⟨j7, hj7⟩ : ∃ j, j = y - 7 := ⟨_, rfl⟩
          have e7 : IntKind.i64.wrap (y - 7) = j7 := by rw [IntKind.wrap_i64]; omega
          have a7 : ((0 : Int) ≤ j7) = True := eq_true (by omega)
          have b7 : (j7 < (64 : Int)) = True := eq_true (by omega)
          have k7 := ws_at HT.out.2.1 j7 (by omega) (by omega)
          have ew : wrap64 (y + 1) = y + 1 := by unfold wrap64; omega
          have EW := Aside0.mk ew
          have LY := Aside0.mk hly
          have hF := HG.out
          rw [show 64 - y.toNat = (64 - (y + 1).toNat) + 1 by omega, wext, ← hj16, ← hj7, ← hj15, ← hj2] at hF
          have HF' := Aside0.mk hF
          clear hy0 hy1 hll hly ew hj16 hj7 hj15 hj2 hF
          go_wp2
          go_still (by kernel_rfl)
          change Exit.then _ _ _ _ wr.drew
          have HD := Aside0.mk (show Below w.heap.size w wr.drew ∧ wr.drew.heap[g]? = some (ws 93 l') ∧ l'.length = 64 from ⟨below_drew1 HT.out.1, blk_drew HT.out.2.1, HT.out.2.2⟩)
          obtain ⟨wd, hwd⟩ : ∃ wd, wd = wr.drew := ⟨_, rfl⟩
          rw [← hwd] at HD ⊢
          clear hwd k15 k2 k16 k7
          have k16 := ws_at HD.out.2.1 j16 (of_eq_true a16) (by have := HD.out.2.2; have := of_eq_true b16; omega)
          have k7 := ws_at HD.out.2.1 j7 (of_eq_true a7) (by have := HD.out.2.2; have := of_eq_true b7; omega)
          go_wp2
          go_still_tail 29, (by kernel_rfl)
          still_call (right_same _ 7 _ _ (rot_some _ 7 (by kernel_rfl)))
          repeat still_step
          still_call (right_same _ 18 _ _ (rot_some _ 18 (by kernel_rfl)))
          repeat still_step
          still_call (right_same _ 17 _ _ (rot_some _ 17 (by kernel_rfl)))
          repeat still_step
          still_call (right_same _ 19 _ _ (rot_some _ 19 (by kernel_rfl)))
          repeat still_step
          refine wpStill_nil ?_
          change wpList _ _ _ _ _ wd.drew
          have HE := Aside0.mk (show Below w.heap.size w wd.drew ∧ wd.drew.heap[g]? = some (ws 93 l') ∧ l'.length = 64 from ⟨below_drew1 HD.out.1, blk_drew HD.out.2.1, HD.out.2.2⟩)
          obtain ⟨we, hwe⟩ : ∃ we, we = wd.drew := ⟨_, rfl⟩
          rw [← hwe] at HE ⊢
          clear hwe k16 k7
          have k1 := ws_at HE.out.2.1 y (of_eq_true q0) (by have := HE.out.2.2; have := of_eq_true q1; omega)
          have y1 : we.frozen? ⟨g, y.toNat, none⟩ = false := blk_frozen HE.out.2.1 _
          go_wp2
          have hl := LY.out
          have hy := HY.out
          go_roundw
          case rel => exact ⟨y + 1, _, by rw [EW.out], ⟨by omega⟩, ⟨HE.out.1.setCell (p := ⟨g, y.toNat, none⟩) GG.out _, ws_set HE.out.2.1 _ _, by rw [List.length_set]; exact HE.out.2.2⟩, HF'⟩
          case measure =>
            simp [EW.out, intOf]
            omega
        · have hge : decide (y < 64) = false := decide_eq_false hly
          have hF := HG.out
          rw [show 64 - y.toNat = 0 by omega, wext] at hF
          have HF' := Aside0.mk hF
          have HI := Aside0.mk (ws_info (l := l') (by kernel_rfl : (Tryd.prog.info? 93).map (·.size) = some 64) hll)
          clear hF hy0 hy1 hll hly
          go_wp2_with (first
            | ((with_reducible refine gate_dst (N := 71) rfl ?_); refine wpList_load_row rfl 93 _ rfl g rfl 93 _ (0, 0) _ HT.out.2.1 Tryd.underlying93 rfl HI.out ?_)
            | (refine wpList_store_row rfl 93 _ _ rfl g _ rfl rfl 93 _ HT.out.2.1 HI.out rfl (ws_one l') ?_))
          (try simp only [Exit.inBlock, Exit.then])
          refine bodyPost_ret (results_cell_row rfl _ _ g 93 _ (0, 0) _ rfl (setRow_heap _ g _ _ 93 (0, 0) HT.out.2.1) Tryd.underlying93 rfl HI.out) rfl ?_
          exact ⟨by rw [HF'.out, HL0.out]; rfl, below_setRow HT.out.1 GG.out _⟩
end Go.Proofs.YthbljhmjppjcjaaDoor.Z
end

section
/- hash.state.take: one block's rounds. -/
namespace Go.Proofs.YthbljhmjppjcjaaDoor.Z
open Go.RowKit Go.Proofs.YthbljhmjppjcjaaDoorW.PrintWords Go.Proofs.YthbljhmjppjcjaaDoorW.PrintLast Go.Proofs.YthbljhmjppjcjaaDoorW.PrintMore
set_option linter.unusedVariables false
set_option linter.unusedSimpArgs false
theorem wordsF_len (s : ByteArray) : (wordsF s).length = 64 := by
  have h1 : ∀ d t l, (wouter s d t l).length = l.length := by
    intro d
    induction d with
    | zero => intro t l; rfl
    | succ d ih => intro t l; rw [wouter, ih, winner_len]
  have h2 : ∀ d t l, (wext d t l).length = l.length := by
    intro d
    induction d with
    | zero => intro t l; rfl
    | succ d ih => intro t l; rw [wext, ih, List.length_set]
  rw [wordsF, h2, h1]
  rfl
theorem agg_at {l : List Int} {V : Array Value} (h : V = (l.map (fun x => Value.int .u32 x)).toArray) (i : Int) (h0 : 0 ≤ i) (hi : i < l.length) : V[i.toNat]? = some (.int .u32 (rd l i)) := by
  subst h
  rw [List.getElem?_toArray, List.getElem?_map, rd, List.getD_eq_getElem?_getD, List.getElem?_eq_getElem (show i.toNat < l.length by omega)]
  rfl
theorem index_words {V : Array Value} {x v : Int} (h0 : 0 ≤ x) (h1 : x < 64) (hV : V[x.toNat]? = some (.int .u32 v)) (W : World) : (Instr.index 93 (.agg V) (.int .i64 x)).run Tryd.prog W = .ok (.int .u32 v) W := by
  have hs : (Tryd.prog.info? 27).map (·.size) = some 1 := by kernel_rfl
  cases hq : Tryd.prog.info? 27 with
  | none => simp [hq] at hs
  | some i =>
    have hi : i.size = 1 := by simpa [hq] using hs
    simp [Instr.index, asIntOf, run_underlying Tryd.underlying93, go_sem, h0, h1, sizeOf, typeInfo, hq, hi, Sem.run_bind]
    rw [hV]
    rfl
theorem index_eight {V : Array Value} {x v : Int} (h0 : 0 ≤ x) (h1 : x < 8) (hV : V[x.toNat]? = some (.int .u32 v)) (W : World) : (Instr.index 68 (.agg V) (.int .i64 x)).run Tryd.prog W = .ok (.int .u32 v) W := by
  have hs : (Tryd.prog.info? 27).map (·.size) = some 1 := by kernel_rfl
  cases hq : Tryd.prog.info? 27 with
  | none => simp [hq] at hs
  | some i =>
    have hi : i.size = 1 := by simpa [hq] using hs
    simp [Instr.index, asIntOf, run_underlying Tryd.underlying68, go_sem, h0, h1, sizeOf, typeInfo, hq, hi, Sem.run_bind]
    rw [hV]
    rfl
theorem below_le {A B : Nat} {w w' : World} (h : Below A w w') (hle : B ≤ A) : Below B w w' := ⟨h.os, h.tape, h.output, h.size, fun k hk => h.block k (by omega)⟩
theorem Step.below {g : Nat} {w w1 w2 : World} {o : Obj} (h : Step g w w1 o) (hb : Below w1.heap.size w1 w2) : Step g w w2 o := by
  have hg : g < w1.heap.size := blk_lt h.1
  exact h.trans ⟨blk_below h.1 hb, ⟨hb.size, fun k hk _ _ => hb.block k hk⟩, fun B hB => below_le hb (by omega)⟩
def T1 (K W : List Int) (x e f g z : Int) : Int := IntKind.u32.wrap (IntKind.u32.wrap (IntKind.u32.wrap (IntKind.u32.wrap (z + Go.bits .xor .u32 (Go.bits .xor .u32 (rot e 6) (rot e 11)) (rot e 25)) + Go.bits .xor .u32 g (Go.bits .and .u32 e (Go.bits .xor .u32 f g))) + rd K x) + rd W x)
def T2 (a b c : Int) : Int := (Go.bits .xor .u32 (Go.bits .xor .u32 (rot a 2) (rot a 13)) (rot a 22) + Go.bits .or .u32 (Go.bits .and .u32 a b) (Go.bits .and .u32 c (Go.bits .or .u32 a b))) % 4294967296
structure Sha where (a b c d e f g z : Int)
def rounds (K W : List Int) : Nat → Int → Sha → Sha
  | 0, _, s => s
  | n + 1, x, s => rounds K W n (x + 1) ⟨(T1 K W x s.e s.f s.g s.z + T2 s.a s.b s.c) % 4294967296, s.a, s.b, s.c, (s.d + T1 K W x s.e s.f s.g s.z) % 4294967296, s.e, s.f, s.g⟩
def addF (v : List Int) : Nat → Int → List Int → List Int
  | 0, _, l => l
  | n + 1, x, l => addF v n (x + 1) (l.set x.toNat ((rd l x + rd v x) % 4294967296))
def Sha.list (s : Sha) : List Int := [s.a, s.b, s.c, s.d, s.e, s.f, s.g, s.z]
set_option maxRecDepth 100000 in
set_option maxHeartbeats 6400000 in
theorem take_calls (s : ByteArray) (hs : s.size = 64) (gh gk : Nat) (K : List Int) (hK : K.length = 64) (a0 a1 a2 a3 a4 a5 a6 a7 : Int) (w : World) (hh : w.heap[gh]? = some (ws 69 [a0, a1, a2, a3, a4, a5, a6, a7])) (hk : w.heap[gk]? = some (ws 93 K)) :
    Calls Tryd.prog 23 #[.pointer (some ⟨gh, 0, none⟩), .string s, .pointer (some ⟨gk, 0, none⟩)] w fun e w' => e = .returned (.tuple #[]) ∧ Step gh w w' (ws 69 (addF (rounds K (wordsF s) 64 0 ⟨a0, a1, a2, a3, a4, a5, a6, a7⟩).list 8 0 [a0, a1, a2, a3, a4, a5, a6, a7])) := by
  have HA := Aside0.mk hs
  have HKL := Aside0.mk hK
  have NE := Aside0.mk (show gk ≠ gh by
    intro e
    subst e
    have := hh.symm.trans hk
    simp [ws] at this)
  have HH := Aside0.mk (Step.refl hh)
  have HK := Aside0.mk hk
  have r0 : w.cell? ⟨gh, 0, none⟩ = some (.int .u32 a0) := (blk_cell hh 0).trans rfl
  have r1 : w.cell? ⟨gh, 1, none⟩ = some (.int .u32 a1) := (blk_cell hh 1).trans rfl
  have r2 : w.cell? ⟨gh, 2, none⟩ = some (.int .u32 a2) := (blk_cell hh 2).trans rfl
  have r3 : w.cell? ⟨gh, 3, none⟩ = some (.int .u32 a3) := (blk_cell hh 3).trans rfl
  have r4 : w.cell? ⟨gh, 4, none⟩ = some (.int .u32 a4) := (blk_cell hh 4).trans rfl
  have r5 : w.cell? ⟨gh, 5, none⟩ = some (.int .u32 a5) := (blk_cell hh 5).trans rfl
  have r6 : w.cell? ⟨gh, 6, none⟩ = some (.int .u32 a6) := (blk_cell hh 6).trans rfl
  have r7 : w.cell? ⟨gh, 7, none⟩ = some (.int .u32 a7) := (blk_cell hh 7).trans rfl
  clear hs hK hh hk
  go_enter Tryd.func23, Tryd.ntmps23
  go_wp2
  refine wp_region_still_lit (by kernel_rfl) (by kernel_rfl) ?_
  repeat still_step
  refine wpStill_nil ?_
  change Exit.then _ _ _ _ w.drew
  have HD := Aside0.mk (And.intro HH.out.drew (blk_drew HK.out))
  obtain ⟨wd, hwd⟩ : ∃ wd, wd = w.drew := ⟨_, rfl⟩
  rw [← hwd] at HD ⊢
  clear hwd r0 r1 r2 r3 r4 r5 r6 r7
  go_wp2_with (go_at_call 38; refine (words_calls s HA.out _).mono ?_; rintro e w2 ⟨rfl, hb⟩; have H2 := Aside0.mk (And.intro (HD.out.1.below hb) (blk_below HD.out.2 hb)); obtain ⟨V, hV⟩ : ∃ V : Array Value, V = ((wordsF s).map (fun x => Value.int .u32 x)).toArray := ⟨_, rfl⟩; rw [← hV]; have HV := Aside0.mk hV; clear hb hV)
  go_loopw [6, 7, 8, 9, 10, 11, 12, 13, 54] (fun va vb vc vd ve vf vg vz i wr => ∃ (x a b c d e f g z : Int), i = .int .i64 x ∧ va = .int .u32 a ∧ vb = .int .u32 b ∧ vc = .int .u32 c ∧ vd = .int .u32 d ∧ ve = .int .u32 e ∧ vf = .int .u32 f ∧ vg = .int .u32 g ∧ vz = .int .u32 z ∧ Aside0 (0 ≤ x ∧ x ≤ 64) ∧ Aside0 (Step gh w wr (ws 69 [a0, a1, a2, a3, a4, a5, a6, a7]) ∧ wr.heap[gk]? = some (ws 93 K)) ∧ Aside0 (rounds K (wordsF s) (64 - x.toNat) x ⟨a, b, c, d, e, f, g, z⟩ = rounds K (wordsF s) 64 0 ⟨a0, a1, a2, a3, a4, a5, a6, a7⟩)) (fun _ _ _ _ _ _ _ _ i _ => 64 - (intOf i).toNat)
  case atStart => exact ⟨0, _, _, _, _, _, _, _, _, rfl, rfl, rfl, rfl, rfl, rfl, rfl, rfl, rfl, ⟨by omega⟩, H2, ⟨rfl⟩⟩
  case round =>
    obtain ⟨x, a, b, c, d, e, f, g, z, rfl, rfl, rfl, rfl, rfl, rfl, rfl, rfl, rfl, HX, HS, HF⟩ := hrel
    obtain ⟨hx0, hx1⟩ := HX.out
    by_cases hlt : x < 64
    · have hlt2 : decide (x < 64) = true := decide_eq_true hlt
      have q0 : ((0 : Int) ≤ x) = True := eq_true hx0
      have q1 : (x < (64 : Int)) = True := eq_true hlt
      have q2 := agg_at HV.out x hx0 (by rw [wordsF_len]; exact hlt)
      have k0 := ws_at HS.out.2 x hx0 (by rw [HKL.out]; exact hlt)
      have ix := index_words hx0 hlt q2
      have L := Aside0.mk hlt
      have hF := HF.out
      rw [show 64 - x.toNat = (64 - (x + 1).toNat) + 1 by omega, rounds] at hF
      have HF' := Aside0.mk hF
      have ew : wrap64 (x + 1) = x + 1 := by unfold wrap64; omega
      have EW := Aside0.mk ew
      clear hlt hx0 hx1 hF ew
      go_wp2
      refine wp_region_still_lit (by kernel_rfl) (by kernel_rfl) ?_
      repeat still_step
      still_call (right_same _ 6 _ _ (rot_some _ 6 (by kernel_rfl)))
      repeat still_step
      still_call (right_same _ 11 _ _ (rot_some _ 11 (by kernel_rfl)))
      repeat still_step
      still_call (right_same _ 25 _ _ (rot_some _ 25 (by kernel_rfl)))
      repeat still_step
      refine wpStill_nil ?_
      change Exit.then _ _ _ _ wr.drew
      have HE := Aside0.mk (And.intro HS.out.1.drew (blk_drew HS.out.2))
      obtain ⟨we, hwe⟩ : ∃ we, we = wr.drew := ⟨_, rfl⟩
      rw [← hwe] at HE ⊢
      obtain ⟨t1, ht1⟩ : ∃ t1, t1 = T1 K (wordsF s) x e f g z := ⟨_, rfl⟩
      have ht1' := ht1
      unfold T1 at ht1'
      rw [← ht1']
      have HT1 := Aside0.mk ht1
      clear hwe k0 ix q2 ht1 ht1'
      go_wp2_with (first
        | (go_at_call 39; with_reducible refine (right_same _ 2 _ _ (rot_some _ 2 (by kernel_rfl))).mono ?_; rintro e w' ⟨rfl, rfl⟩)
        | (go_at_call 39; with_reducible refine (right_same _ 13 _ _ (rot_some _ 13 (by kernel_rfl))).mono ?_; rintro e w' ⟨rfl, rfl⟩)
        | (go_at_call 39; with_reducible refine (right_same _ 22 _ _ (rot_some _ 22 (by kernel_rfl))).mono ?_; rintro e w' ⟨rfl, rfl⟩))
      have hl := L.out
      have hx := HX.out
      have hF := HF'.out
      simp only [← HT1.out] at hF
      go_roundw
      case rel => exact ⟨x + 1, _, _, _, _, _, _, _, _, by rw [EW.out], rfl, rfl, rfl, rfl, rfl, rfl, rfl, rfl, ⟨by omega⟩, HE, ⟨hF⟩⟩
      case measure =>
        simp [EW.out, intOf]
        omega
    · have hge : decide (x < 64) = false := decide_eq_false hlt
      have hF := HF.out
      rw [show 64 - x.toNat = 0 by omega, rounds] at hF
      have HF2 := Aside0.mk hF
      clear hlt hx0 hx1 hF HF
      go_wp2
      go_loopw [124] (fun i wr => ∃ (y : Int) (l : List Int), i = .int .i64 y ∧ Aside0 (0 ≤ y ∧ y ≤ 8) ∧ Aside0 (Step gh w wr (ws 69 l) ∧ l.length = 8) ∧ Aside0 (addF (Sha.list ⟨a, b, c, d, e, f, g, z⟩) (8 - y.toNat) y l = addF (Sha.list ⟨a, b, c, d, e, f, g, z⟩) 8 0 [a0, a1, a2, a3, a4, a5, a6, a7])) (fun i _ => 8 - (intOf i).toNat)
      case atStart => exact ⟨0, _, rfl, ⟨by omega⟩, ⟨HS.out.1, rfl⟩, ⟨rfl⟩⟩
      case round =>
        obtain ⟨y, l, rfl, HY, HT, HG⟩ := hrel
        obtain ⟨hy0, hy1⟩ := HY.out
        have hll := HT.out.2
        by_cases hly : y < 8
        · have hly2 : decide (y < 8) = true := decide_eq_true hly
          have q0 : ((0 : Int) ≤ y) = True := eq_true hy0
          have q1 : (y < (8 : Int)) = True := eq_true hly
          have q2 := agg_at (V := #[.int .u32 a, .int .u32 b, .int .u32 c, .int .u32 d, .int .u32 e, .int .u32 f, .int .u32 g, .int .u32 z]) (l := Sha.list ⟨a, b, c, d, e, f, g, z⟩) rfl y hy0 hly
          have ix := index_eight hy0 hly q2
          have hG := HG.out
          rw [show 8 - y.toNat = (8 - (y + 1).toNat) + 1 by omega, addF] at hG
          obtain ⟨X, hX⟩ : ∃ X, X = rd (Sha.list ⟨a, b, c, d, e, f, g, z⟩) y := ⟨_, rfl⟩
          rw [← hX] at ix hG
          have HG' := Aside0.mk hG
          have k0 := ws_at HT.out.1.1 y hy0 (by rw [hll]; exact hly)
          have LY := Aside0.mk hly
          have ew : wrap64 (y + 1) = y + 1 := by unfold wrap64; omega
          have EW := Aside0.mk ew
          clear hly hy0 hy1 hG ew q2 hX hll
          go_wp2
          go_still_tail 9, (by kernel_rfl)
          change wpList _ _ _ _ _ wr.drew
          have HE := Aside0.mk HT.out.1.drew
          obtain ⟨we, hwe⟩ : ∃ we, we = wr.drew := ⟨_, rfl⟩
          rw [← hwe] at HE ⊢
          have k1 := ws_at HE.out.1 y (of_eq_true q0) (by rw [HT.out.2]; exact of_eq_true q1)
          have y1 : we.frozen? ⟨gh, y.toNat, none⟩ = false := blk_frozen HE.out.1 _
          clear hwe k0
          go_wp2
          have hl := LY.out
          have hy := HY.out
          go_roundw
          case rel => exact ⟨y + 1, _, by rw [EW.out], ⟨by omega⟩, ⟨HE.out.ws _ _, by rw [List.length_set]; exact HT.out.2⟩, HG'⟩
          case measure =>
            simp [EW.out, intOf]
            omega
        · have hge : decide (y < 8) = false := decide_eq_false hly
          have hG := HG.out
          rw [show 8 - y.toNat = 0 by omega, addF] at hG
          clear hly hy0 hy1 hll HG
          go_wp2
          go_end0
          exact ⟨rfl, by rw [← HF2.out, ← hG]; exact HT.out.1⟩
def sK : List Int := [1116352408, 1899447441, 3049323471, 3921009573, 961987163, 1508970993, 2453635748, 2870763221, 3624381080, 310598401, 607225278, 1426881987, 1925078388, 2162078206, 2614888103, 3248222580, 3835390401, 4022224774, 264347078, 604807628, 770255983, 1249150122, 1555081692, 1996064986, 2554220882, 2821834349, 2952996808, 3210313671, 3336571891, 3584528711, 113926993, 338241895, 666307205, 773529912, 1294757372, 1396182291, 1695183700, 1986661051, 2177026350, 2456956037, 2730485921, 2820302411, 3259730800, 3345764771, 3516065817, 3600352804, 4094571909, 275423344, 430227734, 506948616, 659060556, 883997877, 958139571, 1322822218, 1537002063, 1747873779, 1955562222, 2024104815, 2227730452, 2361852424, 2428436474, 2756734187, 3204031479, 3329325298]
def sIV : List Int := [1779033703, 3144134277, 1013904242, 2773480762, 1359893119, 2600822924, 528734635, 1541459225]
/-- One block: "abc", as it is filled up. -/
def blk1 : ByteArray := ⟨#[97, 98, 99, 128, 0, 0, 0, 0, 0, 0, 0, 0, 0, 0, 0, 0, 0, 0, 0, 0, 0, 0, 0, 0, 0, 0, 0, 0, 0, 0, 0, 0, 0, 0, 0, 0, 0, 0, 0, 0, 0, 0, 0, 0, 0, 0, 0, 0, 0, 0, 0, 0, 0, 0, 0, 0, 0, 0, 0, 0, 0, 0, 0, 24]⟩
theorem sha_abc : addF (rounds sK (wordsF blk1) 64 0 ⟨1779033703, 3144134277, 1013904242, 2773480762, 1359893119, 2600822924, 528734635, 1541459225⟩).list 8 0 sIV = [3128432319, 2399260650, 1094795486, 1571693091, 2953011619, 2518121116, 3021012833, 4060091821] := by kernel_rfl
end Go.Proofs.YthbljhmjppjcjaaDoor.Z
end

section
-- Printed by a program of this session (mp.py) out of the translation.
namespace Go.Proofs.YthbljhmjppjcjaaDoor.Z
open Go.RowKit Go.Proofs.YthbljhmjppjcjaaDoorW.PrintWords Go.Proofs.YthbljhmjppjcjaaDoorW.PrintLast Go.Proofs.YthbljhmjppjcjaaDoorW.PrintMore
attribute [local go_sem] max2_int min2_int max_two min_two max_three min_three max_four min_four   -- for this text's walks alone
set_option linter.unusedVariables false
set_option linter.unusedSimpArgs false

/-! ### hash_tail: function 24 -/
def hash_tail.l0 : Nat → Int → List Int → Int → Option (ByteArray)
  | 0, _, _, _ => none
  | k + 1, x0, x4, x16 => if x16 < 8 then (if 0 ≤ (wrap64 (8 * x16)) then (if 0 ≤ (wrap64 ((wrap64 ((x4.length : Int) - 1)) - x16)) then (if (wrap64 ((wrap64 ((x4.length : Int) - 1)) - x16)) < (x4.length : Int) then (hash_tail.l0 k x0 (x4.set ((wrap64 ((wrap64 ((x4.length : Int) - 1)) - x16)) : Int).toNat ((shr .u64 (IntKind.u64.wrap ((IntKind.u64.wrap (x0)) * 8)) (wrap64 (8 * x16))) % 256)) (wrap64 (x16 + 1))) else (none)) else (none)) else (none)) else (some (strOfNums x4))
def hash_tail.f (k : Nat) (a0 : Int) : Option (ByteArray) := if 0 ≤ (wrap64 ((wrap64 (1 + (Int.tmod (wrap64 (119 - (Int.tmod a0 64))) 64))) + 8)) then (if (wrap64 ((wrap64 (1 + (Int.tmod (wrap64 (119 - (Int.tmod a0 64))) 64))) + 8) : Int).toNat ≤ 281474976710656 then ((some (List.replicate (wrap64 ((wrap64 (1 + (Int.tmod (wrap64 (119 - (Int.tmod a0 64))) 64))) + 8) : Int).toNat 0 : List Int)).bind fun y101 => (if 0 < (y101.length : Int) then (hash_tail.l0 k a0 (y101.set (0 : Int).toNat 128) 0) else (none))) else (none)) else (none)
theorem hash_tail.mono_l : ∀ k, (∀ y0 y1 y2, LeO (hash_tail.l0 k y0 y1 y2) (hash_tail.l0 (k + 1) y0 y1 y2))
  | 0 => fun _ _ _ r h => by simp [hash_tail.l0] at h
  | k + 1 => by
    have ih0 := hash_tail.mono_l k
    · intro y0 y1 y2
      unfold hash_tail.l0
      repeat' first
      | (with_reducible exact ih0 _ _ _)
      | (with_reducible exact LeO.refl _)
      | (with_reducible exact LeO.none _)
      | (with_reducible refine LeO.ite ?_ ?_)
      | (with_reducible refine LeO.bind ?_ (fun _ => ?_))
      | exact ih0 _ _ _
      | exact LeO.none _
      | refine LeO.ite ?_ ?_
      | refine LeO.bind ?_ (fun _ => ?_)
theorem hash_tail.mono : ∀ a0 k, LeO (hash_tail.f k a0) (hash_tail.f (k + 1) a0) := by
  intro a0 k
  have ih0 := hash_tail.mono_l k
  unfold hash_tail.f
  repeat' first
      | (with_reducible exact ih0 _ _ _)
      | (with_reducible exact LeO.refl _)
      | (with_reducible exact LeO.none _)
      | (with_reducible refine LeO.ite ?_ ?_)
      | (with_reducible refine LeO.bind ?_ (fun _ => ?_))
      | exact ih0 _ _ _
      | exact LeO.none _
      | refine LeO.ite ?_ ?_
      | refine LeO.bind ?_ (fun _ => ?_)
set_option maxHeartbeats 8000000 in
set_option maxRecDepth 100000 in
theorem hash_tail.calls (k : Nat) (a0 : Int) (r : ByteArray) (w : World) (h : hash_tail.f k a0 = some r) :
    Calls Tryd.prog 24 #[.int .i64 a0] w fun e w' => e = .returned (.string r) ∧ Below w.heap.size w w' := by
  have HB := Aside0.mk (Below.refl w.heap.size w)
  have H : (if 0 ≤ (wrap64 ((wrap64 (1 + (Int.tmod (wrap64 (119 - (Int.tmod a0 64))) 64))) + 8)) then (if (wrap64 ((wrap64 (1 + (Int.tmod (wrap64 (119 - (Int.tmod a0 64))) 64))) + 8) : Int).toNat ≤ 281474976710656 then ((some (List.replicate (wrap64 ((wrap64 (1 + (Int.tmod (wrap64 (119 - (Int.tmod a0 64))) 64))) + 8) : Int).toNat 0 : List Int)).bind fun y101 => (if 0 < (y101.length : Int) then (hash_tail.l0 k a0 (y101.set (0 : Int).toNat 128) 0) else (none))) else (none)) else (none)) = some r := h
  clear h
  obtain ⟨ji2, hji2⟩ : ∃ j_ : Int, (wrap64 ((wrap64 (1 + (Int.tmod (wrap64 (119 - (Int.tmod a0 64))) 64))) + 8)) = j_ := ⟨_, rfl⟩
  replace H : (if 0 ≤ (ji2) then (if (ji2 : Int).toNat ≤ 281474976710656 then ((some (List.replicate (ji2 : Int).toNat 0 : List Int)).bind fun y101 => (if 0 < (y101.length : Int) then (hash_tail.l0 k a0 (y101.set (0 : Int).toNat 128) 0) else (none))) else (none)) else (none)) = some r := by first | (rw [hji2] at H; exact H) | (simp only [hji2] at H ⊢; exact H)
  have hji2w : (IntKind.i64.wrap ((wrap64 (1 + (Int.tmod (wrap64 (119 - (Int.tmod a0 64))) 64))) + 8)) = ji2 := (i64_w _).trans hji2
  by_cases c3 : 0 ≤ (ji2)
  · rw [if_pos c3] at H
    have c3b0 := eq_true c3
    have c3b1 : decide (0 ≤ (ji2)) = true := decide_eq_true c3
    clear c3
    by_cases c4 : (ji2 : Int).toNat ≤ 281474976710656
    · rw [if_pos c4] at H
      have c4b0 := eq_true c4
      have c4b1 : decide ((ji2 : Int).toNat ≤ 281474976710656) = true := decide_eq_true c4
      (try simp only [Int.toNat_natCast] at c4b1)
      clear c4
      obtain ⟨y101, hy101⟩ : ∃ y_ : List Int, y_ = (List.replicate (ji2 : Int).toNat 0) := ⟨_, rfl⟩
      replace H : (if 0 < (y101.length : Int) then (hash_tail.l0 k a0 (y101.set (0 : Int).toNat 128) 0) else (none)) = some r := by first | (rw [hy101]; with_reducible exact H) | (have H2_ := (Option.bind_some _ _).symm.trans H; rw [hy101]; with_reducible exact H2_) | (have H2_ := (Option.bind_some _ _).symm.trans H; with_reducible exact H2_) | with_reducible exact H | (rw [hy101]; exact H) | exact H
      have Ny101 := Aside0.mk hy101
      clear hy101
      by_cases c5 : 0 < (y101.length : Int)
      · rw [if_pos c5] at H
        have c5b0 : decide (0 < (y101.length : Int)) = true := decide_eq_true c5
        have c5b1 : decide (0 < y101.length) = true := decide_eq_true (by omega)
        clear c5
        obtain ⟨y104, hy104⟩ : ∃ y_ : List Int, y_ = (y101.set (0 : Int).toNat 128) := ⟨_, rfl⟩
        replace H : (hash_tail.l0 k a0 y104 0) = some r := by first | (rw [hy104]; with_reducible exact H) | (have H2_ := (Option.bind_some _ _).symm.trans H; rw [hy104]; with_reducible exact H2_) | (have H2_ := (Option.bind_some _ _).symm.trans H; with_reducible exact H2_) | with_reducible exact H | (rw [hy104]; exact H) | exact H
        have Ny104 := Aside0.mk hy104
        clear hy104
        have H' := Aside0.mk H
        clear H
        go_enter Tryd.func24, Tryd.ntmps24
        go_wp2_with (first | ((with_reducible refine gate_dst (N := 13) rfl ?_); refine Kd.R_make (Kd.int .u8) _ 5 rfl (N := 13) rfl 96 _ _ rfl ji2 rfl rfl Tryd.underlying96 (.int .u8 0) 1 info5 rfl (by decide) (by omega) 0 (ok := fun _ => True) (okp := fun _ => True) rfl (fun _ hk => hk) trivial (of_decide_eq_true (by first | (with_reducible assumption) | assumption)) (Nat.le_trans (Nat.mul_le_mul_right _ (of_decide_eq_true (by first | (with_reducible assumption) | assumption) : ji2.toNat ≤ 281474976710656)) (by omega)) (Below.refl _ _) (Nat.le_refl _) ?_; intro v102 w7 ho8 hb hg_ hnew_; clear hg_ hnew_; (first | rw [← Ny101.out] at ho8 | (simp only [Int.reduceToNat] at ho8; rw [← Ny101.out] at ho8)); have HO103 := rl_ ho8; replace HB := hb_ hb; clear hb ho8; have p6 : 0 ≤ (0 : Int) := (by omega); have q6 : (0 : Int) < ((y101.length : Int) : Int) := of_decide_eq_true (by first | (with_reducible assumption) | assumption); have qi6 : (0 < y101.length) = True := eq_true (by omega); obtain ⟨go6, co6, eo6, gb6, gl6, cl6, HG6⟩ := Kd.R_form HO103.out (by omega); (first | cases eo6 | (injection eo6 with ea_ en_ ec_; (first | subst ea_ | (injection ea_ with ea_; subst ea_)); subst ec_; clear en_)); have GB6 := Aside0.mk gb6; have GG6 := Aside0.mk HG6; clear gb6 gl6 HG6; obtain ⟨hx6_0, hf6_0⟩ := Kd.R_celln 0 HO103.out (0 : Int) p6 q6; (try rw [show ((0 : Int)).toNat = 0 from rfl] at hx6_0); (try simp only [Nat.reduceMul, Nat.zero_mul, Nat.zero_add, Nat.reduceAdd] at hx6_0); (try rw [show ((0 : Int)).toNat = 0 from rfl] at hf6_0); (try simp only [Nat.reduceMul, Nat.zero_mul, Nat.zero_add, Nat.reduceAdd] at hf6_0); replace p6 := eq_true p6; replace q6 := eq_true q6; obtain ⟨hy9_, hz9_⟩ := Kd.R_celln 0 HO103.out (0 : Int) (by omega) (of_decide_eq_true (by first | (with_reducible assumption) | assumption)); (try simp only [Int.reduceToNat, Int.toNat_zero, Int.toNat_ofNat, Nat.reduceMul, Nat.zero_mul, Nat.zero_add] at hy9_ hz9_); (try rw [show ((0 : Int)).toNat = 0 from rfl] at hy9_); (try rw [show ((0 : Int)).toNat = 0 from rfl] at hz9_); have HP9 := Kd.R_putg HO103.out (0 : Int) 128) | ((with_reducible refine gate_store (t := 5) (p := 15) rfl ?_); refine store_event (t := 5) (p := 15) (v := ?vo_w10) (w1 := (w7.setCell ⟨go6, (0 : Int).toNat, none⟩ (.int .u8 128))) ?hg ?ho ?hn ?hr ?_; (case ho => rfl); (case hg => rfl); (case hn => rfl); (case hr => first | (go_simp; done) | (go_simp; rfl)); intro w10 hw; have hg : w7.grownBy w10 (some go6) := (by rw [hw]; exact HP9.2); have hp_ : Kd.R (Kd.int .u8) 5 w10 w.heap.size (fun _ => True) (.slice (some ⟨go6, 0, none⟩) y101.length co6) y104 := (by rw [hw, Ny104.out]; exact HP9.1); clear HP9; replace HO103 := Aside0.mk (hp_); replace HB := Aside0.mk ((by rw [hw]; exact below_set (HB.out) GB6.out : Below w.heap.size w w10)); clear hg hw hp_))
        go_loopg [16] k (fun kq v16 w' => ∃ (x4_1 : List Int) (x16_1 : Int), v16 = .int .i64 x16_1 ∧ Aside0 (hash_tail.l0 kq a0 x4_1 x16_1 = some r) ∧ Aside0 (kq ≤ k) ∧ Aside0 (Kd.R (Kd.int .u8) 5 w' w.heap.size (fun _ => True) (.slice (some ⟨go6, 0, none⟩) y101.length co6) x4_1) ∧ Aside0 (Below w.heap.size w w'))
        case atStart => exact ⟨(y104), (0), (by first | rfl | (simp; done) | (simp [*]; done)), H', ⟨Nat.le_refl _⟩, ⟨ra_ HO103⟩, ⟨bel_⟩⟩
        case round =>
          clear H'
          try clear c2
          try clear p2
          try clear c3
          try clear c3b0
          try clear c3b1
          try clear c4
          try clear c4b0
          try clear c4b1
          try clear c5
          try clear c5b0
          try clear c5b1
          try clear p6
          try clear q6
          try clear hx6
          try clear qi6
          try clear hf6
          try clear hx6_0
          try clear p6
          try clear q6
          obtain ⟨x4_1, x16_1, rfl, HA, HK1, HO_4, HB⟩ := hrel
          have hl4_1 := (Kd.R_reads' HO_4.out).1
          rw [hl4_1] at HO_4
          (try simp only [hl4_1])
          cases gk with
          | zero => exact absurd HA.out (by simp [hash_tail.l0])
          | succ k1 =>
            have H := HA.out
            clear HA
            simp only [hash_tail.l0] at H
            by_cases c11 : x16_1 < 8
            · rw [if_pos c11] at H
              have c11b0 : decide (x16_1 < 8) = true := decide_eq_true c11
              clear c11
              obtain ⟨ji12, hji12⟩ : ∃ j_ : Int, (wrap64 (8 * x16_1)) = j_ := ⟨_, rfl⟩
              replace H : (if 0 ≤ (ji12) then (if 0 ≤ (wrap64 ((wrap64 ((x4_1.length : Int) - 1)) - x16_1)) then (if (wrap64 ((wrap64 ((x4_1.length : Int) - 1)) - x16_1)) < (x4_1.length : Int) then (hash_tail.l0 k1 a0 (x4_1.set ((wrap64 ((wrap64 ((x4_1.length : Int) - 1)) - x16_1)) : Int).toNat ((shr .u64 (IntKind.u64.wrap ((IntKind.u64.wrap (a0)) * 8)) (ji12)) % 256)) (wrap64 (x16_1 + 1))) else (none)) else (none)) else (none)) = some r := by first | (rw [hji12] at H; exact H) | (simp only [hji12] at H ⊢; exact H)
              have hji12w : (IntKind.i64.wrap (8 * x16_1)) = ji12 := (i64_w _).trans hji12
              by_cases c13 : 0 ≤ (ji12)
              · rw [if_pos c13] at H
                have c13b0 := eq_true c13
                have c13b1 : decide (0 ≤ (ji12)) = true := decide_eq_true c13
                clear c13
                obtain ⟨ji14, hji14⟩ : ∃ j_ : Int, (shr .u64 (IntKind.u64.wrap ((IntKind.u64.wrap (a0)) * 8)) (ji12)) = j_ := ⟨_, rfl⟩
                replace H : (if 0 ≤ (wrap64 ((wrap64 ((x4_1.length : Int) - 1)) - x16_1)) then (if (wrap64 ((wrap64 ((x4_1.length : Int) - 1)) - x16_1)) < (x4_1.length : Int) then (hash_tail.l0 k1 a0 (x4_1.set ((wrap64 ((wrap64 ((x4_1.length : Int) - 1)) - x16_1)) : Int).toNat ((ji14) % 256)) (wrap64 (x16_1 + 1))) else (none)) else (none)) = some r := by first | (rw [hji14] at H; exact H) | (simp only [hji14] at H ⊢; exact H)
                have hji14_ : ((IntKind.u64.wrap ((IntKind.u64.wrap (a0)) * 8)) / 2 ^ min (ji12).toNat 64) = ji14 := hji14
                have hji14z : (ji12) ≤ 64 → ((IntKind.u64.wrap ((IntKind.u64.wrap (a0)) * 8)) / 2 ^ (ji12).toNat) = ji14 := shr_small hji14
                obtain ⟨ji15, hji15⟩ : ∃ j_ : Int, (wrap64 ((wrap64 ((x4_1.length : Int) - 1)) - x16_1)) = j_ := ⟨_, rfl⟩
                replace H : (if 0 ≤ (ji15) then (if (ji15) < (x4_1.length : Int) then (hash_tail.l0 k1 a0 (x4_1.set ((ji15) : Int).toNat ((ji14) % 256)) (wrap64 (x16_1 + 1))) else (none)) else (none)) = some r := by first | (rw [hji15] at H; exact H) | (simp only [hji15] at H ⊢; exact H)
                have hji15w : (IntKind.i64.wrap ((wrap64 ((x4_1.length : Int) - 1)) - x16_1)) = ji15 := (i64_w _).trans hji15
                by_cases c16 : 0 ≤ (ji15)
                · rw [if_pos c16] at H
                  have c16b0 : decide (0 ≤ (ji15)) = true := decide_eq_true c16
                  clear c16
                  by_cases c17 : (ji15) < (x4_1.length : Int)
                  · rw [if_pos c17] at H
                    have c17b0 : decide ((ji15) < (x4_1.length : Int)) = true := decide_eq_true c17
                    try (have c17b0y := c17b0; simp only [hl4_1] at c17b0y)
                    clear c17
                    obtain ⟨y105, hy105⟩ : ∃ y_ : List Int, y_ = (x4_1.set ((ji15) : Int).toNat ((ji14) % 256)) := ⟨_, rfl⟩
                    replace H : (hash_tail.l0 k1 a0 y105 (wrap64 (x16_1 + 1))) = some r := by first | (rw [hy105]; with_reducible exact H) | (have H2_ := (Option.bind_some _ _).symm.trans H; rw [hy105]; with_reducible exact H2_) | (have H2_ := (Option.bind_some _ _).symm.trans H; with_reducible exact H2_) | with_reducible exact H | (rw [hy105]; exact H) | exact H
                    have Ny105 := Aside0.mk hy105
                    clear hy105
                    have H' := Aside0.mk H
                    clear H
                    have p18 : 0 ≤ ((ji15) : Int) := of_decide_eq_true (by first | (with_reducible assumption) | assumption)
                    have q18 : ((ji15) : Int) < ((x4_1.length : Int) : Int) := of_decide_eq_true (by first | (with_reducible assumption) | assumption)
                    obtain ⟨hx18_0, hf18_0⟩ := Kd.R_celln 0 HO_4.out ((ji15) : Int) p18 q18
                    replace p18 := eq_true p18
                    replace q18 := eq_true q18
                    have HP19 := Kd.R_putg HO_4.out ((ji15) : Int) ((ji14) % 256)
                    go_wp2_with (first | ((with_reducible refine gate_store (t := 5) (p := 32) rfl ?_); refine store_event (t := 5) (p := 32) (v := ?vo_w20) (w1 := (wr.setCell ⟨go6, ((ji15) : Int).toNat, none⟩ (.int .u8 ((ji14) % 256)))) ?hg ?ho ?hn ?hr ?_; (case ho => rfl); (case hg => rfl); (case hn => rfl); (case hr => first | (go_simp; done) | (go_simp; rfl)); intro w20 hw; have hg : wr.grownBy w20 (some go6) := (by rw [hw]; exact HP19.2); have hp_ : Kd.R (Kd.int .u8) 5 w20 w.heap.size (fun _ => True) (.slice (some ⟨go6, 0, none⟩) x4_1.length co6) y105 := (by rw [hw, Ny105.out]; exact HP19.1); clear HP19; replace HO_4 := Aside0.mk (hp_); replace HB := Aside0.mk ((by rw [hw]; exact below_set (HB.out) GB6.out : Below w.heap.size w w20)); clear hg hw hp_))
                    (try simp only [← hl4_1])
                    go_roundg k1
                    case measure => have := HK1.out; omega
                    case rel => exact ⟨(y105), (wrap64 (x16_1 + 1)), (by first | rfl | (simp; done) | (simp [*]; done)), H', ⟨by have := HK1.out; omega⟩, ⟨by (try simp only [hl4_1]); (with_reducible repeat (first | apply Kd.R_alloc | apply Kd.R_drewN | apply Kd.R_drew)); exact HO_4.out⟩, ⟨bel_⟩⟩
                  · rw [if_neg c17] at H
                    exact absurd H (by simp)
                · rw [if_neg c16] at H
                  exact absurd H (by simp)
              · rw [if_neg c13] at H
                exact absurd H (by simp)
            · rw [if_neg c11] at H
              have c11b0 : decide (x16_1 < 8) = false := decide_eq_false c11
              clear c11
              obtain rfl := Option.some.inj H
              have hcv21 := own_string (P := Tryd.prog) Tryd.underlying96 Tryd.underlying5 Tryd.underlying9 (Kd.own_of_R HO_4.out)
              go_wp2
              go_ret
              exact ⟨by first | rfl | (simp [errW_none, errW_some] <;> rfl) | (simp only [← hji2]; first | rfl | (simp [errW_none, errW_some] <;> rfl)) | (simp [*, errW_none, errW_some] <;> rfl), bel_⟩
      · rw [if_neg c5] at H
        exact absurd H (by simp)
    · rw [if_neg c4] at H
      exact absurd H (by simp)
  · rw [if_neg c3] at H
    exact absurd H (by simp)

end Go.Proofs.YthbljhmjppjcjaaDoor.Z
end

section
/- hash.Sum of "abc": its first byte. -/
namespace Go.Proofs.YthbljhmjppjcjaaDoor.Z
open Go.RowKit Go.Proofs.YthbljhmjppjcjaaDoorW.PrintWords Go.Proofs.YthbljhmjppjcjaaDoorW.PrintLast Go.Proofs.YthbljhmjppjcjaaDoorW.PrintMore
set_option linter.unusedVariables false
set_option linter.unusedSimpArgs false
set_option maxRecDepth 100000 in
set_option maxHeartbeats 3200000 in
theorem rounds_calls (w : World) : Calls Tryd.prog 22 #[] w fun e w' => ∃ g, e = .returned (.pointer (some ⟨g, 0, none⟩)) ∧ w.heap.size ≤ g ∧ w'.heap[g]? = some (ws 93 sK) ∧ Below w.heap.size w w' := by
  go_enter Tryd.func22, Tryd.ntmps22
  go_wp2_with ((with_reducible refine gate_dst (N := 2) rfl ?_); refine box_event ?hg (N := 2) ?hd (cs := (sK.map (fun x => Value.int .u32 x)).toArray) (t := 93) ?hr ?_; (case hd => rfl); (case hg => rfl); (case hr => first | (go_simp; done) | (go_simp; rfl)); intro g hg w1 hx hb; have BX := Aside0.mk (show w1.heap[g]? = some (ws 93 sK) from hx); have BB := Aside0.mk hb; have GG := Aside0.mk (show w.heap.size ≤ g by omega); clear hx hb hg)
  go_ret
  exact ⟨g, rfl, GG.out, BX.out, BB.out⟩
/-- An array of bytes in memory. -/
def bs (t : TypeId) (l : List Int) : Obj := .cells (l.map (fun x => Value.int .u8 x)).toArray t (0, 0)
theorem bs_cell {w : World} {g : Nat} {t : TypeId} {l : List Int} (h : w.heap[g]? = some (bs t l)) (i : Int) (h0 : 0 ≤ i) (hi : i < l.length) : ∃ v, w.cell? ⟨g, i.toNat, none⟩ = some v := by
  rw [blk_cell h, List.getElem?_toArray, List.getElem?_map, List.getElem?_eq_getElem (show i.toNat < l.length by omega)]
  exact ⟨_, rfl⟩
theorem bs_set {w : World} {g : Nat} {t : TypeId} {l : List Int} (h : w.heap[g]? = some (bs t l)) (i : Nat) (x : Int) : (w.setCell ⟨g, i, none⟩ (.int .u8 x)).heap[g]? = some (bs t (l.set i x)) := by
  rw [blk_set h]
  congr 2
  simp [bs]
theorem bs_info {p : Option Nat} {n : Nat} {l : List Int} (h : p = some n) (hl : l.length = n) : p = some (l.map (fun x => Value.int .u8 x)).toArray.size := by
  rw [h]
  simp [hl]
theorem bs_one (l : List Int) : ((l.map (fun x => Value.int .u8 x)).toArray).all (·.oneCell') = true := by
  simp [Value.oneCell']
theorem setRow_far (w : World) (g k : Nat) (cs : Array Value) (h : k ≠ g) : (w.setRow g cs).heap[k]? = w.heap[k]? := by
  simp only [World.setRow, Array.getElem?_modify]
  rw [if_neg (fun e => h e.symm)]
theorem info8 : (Tryd.prog.info? 69).map (·.size) = some (#[.int .u32 1779033703, .int .u32 3144134277, .int .u32 1013904242, .int .u32 2773480762, .int .u32 1359893119, .int .u32 2600822924, .int .u32 528734635, .int .u32 1541459225] : Array Value).size := by kernel_rfl
def abcT : ByteArray := ⟨#[128, 0, 0, 0, 0, 0, 0, 0, 0, 0, 0, 0, 0, 0, 0, 0, 0, 0, 0, 0, 0, 0, 0, 0, 0, 0, 0, 0, 0, 0, 0, 0, 0, 0, 0, 0, 0, 0, 0, 0, 0, 0, 0, 0, 0, 0, 0, 0, 0, 0, 0, 0, 0, 0, 0, 0, 0, 0, 0, 0, 24]⟩
theorem abc_tail : hash_tail.f 20 3 = some abcT := by kernel_rfl
def H0 : List Int := addF (rounds sK (wordsF blk1) 64 0 ⟨1779033703, 3144134277, 1013904242, 2773480762, 1359893119, 2600822924, 528734635, 1541459225⟩).list 8 0 sIV
theorem H0_len : H0.length = 8 := by unfold H0; rw [sha_abc]; rfl
theorem H0_rd : rd H0 0 = 3128432319 := by unfold H0; rw [sha_abc]; rfl
set_option maxRecDepth 100000 in
set_option maxHeartbeats 6400000 in
theorem hsum_calls (w : World) :
    Calls Tryd.prog 12 #[.string ⟨#[97, 98, 99]⟩] w fun e w' => ∃ l : List Int, e = .returned (.agg (l.map (fun x => Value.int .u8 x)).toArray) ∧ l.length = 32 ∧ rd l 0 = 186 ∧ Below w.heap.size w w' := by
  go_enter Tryd.func12, Tryd.ntmps12
  go_wp2_with (first
    | ((with_reducible refine gate_dst (N := 2) rfl ?_); refine box_event ?hg (N := 2) ?hd (cs := ((List.replicate 32 (0 : Int)).map (fun x => Value.int .u8 x)).toArray) (t := 42) ?hr ?_; (case hd => rfl); (case hg => rfl); (case hr => first | (go_simp; done) | (go_simp; rfl)); intro go hgo w1 hx hb; have O1 := Aside0.mk (show w1.heap[go]? = some (bs 42 (List.replicate 32 0)) from hx); have B1 := Aside0.mk hb; have GO := Aside0.mk (show w.heap.size ≤ go by omega); clear hx hb hgo)
    | ((with_reducible refine gate_dst (N := 3) rfl ?_); refine box_event ?hg (N := 3) ?hd (cs := ((List.replicate 8 (0 : Int)).map (fun x => Value.int .u32 x)).toArray) (t := 69) ?hr ?_; (case hd => rfl); (case hg => rfl); (case hr => first | (go_simp; done) | (go_simp; rfl)); intro gh hgh w2 hx hb; have I2 := Aside0.mk (show w2.heap[gh]? = some (ws 69 (List.replicate 8 0)) from hx); have O2 := Aside0.mk (blk_below O1.out hb); have B2 := Aside0.mk (below_step B1.out hb); have GH := Aside0.mk (show w.heap.size ≤ gh ∧ go ≠ gh from ⟨by have := B1.out.size; omega, by rw [hgh]; exact Nat.ne_of_lt (blk_lt O1.out)⟩);  have q0 : w2.cell? ⟨gh, 0, none⟩ = some (.int .u32 0) := (blk_cell I2.out 0).trans rfl; have f0 : w2.frozen? ⟨gh, 0, none⟩ = false := blk_frozen I2.out 0; have q1 : w2.cell? ⟨gh, 1, none⟩ = some (.int .u32 0) := (blk_cell I2.out 1).trans rfl; have f1 : w2.frozen? ⟨gh, 1, none⟩ = false := blk_frozen I2.out 1; have q2 : w2.cell? ⟨gh, 2, none⟩ = some (.int .u32 0) := (blk_cell I2.out 2).trans rfl; have f2 : w2.frozen? ⟨gh, 2, none⟩ = false := blk_frozen I2.out 2; have q3 : w2.cell? ⟨gh, 3, none⟩ = some (.int .u32 0) := (blk_cell I2.out 3).trans rfl; have f3 : w2.frozen? ⟨gh, 3, none⟩ = false := blk_frozen I2.out 3; have q4 : w2.cell? ⟨gh, 4, none⟩ = some (.int .u32 0) := (blk_cell I2.out 4).trans rfl; have f4 : w2.frozen? ⟨gh, 4, none⟩ = false := blk_frozen I2.out 4; have q5 : w2.cell? ⟨gh, 5, none⟩ = some (.int .u32 0) := (blk_cell I2.out 5).trans rfl; have f5 : w2.frozen? ⟨gh, 5, none⟩ = false := blk_frozen I2.out 5; have q6 : w2.cell? ⟨gh, 6, none⟩ = some (.int .u32 0) := (blk_cell I2.out 6).trans rfl; have f6 : w2.frozen? ⟨gh, 6, none⟩ = false := blk_frozen I2.out 6; have q7 : w2.cell? ⟨gh, 7, none⟩ = some (.int .u32 0) := (blk_cell I2.out 7).trans rfl; have f7 : w2.frozen? ⟨gh, 7, none⟩ = false := blk_frozen I2.out 7; have S8 := Aside0.mk (show Step gh w2 ((((((((w2.setCell ⟨gh, 0, none⟩ (.int .u32 1779033703)).setCell ⟨gh, 1, none⟩ (.int .u32 3144134277)).setCell ⟨gh, 2, none⟩ (.int .u32 1013904242)).setCell ⟨gh, 3, none⟩ (.int .u32 2773480762)).setCell ⟨gh, 4, none⟩ (.int .u32 1359893119)).setCell ⟨gh, 5, none⟩ (.int .u32 2600822924)).setCell ⟨gh, 6, none⟩ (.int .u32 528734635)).setCell ⟨gh, 7, none⟩ (.int .u32 1541459225)) (ws 69 sIV) from (((((((((Step.refl I2.out).ws 0 1779033703).ws 1 3144134277).ws 2 1013904242).ws 3 2773480762).ws 4 1359893119).ws 5 2600822924).ws 6 528734635).ws 7 1541459225)); clear hx hb hgh)
    | (go_at_call 22; have S8' := S8.out; clear S8 q0 q1 q2 q3 q4 q5 q6 q7 f0 f1 f2 f3 f4 f5 f6 f7; obtain ⟨w3, hw3⟩ : ∃ w3, w3 = ((((((((w2.setCell ⟨gh, 0, none⟩ (.int .u32 1779033703)).setCell ⟨gh, 1, none⟩ (.int .u32 3144134277)).setCell ⟨gh, 2, none⟩ (.int .u32 1013904242)).setCell ⟨gh, 3, none⟩ (.int .u32 2773480762)).setCell ⟨gh, 4, none⟩ (.int .u32 1359893119)).setCell ⟨gh, 5, none⟩ (.int .u32 2600822924)).setCell ⟨gh, 6, none⟩ (.int .u32 528734635)).setCell ⟨gh, 7, none⟩ (.int .u32 1541459225)) := ⟨_, rfl⟩; rw [← hw3] at S8' ⊢; have I3 := Aside0.mk S8'.1; have O3 := Aside0.mk ((S8'.2.1.2 go (blk_lt O2.out) GH.out.2 (by simp)).trans O2.out); have B3 := Aside0.mk (B2.out.trans (S8'.2.2 _ GH.out.1)); clear hw3 S8'; refine (rounds_calls _).mono ?_; rintro e w4 ⟨gk, rfl, hgk, hk, hb⟩; have I4 := Aside0.mk (blk_below I3.out hb); have O4 := Aside0.mk (blk_below O3.out hb); have K4 := Aside0.mk hk; have B4 := Aside0.mk (below_step B3.out hb); clear hk hb hgk)
    | (go_at_call 24; refine (hash_tail.calls 20 3 abcT _ abc_tail).mono ?_; rintro e w5 ⟨rfl, hb⟩; have I5 := Aside0.mk (blk_below I4.out hb); have O5 := Aside0.mk (blk_below O4.out hb); have K5 := Aside0.mk (blk_below K4.out hb); have B5 := Aside0.mk (below_step B4.out hb); clear hb))
  obtain ⟨w6, hw6⟩ : ∃ w6, w6 = w5 := ⟨_, rfl⟩
  go_loopw [0] (fun sv wr => ∃ B : ByteArray, sv = .string B ∧ Aside0 (Below w.heap.size w wr ∧ wr.heap[go]? = some (bs 42 (List.replicate 32 0)) ∧ wr.heap[gk]? = some (ws 93 sK) ∧ (B = blk1 ∧ wr.heap[gh]? = some (ws 69 sIV) ∨ B = ⟨#[]⟩ ∧ wr.heap[gh]? = some (ws 69 H0)))) (fun sv _ => match sv with | .string b => b.size | _ => 0)
  case atStart => exact ⟨_, rfl, ⟨B5.out, O5.out, K5.out, .inl ⟨by decide, I5.out⟩⟩⟩
  case round =>
    obtain ⟨B, rfl, HS⟩ := hrel
    obtain ⟨hB, hO, hK, hc | hc⟩ := HS.out
    · have hsz : B.toList.isEmpty = false := by rw [hc.1]; kernel_rfl
      have hs0 : ((64 : Int) ≤ (B.size : Int)) = True := eq_true (by rw [hc.1]; decide)
      have he : B.extract 0 64 = blk1 := by rw [hc.1]; kernel_rfl
      have hr : B.extract 64 B.size = ⟨#[]⟩ := by rw [hc.1]; kernel_rfl
      have HBS := Aside0.mk (show B.size = 64 by rw [hc.1]; rfl)
      have NK := Aside0.mk (show gk ≠ gh ∧ go ≠ gh from ⟨by
        intro e
        rw [e] at hK
        have := hK.symm.trans hc.2
        simp [ws] at this, GH.out.2⟩)
      have CC := Aside0.mk hc.2
      clear hB hO hK hc
      go_wp2_with (go_at_call 23; refine (take_calls blk1 rfl gh gk sK rfl _ _ _ _ _ _ _ _ wr CC.out HS.out.2.2.1).mono ?_; rintro e w7 ⟨rfl, h7⟩; have S7 := Aside0.mk h7; clear h7)
      have hs := HS.out
      have nk := NK.out
      have s7 := S7.out
      have hz := HBS.out
      go_roundw
      case rel => exact ⟨⟨#[]⟩, rfl, ⟨hs.1.trans (s7.2.2 _ GH.out.1), (s7.2.1.2 go (blk_lt hs.2.1) nk.2 (by simp)).trans hs.2.1, (s7.2.1.2 gk (blk_lt hs.2.2.1) nk.1 (by simp)).trans hs.2.2.1, .inr ⟨rfl, s7.1⟩⟩⟩
      case measure =>
        show 0 < B.size
        omega
    · have hsz : B.toList.isEmpty = true := by rw [hc.1]; kernel_rfl
      have HR := Aside0.mk (And.intro hB (And.intro hO hc.2))
      clear hB hO hK hc HS
      go_wp2
      go_loopw [23] (fun i wr => ∃ (y : Int) (l : List Int), i = .int .i64 y ∧ Aside0 (0 ≤ y ∧ y ≤ 32) ∧ Aside0 (Below w.heap.size w wr ∧ wr.heap[go]? = some (bs 42 l) ∧ wr.heap[gh]? = some (ws 69 H0) ∧ l.length = 32) ∧ Aside0 (0 < y → rd l 0 = 186)) (fun i _ => 32 - (intOf i).toNat)
      case atStart => exact ⟨0, _, rfl, ⟨by omega⟩, ⟨HR.out.1, HR.out.2.1, HR.out.2.2, by simp⟩, ⟨fun h => by omega⟩⟩
      case round =>
        obtain ⟨y, l, rfl, HY, HT, HG⟩ := hrel
        obtain ⟨hy0, hy1⟩ := HY.out
        have hll := HT.out.2.2.2
        by_cases hly : y < 32
        · have hly2 : decide (y < 32) = true := decide_eq_true hly
          have q0 : ((0 : Int) ≤ y) = True := eq_true hy0
          have q1 : (y < (32 : Int)) = True := eq_true hly
          obtain ⟨j, hj⟩ : ∃ j, j = Int.tdiv y 4 := ⟨_, rfl⟩
          have hj4 : j = y / 4 := by rw [hj, Int.tdiv_eq_ediv_of_nonneg hy0]
          have p0 : ((0 : Int) ≤ j) = True := eq_true (by omega)
          have p1 : (j < (8 : Int)) = True := eq_true (by omega)
          have ej : Int.tdiv y 4 = j := hj.symm
          have ej2 : IntKind.i64.wrap j = j := by rw [IntKind.wrap_i64]; omega
          have hmr : Int.tmod y 4 = y % 4 := Int.tmod_eq_emod_of_nonneg hy0
          obtain ⟨m0, hm0⟩ : ∃ m0, m0 = Int.tmod y 4 := ⟨_, rfl⟩
          have em0 : Int.tmod y 4 = m0 := hm0.symm
          obtain ⟨m1, hm1⟩ : ∃ m1, m1 = 8 * m0 := ⟨_, rfl⟩
          have em1 : IntKind.i64.wrap (8 * m0) = m1 := by rw [IntKind.wrap_i64]; omega
          obtain ⟨m2, hm2⟩ : ∃ m2, m2 = 24 - m1 := ⟨_, rfl⟩
          have em2 : IntKind.i64.wrap (24 - m1) = m2 := by rw [IntKind.wrap_i64]; omega
          have p2 : ((0 : Int) ≤ m2) = True := eq_true (by omega)
          have Y0 := Aside0.mk (show y = 0 → j = 0 ∧ m2 = 24 from fun e => by omega)
          have k0 := ws_at HT.out.2.2.1 j (by omega) (by rw [H0_len]; omega)
          have z0 : wr.frozen? ⟨go, y.toNat, none⟩ = false := blk_frozen HT.out.2.1 _
          obtain ⟨c0, k1⟩ := bs_cell HT.out.2.1 y hy0 (by omega)
          have LY := Aside0.mk hly
          have ew : wrap64 (y + 1) = y + 1 := by unfold wrap64; omega
          have EW := Aside0.mk ew
          clear hy0 hy1 hly hj hj4 hmr hm0 hm1 hm2 ew hll
          go_wp2
          have hl := LY.out
          have hy := HY.out
          go_roundw
          case rel =>
            refine ⟨y + 1, _, by rw [EW.out], ⟨by omega⟩, ⟨HT.out.1.setCell (p := ⟨go, y.toNat, none⟩) GO.out _, bs_set HT.out.2.1 _ _, (Below.heap_setCell wr ⟨go, y.toNat, none⟩ _ gh (fun e => GH.out.2 e.symm)).trans HT.out.2.2.1, by rw [List.length_set]; exact HT.out.2.2.2⟩, ⟨fun _ => ?_⟩⟩
            by_cases h0 : y = 0
            · obtain ⟨rfl, rfl⟩ := Y0.out h0
              subst h0
              rw [H0_rd]
              unfold rd
              rw [List.getD_eq_getElem?_getD, List.getElem?_set_self (by rw [HT.out.2.2.2]; decide)]
              rfl
            · have := HG.out (by omega)
              rw [← this]
              unfold rd
              rw [List.getD_eq_getElem?_getD, List.getElem?_set_ne (by omega), List.getD_eq_getElem?_getD]
          case measure =>
            simp [EW.out, intOf]
            omega
        · have hge : decide (y < 32) = false := decide_eq_false hly
          have HG' := Aside0.mk (HG.out (by omega))
          have HI := Aside0.mk (bs_info (l := l) (by kernel_rfl : (Tryd.prog.info? 42).map (·.size) = some 32) hll)
          clear hy0 hy1 hly hll
          go_wp2_with (first
            | ((with_reducible refine gate_dst (N := 39) rfl ?_); refine wpList_load_row rfl 42 _ rfl go rfl 42 _ (0, 0) _ HT.out.2.1 Tryd.underlying42 rfl HI.out ?_)
            | (refine wpList_store_row rfl 42 _ _ rfl go _ rfl rfl 42 _ HT.out.2.1 HI.out rfl (bs_one l) ?_))
          (try simp only [Exit.inBlock, Exit.then])
          refine bodyPost_ret (results_cell_row rfl _ _ go 42 _ (0, 0) _ rfl (setRow_heap _ go _ _ 42 (0, 0) HT.out.2.1) Tryd.underlying42 rfl HI.out) rfl ?_
          exact ⟨l, rfl, HT.out.2.2.2, HG'.out, below_setRow HT.out.1 GO.out _⟩
end Go.Proofs.YthbljhmjppjcjaaDoor.Z
end

section
/- pack.Sum: the sum of a text, byte by byte, bit by bit. -/
namespace Go.Proofs.YthbljhmjppjcjaaDoor.Z
open Go.RowKit Go.Proofs.YthbljhmjppjcjaaDoorW.PrintWords Go.Proofs.YthbljhmjppjcjaaDoorW.PrintLast Go.Proofs.YthbljhmjppjcjaaDoorW.PrintMore
set_option linter.unusedVariables false
set_option linter.unusedSimpArgs false
def reg (s n : Int) : Obj := .cells #[.int .u32 s, .int .u64 n] 66 (0, 0)
set_option maxRecDepth 100000 in
theorem reg_add64 (a : Addr) (n : Int) (w : World) (hc : w.cell? a = some (.int .u64 n)) (hz : w.frozen? a = false) :
    Calls Tryd.prog 51 #[.pointer (some a), .int .u64 1] w fun e w' => (∃ v, e = .returned v) ∧ w' = w.setCell a (.int .u64 (IntKind.u64.wrap (n + 1))) := by
  have hl := run_call_add (P := Tryd.prog) Tryd.func60 (by kernel_rfl) (by kernel_rfl) (by kernel_rfl) .u64 (by kernel_rfl) (y := 1) (s := IntKind.u64.wrap (n + 1)) hc hz (by simp [Op.intArith])
  go_enter Tryd.func51, Tryd.ntmps51
  go_wp2
  go_ret
  exact ⟨⟨_, rfl⟩, rfl⟩
set_option maxRecDepth 100000 in
theorem reg_meter (g : Nat) (s n : Int) (w : World) (hb : w.heap[g]? = some (reg s n)) :
    Calls Tryd.prog 33 #[.pointer (some ⟨g, 1, none⟩), .int .i64 1] w fun e w' => ∃ n', (∃ v, e = .returned v) ∧ Step g w w' (reg s n') := by
  have q5 : w.cell? ⟨g, 1, none⟩ = some (.int .u64 n) := (blk_cell hb 1).trans rfl
  have f5 : w.frozen? ⟨g, 1, none⟩ = false := blk_frozen hb 1
  have HS : Aside0 (Step g w (w.setCell ⟨g, 1, none⟩ (.int .u64 (IntKind.u64.wrap (n + 1)))) (reg s (IntKind.u64.wrap (n + 1)))) := ⟨(Step.refl hb).set 1 _ rfl⟩
  clear hb
  go_enter Tryd.func33, Tryd.ntmps33
  go_wp2_with (go_at_call 51; refine (reg_add64 ⟨g, 1, none⟩ n _ q5 f5).mono ?_; rintro e w' ⟨⟨v, rfl⟩, rfl⟩)
  go_ret
  exact ⟨_, ⟨_, rfl⟩, HS.out⟩
def rnd (s : Int) : Int := Go.bits .xor .u32 (shl .u32 s 1) (Go.bits .and .u32 2168537515 (IntKind.u32.wrap (-(shr .u32 s 31))))
def rnds : Nat → Int → Int
  | 0, s => s
  | d + 1, s => rnds d (rnd s)
def putC (s b : Int) : Int := rnds 8 (Go.bits .xor .u32 s (shl .u32 (IntKind.u32.wrap b) 24))
set_option maxRecDepth 100000 in
theorem reg_put (g : Nat) (s n b : Int) (w : World) (hb : w.heap[g]? = some (reg s n)) :
    Calls Tryd.prog 21 #[.pointer (some ⟨g, 0, none⟩), .int .u8 b] w fun e w' => ∃ n', e = .returned (.tuple #[]) ∧ Step g w w' (reg (putC s b) n') := by
  have HS := Aside0.mk (Step.refl hb)
  have HB := Aside0.mk hb
  clear hb
  go_enter Tryd.func21, Tryd.ntmps21
  go_wp2_with (go_at_call 33; refine (reg_meter g s n _ HB.out).mono ?_; rintro e w1 ⟨n', ⟨v, rfl⟩, h1⟩; have S1 := Aside0.mk h1; have q0 : w1.cell? ⟨g, 0, none⟩ = some (.int .u32 s) := (blk_cell h1.1 0).trans rfl; have z0 : w1.frozen? ⟨g, 0, none⟩ = false := blk_frozen h1.1 0; clear h1 HS)
  go_loopw [18] (fun i wr => ∃ (x : Int) (s' : Int), i = .int .i64 x ∧ Aside0 (0 ≤ x ∧ x ≤ 8) ∧ Aside0 (Step g w wr (reg s' n')) ∧ Aside0 (rnds (8 - x).toNat s' = putC s b)) (fun i _ => 8 - (intOf i).toNat)
  case atStart => exact ⟨0, _, rfl, ⟨by omega⟩, ⟨S1.out.set 0 _ rfl⟩, ⟨rfl⟩⟩
  case round =>
    obtain ⟨x, s', rfl, HX, HS, HF⟩ := hrel
    obtain ⟨hx0, hx1⟩ := HX.out
    have k0 : wr.cell? ⟨g, 0, none⟩ = some (.int .u32 s') := (blk_cell HS.out.1 0).trans rfl
    have y0 : wr.frozen? ⟨g, 0, none⟩ = false := blk_frozen HS.out.1 0
    by_cases hlt : x < 8
    · have hlt2 : decide (x < 8) = true := decide_eq_true hlt
      have ew : wrap64 (x + 1) = x + 1 := by unfold wrap64; omega
      have hF : rnds (8 - (x + 1)).toNat (rnd s') = putC s b := by
        have h := HF.out
        rw [show (8 - x).toNat = (8 - (x + 1)).toNat + 1 by omega, rnds] at h
        exact h
      have HF' := Aside0.mk hF
      have L := Aside0.mk hlt
      have EW := Aside0.mk ew
      clear hF hx0 hx1 hlt ew
      go_wp2
      go_still_tail 16, (by kernel_rfl)
      change wpList _ _ _ _ _ wr.drew
      have HD := Aside0.mk HS.out.drew
      obtain ⟨wd, hwd⟩ : ∃ wd, wd = wr.drew := ⟨_, rfl⟩
      rw [← hwd] at HD ⊢
      have k1 : wd.cell? ⟨g, 0, none⟩ = some (.int .u32 s') := (blk_cell HD.out.1 0).trans rfl
      have y1 : wd.frozen? ⟨g, 0, none⟩ = false := blk_frozen HD.out.1 0
      clear hwd k0 y0
      go_wp2
      have hl := L.out
      go_roundw
      case rel => exact ⟨x + 1, _, by rw [EW.out], ⟨by have := HX.out; omega⟩, ⟨HD.out.set 0 _ rfl⟩, HF'⟩
      case measure =>
        have := HX.out
        simp [EW.out, intOf]
        omega
    · have hge : decide (x < 8) = false := decide_eq_false hlt
      have hF := HF.out
      rw [show (8 - x).toNat = 0 by omega, rnds] at hF
      clear hx0 hx1 hlt k0 y0
      go_wp2
      go_end0
      exact ⟨_, rfl, hF ▸ HS.out⟩
def sumC (a : ByteArray) : Nat → Int → Int → Int
  | 0, _, s => s
  | d + 1, i, s => sumC a d (i + 1) (putC s (bt a i))
set_option maxRecDepth 100000 in
set_option maxHeartbeats 1600000 in
theorem sum_calls (a : ByteArray) (hs : (a.size : Int) ≤ 9223372036854775807) (w : World) :
    Calls Tryd.prog 11 #[.string a] w fun e w' => e = .returned (.int .u32 (sumC a a.size 0 0)) ∧ Below w.heap.size w w' := by
  have HA := Aside0.mk hs
  clear hs
  go_enter Tryd.func11, Tryd.ntmps11
  go_wp2_with ((with_reducible refine gate_dst (N := 3) rfl ?_); refine box_event ?hg (N := 3) ?hd (cs := #[.int .u32 0, .int .u64 0]) (t := 66) ?hr ?_; (case hd => rfl); (case hg => rfl); (case hr => first | (go_simp; done) | (go_simp; rfl)); intro g hg w1 hx hb; have BX := Aside0.mk hx; have BB := Aside0.mk hb; have GG := Aside0.mk (show w.heap.size ≤ g by omega); clear hx hb hg)
  go_loopw [7] (fun i wr => ∃ (x : Int) (s' n' : Int), i = .int .i64 x ∧ Aside0 (0 ≤ x ∧ x ≤ a.size) ∧ Aside0 (Below w.heap.size w wr ∧ wr.heap[g]? = some (reg s' n')) ∧ Aside0 (sumC a (a.size - x.toNat) x s' = sumC a a.size 0 0)) (fun i _ => a.size - (intOf i).toNat)
  case atStart => exact ⟨0, 0, 0, rfl, ⟨by omega⟩, ⟨BB.out, BX.out⟩, ⟨rfl⟩⟩
  case round =>
    obtain ⟨x, s', n', rfl, HX, HS, HF⟩ := hrel
    obtain ⟨hx0, hx1⟩ := HX.out
    have hsz := HA.out
    by_cases hlt : x < (a.size : Int)
    · have hlt2 : decide (x < (a.size : Int)) = true := decide_eq_true hlt
      have p0 : ((0 : Int) ≤ x) = True := eq_true hx0
      have p1 : (x < (a.size : Int)) = True := eq_true hlt
      have ew : wrap64 (x + 1) = x + 1 := by unfold wrap64; omega
      have hF : sumC a (a.size - (x + 1).toNat) (x + 1) (putC s' (bt a x)) = sumC a a.size 0 0 := by
        have h := HF.out
        rw [show a.size - x.toNat = (a.size - (x + 1).toNat) + 1 by omega, sumC] at h
        exact h
      have hbt := bt_at a x
      have HF' := Aside0.mk hF
      have L := Aside0.mk hlt
      have EW := Aside0.mk ew
      clear hF hlt ew hx0 hx1 hsz
      go_wp2_with (go_at_call 21; refine (reg_put g s' n' _ _ HS.out.2).mono ?_; rintro e w6 ⟨n2, rfl, h6⟩; have S6 := Aside0.mk h6; clear h6)
      have hl := L.out
      have hx := HX.out
      go_roundw
      case rel => exact ⟨x + 1, _, n2, by rw [EW.out], ⟨by omega⟩, ⟨HS.out.1.trans (S6.out.2.2 _ GG.out), S6.out.1⟩, HF'⟩
      case measure =>
        simp [EW.out, intOf]
        omega
    · have hge : decide (x < (a.size : Int)) = false := decide_eq_false hlt
      have hF := HF.out
      rw [show a.size - x.toNat = 0 by omega, sumC] at hF
      have k0 : wr.cell? ⟨g, 0, none⟩ = some (.int .u32 s') := (blk_cell HS.out.2 0).trans rfl
      clear hlt hx0 hx1 hsz
      go_wp2
      go_ret
      exact ⟨by rw [← hF]; rfl, HS.out.1⟩
theorem sum9 : sumC ⟨#[49, 50, 51, 52, 53, 54, 55, 56, 57]⟩ 9 0 0 = 806403967 := by kernel_rfl
end Go.Proofs.YthbljhmjppjcjaaDoor.Z
end

section
/- begins: the answers that the document gives are there. -/
namespace Go.Proofs.YthbljhmjppjcjaaDoor.Z
open Go.RowKit Go.Proofs.YthbljhmjppjcjaaDoorW.PrintWords Go.Proofs.YthbljhmjppjcjaaDoorW.PrintLast Go.Proofs.YthbljhmjppjcjaaDoorW.PrintMore
set_option linter.unusedVariables false
set_option linter.unusedSimpArgs false
theorem index_bytes {l : List Int} (h : l.length = 32) (W : World) : (Instr.index 42 (.agg (l.map (fun x => Value.int .u8 x)).toArray) (.int .i64 0)).run Tryd.prog W = .ok (.int .u8 (rd l 0)) W := by
  have hs : (Tryd.prog.info? 5).map (·.size) = some 1 := by kernel_rfl
  have hV : ((l.map (fun x => Value.int .u8 x)).toArray)[0]? = some (.int .u8 (rd l 0)) := by
    rw [List.getElem?_toArray, List.getElem?_map, rd, List.getD_eq_getElem?_getD, List.getElem?_eq_getElem (show (0 : Int).toNat < l.length by rw [h]; decide), List.getElem?_eq_getElem (show 0 < l.length by omega)]
    rfl
  cases hq : Tryd.prog.info? 5 with
  | none => simp [hq] at hs
  | some i =>
    have hi : i.size = 1 := by simpa [hq] using hs
    obtain ⟨V, hVV⟩ : ∃ V : Array Value, V = (l.map (fun x => Value.int .u8 x)).toArray := ⟨_, rfl⟩
    rw [← hVV] at hV ⊢
    simp [Instr.index, asIntOf, run_underlying Tryd.underlying42, go_sem, sizeOf, typeInfo, hq, hi, Sem.run_bind]
    rw [hV]
    rfl
def cambiumtop_begins.f : Option Bool := some true
set_option maxRecDepth 100000 in
set_option maxHeartbeats 3200000 in
theorem cambiumtop_begins.calls (r : Bool) (w : World) (h : cambiumtop_begins.f = some r) : Calls Tryd.prog 4 #[] w fun e w' => e = .returned (.bool r) ∧ Below w.heap.size w w' := by
  obtain rfl := Option.some.inj h
  clear h
  go_enter Tryd.func4, Tryd.ntmps4
  go_wp2_with (first
    | (go_at_call 11; refine (sum_calls ⟨#[49, 50, 51, 52, 53, 54, 55, 56, 57]⟩ (by decide) _).mono ?_; rintro e w1 ⟨rfl, hb⟩; rw [show (ByteArray.mk #[49, 50, 51, 52, 53, 54, 55, 56, 57]).size = 9 from rfl, sum9]; have B1 := Aside0.mk hb; clear hb)
    | (go_at_call 12; refine (hsum_calls _).mono ?_; rintro e w2 ⟨l, rfl, hl, h0, hb⟩; have ix := index_bytes hl; rw [h0] at ix; obtain ⟨V, hV⟩ : ∃ V : Array Value, V = (l.map (fun x => Value.int .u8 x)).toArray := ⟨_, rfl⟩; rw [← hV] at ix ⊢; have B2 := Aside0.mk (below_step B1.out hb); clear hb hV hl h0))
  go_ret
  exact ⟨rfl, B2.out⟩
end Go.Proofs.YthbljhmjppjcjaaDoor.Z
end

section
/- Rows of the call's own, cell by cell: what copy, clear and append in place do to them. -/
namespace Go.Proofs.YthbljhmjppjcjaaDoor.Z
open Go.RowKit Go.Proofs.YthbljhmjppjcjaaDoorW.PrintWords Go.Proofs.YthbljhmjppjcjaaDoorW.PrintLast
set_option linter.unusedVariables false
set_option linter.unusedSimpArgs false
theorem run_copy_k {P : Program} (w : World) (dT sT ty elem : TypeId) (b o dLen dCap : Nat) (a : Addr) (sLen sCap k : Nat) (cs : List Value)
    (hu : P.underlying dT = some (.slice elem)) (hs : (P.info? elem).map (·.size) = some k) (hn : cs.length = Nat.min sLen dLen * k)
    (hsrc : ∀ j v, cs[j]? = some v → w.cell? (a.add j) = some v) (hc : ∀ j, j < cs.length → (w.cell? ⟨b, o + j, none⟩).isSome = true) (hf : ∀ j, j < cs.length → w.frozen? ⟨b, o + j, none⟩ = false) (h1 : ∀ v ∈ cs, v.oneCell' = true) :
    (Builtin.copy_ #[dT, sT] ty #[.slice (some ⟨b, o, none⟩) dLen dCap, .slice (some a) sLen sCap]).run P w = .ok (goInt (Nat.min sLen dLen)) (w.setCells b o cs) := by
  have hl := run_loadCells_list (P := P) w a cs hsrc
  have hst := run_storeCells_cells (P := P) b o cs 0 w (by simpa using hc) (by simpa using hf) h1
  cases hq : P.info? elem with
  | none => simp [hq] at hs
  | some i =>
    have hi : i.size = k := by simpa [hq] using hs
    simp [Builtin.copy_, run_underlying hu, Builtin.lenOf, Builtin.firstCells, sizeOf, typeInfo, hq, hi, ← hn, hl, hst]
theorem run_clear_k {P : Program} (w : World) (t e ty : TypeId) (z : Value) (ht : P.underlying t = some (.slice e)) (hv : ∀ w, (zeroValue e).run P w = .ok z w) (h1 : ∀ u ∈ z.cells.toList, u.oneCell' = true) (b o n c : Nat) (hn : 0 < n)
    (hc : ∀ j, j < n * z.cells.size → (w.cell? ⟨b, o + j, none⟩).isSome = true) (hf : ∀ j, j < n * z.cells.size → w.frozen? ⟨b, o + j, none⟩ = false) :
    (Builtin.clear_ #[t] ty #[.slice (some ⟨b, o, none⟩) n c]).run P w = .ok (.tuple #[]) (w.setCells b o (Builtin.zeroCells z.cells n).toList) := by
  have hlen : (Builtin.zeroCells z.cells n).toList.length = n * z.cells.size := by rw [Array.length_toList, size_zeroCells]
  have hst := run_storeCells_cells (P := P) b o (Builtin.zeroCells z.cells n).toList 0 w (by rw [hlen]; simpa using hc) (by rw [hlen]; simpa using hf) (by
    intro u hu
    simp only [Builtin.zeroCells, Array.toList_map, List.mem_map] at hu
    obtain ⟨i, hi, rfl⟩ := hu
    have hi2 : i < n * z.cells.size := by simpa using hi
    have hz : 0 < z.cells.size := by rcases Nat.eq_zero_or_pos z.cells.size with h | h; · rw [h] at hi2; omega
                                     · exact h
    have hlt := Nat.mod_lt i hz
    rw [getElem!_pos z.cells _ hlt]
    exact h1 _ (by simp))
  simp only [Nat.add_zero] at hst
  obtain ⟨m, rfl⟩ : ∃ m, n = m + 1 := ⟨n - 1, by omega⟩
  simp [Builtin.clear_, run_underlying ht, hv, hst]
theorem wpList_clear_run {P : Program} (w : World) {ops : Array Oper} {rest : List Oper} {o : Oper} {a : Act} {Q : Exit → Act → World → Prop} (hgd : o.guard = none) (d : Operand) (t : TypeId)
    (ho : o.op = .call { callee := .builtin .clear, args := #[d], argTypes := #[t] }) (v : Value) (hd : a.eval d = v) {v' : Value} {w' : World}
    (hr : (Builtin.clear_ #[t] o.type #[v]).run P w = .ok v' w') (h : wpList P ops Q rest (a.put o.dst v') w') : wpList P ops Q (o :: rest) a w := by
  refine wpList_plain hgd fun _ hK => ?_
  unfold Oper.wp execOp
  simp only [ho, resolve, invoke, builtin, Sem.run_bind, Sem.run_pure, Result.andThen_ok, List.map_toArray, List.map_cons, List.map_nil, hd, hr]
  exact hK _ _ h
theorem wpList_copy_run_ {P : Program} (w : World) {ops : Array Oper} {rest : List Oper} {o : Oper} {a : Act} {Q : Exit → Act → World → Prop} (hgd : o.guard = none) (d s : Operand) (t t' : TypeId)
    (ho : o.op = .call { callee := .builtin .copy, args := #[d, s], argTypes := #[t, t'] }) (v u : Value) (hd : a.eval d = v) (hs : a.eval s = u) {v' : Value} {w' : World}
    (hr : (Builtin.copy_ #[t, t'] o.type #[v, u]).run P w = .ok v' w') (h : wpList P ops Q rest (a.put o.dst v') w') : wpList P ops Q (o :: rest) a w := by
  refine wpList_plain hgd fun _ hK => ?_
  unfold Oper.wp execOp
  simp only [ho, resolve, invoke, builtin, Sem.run_bind, Sem.run_pure, Result.andThen_ok, List.map_toArray, List.map_cons, List.map_nil, hd, hs, hr]
  exact hK _ _ h
/-- A copy as one step of a region that draws its order. -/
theorem step_copy_run_ {P : Program} {ops : Array Oper} {o : Oper} {a : Act} {w : World} {K : Act → World → Prop} {Q : Exit → Act → World → Prop} {E : Prop}
    (hg : o.guard = none) (d x : Operand) (dT sT : TypeId) (hop : o.op = Op.call { callee := Callee.builtin Builtin.copy, args := #[d, x], argTypes := #[dT, sT] })
    (v u : Value) (hd : a.eval d = v) (hx : a.eval x = u) {v' : Value} {w' : World} (hr : (Builtin.copy_ #[dT, sT] o.type #[v, u]).run P w = .ok v' w') (hK : K (a.put o.dst v') w') :
    if Region.wanted o (yielded ops a.tmps) = true then Oper.wp P o a w K Q else E := by
  have hw : Region.wanted o (yielded ops a.tmps) = true := by simp [Region.wanted, hg]
  rw [if_pos hw]
  unfold Oper.wp
  simp [execOp, hop, resolve, invoke, builtin, hd, hx, hr, Result.andThen]
  exact hK
/-- Flat elements: what they are hangs on no world. -/
theorem flat_M {α : Type} {d : Kd α} (hE : d.E = []) {w w' : World} {base : Nat} {ok ok' : Nat → Prop} {x : α} {cs : List Value} (h : d.M w base ok x cs) : d.M w' base ok' x cs := by
  have h1 := d.M_bound h
  have h2 : d.M w base (fun _ => False) x cs := d.M_mono (fun k hk => by obtain ⟨_, _, _, q, hq, _⟩ := hk; rw [hE] at hq; cases hq) h1
  exact d.M_mono (fun _ hk => hk.elim) (d.M_move (fun _ hk => hk.elim) h2)
theorem flat_one {α : Type} {d : Kd α} {w : World} {base : Nat} {ok : Nat → Prop} {xs : List α} {cs : List Value} (h : Reps (d.M w base ok) d.sz xs cs) (hs : 0 < d.sz) : ∀ u ∈ cs, u.oneCell' = true := by
  intro u hu
  obtain ⟨i, hi, rfl⟩ := List.getElem_of_mem hu
  have hl := h.1
  have hj : i / d.sz < xs.length := by rw [Nat.div_lt_iff_lt_mul hs]; omega
  have h2 := h.2 _ _ (List.getElem?_eq_getElem hj)
  refine d.K_one (d.K_of_M h2) _ ?_
  have hm := Nat.mod_lt i hs
  have hd := Nat.div_add_mod i d.sz
  have hmul : i / d.sz * d.sz = d.sz * (i / d.sz) := Nat.mul_comm _ _
  refine List.mem_iff_getElem?.2 ⟨i % d.sz, ?_⟩
  rw [List.getElem?_take, if_pos hm, List.getElem?_drop, show i / d.sz * d.sz + i % d.sz = i by omega, List.getElem?_eq_getElem hi]
/-- A row that is not empty, cell by cell. -/
theorem R_row {α : Type} {d : Kd α} {e base : Nat} {ok : Nat → Prop} {w : World} {v : Value} {xs : List α} (hE : d.E = []) (h : d.R e w base ok v xs) (hn : 0 < xs.length) :
    ∃ g cap cur inner, v = .slice (some ⟨g, 0, none⟩) xs.length cap ∧ base ≤ g ∧ ok g ∧ w.heap[g]? = some (.cells cur e (0, 0)) ∧ xs.length ≤ cap ∧ cap ≤ maxLen ∧ cur.size = cap * d.sz ∧ inner.length = xs.length * d.sz ∧
      cur.toList.take (xs.length * d.sz) = inner ∧ ∀ w' ok', Reps (d.M w' base ok') d.sz xs inner := by
  obtain ⟨h0, inner, ho, hr⟩ := h
  obtain ⟨h1, h2⟩ := ho
  rcases h2 with ⟨_, h2⟩ | ⟨g, cap, cur, rfl, hb, hg, hnc, hc, hsz, ht⟩
  · omega
  · exact ⟨g, cap, cur, inner, rfl, hb, h0 g rfl, hg, hnc, hc, hsz, h1, ht, fun w' ok' => hr.imp_ (fun _ _ hm => flat_M hE hm)⟩
theorem R_of_row {α : Type} {d : Kd α} {e base : Nat} {ok : Nat → Prop} {w : World} {xs : List α} {g cap : Nat} {cur : Array Value} {inner : List Value} (hb : base ≤ g) (hok : ok g) (hg : w.heap[g]? = some (.cells cur e (0, 0)))
    (hnc : xs.length ≤ cap) (hc : cap ≤ maxLen) (hsz : cur.size = cap * d.sz) (hl : inner.length = xs.length * d.sz) (ht : cur.toList.take (xs.length * d.sz) = inner) (hr : ∀ ok', Reps (d.M w base ok') d.sz xs inner) :
    d.R e w base ok (.slice (some ⟨g, 0, none⟩) xs.length cap) xs :=
  ⟨fun k hk => by have : g = k := by simpa [Value.ownBlock] using hk
                  subst this; exact hok, inner, ⟨hl, .inr ⟨g, cap, cur, rfl, hb, hg, hnc, hc, hsz, ht⟩⟩, hr _⟩
theorem row_cell {w : World} {g e : Nat} {cur : Array Value} (hg : w.heap[g]? = some (.cells cur e (0, 0))) (j : Nat) : w.cell? ⟨g, j, none⟩ = cur.toList[j]? := by
  rw [blk_cell hg j]; simp
theorem row_some {w : World} {g e : Nat} {cur : Array Value} (hg : w.heap[g]? = some (.cells cur e (0, 0))) (j : Nat) (h : j < cur.size) : (w.cell? ⟨g, j, none⟩).isSome = true := by
  rw [row_cell hg j, List.getElem?_eq_getElem (by simpa using h)]; rfl
theorem below_setCells {w0 w : World} {B g : Nat} (h : Below B w0 w) (hg : B ≤ g) (o : Nat) (vs : List Value) : Below B w0 (w.setCells g o vs) := by
  obtain ⟨h1, h2, h3, h4⟩ := setCells_same g vs o w
  exact ⟨h1.trans h.os, h2.trans h.tape, h3.trans h.output, by rw [h4]; exact h.size, fun k hk => (setCells_far vs o k (by omega)).trans (h.block k hk)⟩
theorem kept_setCells {w W : World} {S : Nat → Prop} {g : Nat} (h : Kept w W S) (hg : S g ∨ w.heap.size ≤ g) (o : Nat) (vs : List Value) : Kept w (W.setCells g o vs) S := by
  obtain ⟨_, _, _, h4⟩ := setCells_same g vs o W
  refine ⟨by rw [h4]; exact h.1, fun i hi hn => ?_⟩
  rw [setCells_far vs o i (by rintro rfl; rcases hg with hg | hg; · exact hn hg
                              · omega)]
  exact h.2 i hi hn
theorem reps_cells {α : Type} {R : α → List Value → Prop} {k : Nat} {xs : List α} {cs : List Value} (h : Reps R k xs cs) : cs.length = xs.length * k := h.1
/-- What is read, as one list of cells. -/
theorem C_cells {α : Type} {d : Kd α} {w : World} {A : Option Addr} {n : Nat} {l : List α} (h : d.C w A n l) (hn : 0 < n) :
    ∃ ad inner, A = some ad ∧ Reps (d.K w) d.sz l inner ∧ ∀ j u, inner[j]? = some u → w.cell? (ad.add j) = some u := by
  obtain ⟨hl, _, hc0⟩ := h
  obtain ⟨ad, rfl, hc⟩ := hc0 hn
  have pre : ∀ m, m ≤ l.length → ∃ inner, Reps (d.K w) d.sz (l.take m) inner ∧ ∀ j u, inner[j]? = some u → w.cell? (ad.add j) = some u := by
    intro m
    induction m with
    | zero => exact fun _ => ⟨[], by simpa using Reps.none _ _, fun j u hu => by simp at hu⟩
    | succ m ih =>
      intro hm
      obtain ⟨inner, h1, h2⟩ := ih (by omega)
      obtain ⟨c, hs, hK, hcell⟩ := hc m _ (List.getElem?_eq_getElem (by omega))
      refine ⟨inner ++ c, ?_, fun j u hu => ?_⟩
      · rw [List.take_succ_eq_append_getElem (by omega)]
        exact h1.snoc hK hs
      · have hil : inner.length = m * d.sz := by rw [h1.1, List.length_take, Nat.min_eq_left (by omega)]
        rcases Nat.lt_or_ge j inner.length with hj | hj
        · rw [List.getElem?_append_left hj] at hu; exact h2 j u hu
        · rw [List.getElem?_append_right hj] at hu
          have := hcell (j - inner.length) u hu
          rw [hil, show m * d.sz + (j - m * d.sz) = j by omega] at this
          exact this
  obtain ⟨inner, h1, h2⟩ := pre l.length (Nat.le_refl _)
  rw [List.take_length] at h1
  exact ⟨ad, inner, rfl, h1, h2⟩
/-- What is read of an own row that may change lies elsewhere. -/
theorem C_apart {α : Type} {d : Kd α} {w : World} {A : Option Addr} {l : List α} {S : Nat → Prop} (h : ∀ W_, Kept w W_ S → d.C W_ A l.length l) (hn : 0 < l.length) (hs : 0 < d.sz) :
    ∃ b o inner, A = some ⟨b, o, none⟩ ∧ b < w.heap.size ∧ ¬ S b ∧ Reps (d.K w) d.sz l inner ∧ ∀ j u, inner[j]? = some u → w.cell? ⟨b, o + j, none⟩ = some u := by
  obtain ⟨ad, inner, rfl, hr, hc⟩ := C_cells (h w (Kept.refl _ _)) hn
  have hil : 0 < inner.length := by rw [hr.1]; exact Nat.mul_pos hn hs
  have h0 := hc 0 _ (List.getElem?_eq_getElem hil)
  obtain ⟨hp, hlt⟩ := addr_plain h0 rfl
  refine ⟨ad.block, ad.off, inner, by rw [← hp], hlt, fun hS => ?_, hr, fun j u hu => by have := hc j u hu; rw [hp, add_at] at this; exact this⟩
  -- a world in which that block is another thing
  have hk : Kept w { w with heap := w.heap.setIfInBounds ad.block (.map #[] 0) } S := by
    refine ⟨by simp, fun i hi hn => ?_⟩
    have : ad.block ≠ i := by rintro rfl; exact hn hS
    simp [Array.getElem?_setIfInBounds, this]
  obtain ⟨ad2, inner2, he, hr2, hc2⟩ := C_cells (h _ hk) hn
  injection he with he
  subst he
  have h2 := hc2 0 _ (List.getElem?_eq_getElem (by rw [hr2.1]; exact Nat.mul_pos hn hs))
  rw [show ad.add 0 = ad from rfl] at h2
  unfold World.cell? at h2
  simp [Array.getElem?_setIfInBounds, hlt] at h2
end Go.Proofs.YthbljhmjppjcjaaDoor.Z
end

section
/- slices.Clone, Delete of one element, Insert of one element, at lists of items. -/
namespace Go.Proofs.YthbljhmjppjcjaaDoor.Z
open Go.RowKit Go.Proofs.YthbljhmjppjcjaaDoorW.PrintWords Go.Proofs.YthbljhmjppjcjaaDoorW.PrintLast
set_option linter.unusedVariables false
set_option linter.unusedSimpArgs false
theorem info_Block : (Tryd.prog.info? 60).map (fun i => (i.zero, i.size, i.bytes)) = some (some (.agg #[.int .u32 0, .string ⟨#[]⟩]), 2, 24) := by kernel_rfl
theorem k60_KM {w : World} {base : Nat} {ok : Nat → Prop} {x : S60} {cs : List Value} (h : k60.K w x cs) : k60.M w base ok x cs := by
  obtain rfl := k60_open h
  exact k60_mkM _ _ _ _
theorem k60_E : k60.E = [] := rfl
theorem k60_sz : k60.sz = 2 := rfl
def slices_Clone_api_Block_api_Block.f (l0 : List S60) : Option (List S60) := if l0.length * 24 ≤ 140737488355328 then some l0 else none
set_option maxRecDepth 100000 in
set_option maxHeartbeats 2000000 in
theorem slices_Clone_api_Block_api_Block.calls (A0 : Option Addr) (c0 : Nat) (l0 : List S60) (r : List S60) (w : World) (hr0 : Kd.C k60 w A0 l0.length l0) (hc0 : l0.length ≤ c0) (h : slices_Clone_api_Block_api_Block.f l0 = some r) :
    Calls Tryd.prog 41 #[.slice A0 l0.length c0] w fun e w' => ∃ v0_ : Value, e = .returned (v0_) ∧ Kd.R k60 60 w' w.heap.size (fun _ => True) v0_ r ∧ Below w.heap.size w w' := by
  unfold slices_Clone_api_Block_api_Block.f at h
  split at h
  case isFalse => cases h
  case isTrue hbig =>
    obtain rfl := Option.some.inj h
    have q22 : ∀ (w : World) (a : Option Addr) (n c n' c' : Nat), (binOp .eql 28 (.slice a n c) (.slice none n' c')).run Tryd.prog w = .ok (.bool a.isNone) w := fun w a n c n' c' => Lib.run_eql_slice_nil w _ _ a n c n' c' Tryd.underlying28
    have hmx := Kd.C_max hr0
    cases A0 with
    | none =>
      have hl : l0 = [] := by
        rcases Nat.eq_zero_or_pos l0.length with h0 | h0
        · exact List.eq_nil_of_length_eq_zero h0
        · obtain ⟨ad, _, he, _⟩ := C_cells hr0 h0; cases he
      subst hl
      clear hr0 hbig
      go_enter Tryd.func41, Tryd.ntmps41
      go_wp2
      go_ret
      exact ⟨_, rfl, Kd.R_nil _ _ _ _ _, Below.refl _ _⟩
    | some ad =>
      obtain ⟨i0, hi, hz0, hz1, hz2⟩ := info_parts info_Block
      obtain ⟨inner, hrep, hcell⟩ : ∃ inner, Reps (k60.K w) k60.sz l0 inner ∧ ∀ j u, inner[j]? = some u → w.cell? (ad.add j) = some u := by
        rcases Nat.eq_zero_or_pos l0.length with h0 | h0
        · have hl : l0 = [] := List.eq_nil_of_length_eq_zero h0
          subst hl; exact ⟨[], Reps.none _ _, fun j u hu => by simp at hu⟩
        · obtain ⟨ad2, inner, he, h1, h2⟩ := C_cells hr0 h0
          injection he with he; subst he; exact ⟨inner, h1, h2⟩
      have hrepM : ∀ w' base ok, Reps (k60.M w' base ok) k60.sz l0 inner := fun w' base ok => hrep.imp_ (fun _ _ hk => flat_M (base := base) k60_E (k60_KM (base := base) (ok := ok) hk))
      have hone := flat_one (hrepM w 0 (fun _ => True)) (by decide)
      have hil : inner.length = l0.length * 2 := hrep.1
      have HC := Aside0.mk hcell
      have HM := Aside0.mk hrepM
      have HI := Aside0.mk hil
      have HO := Aside0.mk hone
      clear hr0 hrep hcell hrepM hil hone
      go_enter Tryd.func41, Tryd.ntmps41
      go_wp2_with (at_builtin; refine wpList_append_own _ rfl _ _ 28 rfl w.heap.size 60 i0 _ 2 24 Tryd.underlying28 hi hz0 hz1 hz2 (by rfl) (by decide) _ _ _ rfl (World.ownsRow_made w #[] 0 (Nat.le_refl _) (Nat.zero_le _) (by simp)) ad l0.length c0 inner rfl ?qc1 ?qc2 ?qc3 ?qc4 ?qc5 ?qc6 ?_)
      case qc1 => exact HI.out
      case qc2 => intro j u hj; exact Lib.cell?_alloc_some _ (HC.out j u hj)
      case qc3 => exact HO.out
      case qc4 => unfold maxLen; omega
      intro v' w1 hown hgrow hnil
      go_wp2
      go_ret

      refine ⟨v', rfl, ⟨fun _ _ => trivial, inner, hown, ?_⟩, ((Below.refl _ w).alloc (Nat.le_refl _) _).grown hgrow (by simp) (by intro k hk; simp [Value.ownBlock] at hk; omega)⟩
      exact HM.out _ _ _
/-- One element taken out. -/
def slices_Delete_api_Block_api_Block.f (l0 : List S60) (a1 a2 : Int) : Option (List S60) := if 0 ≤ a1 ∧ a1 < l0.length ∧ a2 = a1 + 1 then some (l0.take a1.toNat ++ l0.drop (a1.toNat + 1)) else none
theorem take_cut {α : Type} (l : List α) (a b : Nat) (mid : List α) (tl : List α) (h : a ≤ l.length) (hm : mid.length = b) (n : Nat) (hn : n = a + b) : (l.take a ++ mid ++ tl).take n = l.take a ++ mid := by
  subst hn
  rw [List.take_append_of_le_length (by rw [List.length_append, List.length_take]; omega), List.take_of_length_le (by rw [List.length_append, List.length_take]; omega)]
set_option maxRecDepth 100000 in
set_option maxHeartbeats 4000000 in
theorem slices_Delete_api_Block_api_Block.calls (P0_ : Nat → Prop) (u9000_ : Value) (l0 : List S60) (a1 a2 : Int) (r : List S60) (w0 w : World) (hB : Below w0.heap.size w0 w) (ho0 : Kd.R k60 60 w w0.heap.size P0_ u9000_ l0) (h : slices_Delete_api_Block_api_Block.f l0 a1 a2 = some r) :
    Calls Tryd.prog 31 #[u9000_, .int .i64 a1, .int .i64 a2] w fun e w' => ∃ v0_ : Value, e = .returned (v0_) ∧ Kd.R k60 60 w' w0.heap.size (fun k_ => (P0_ k_ ∨ w.heap.size ≤ k_)) v0_ r ∧ Below w0.heap.size w0 w' ∧ Kept w w' (fun k_ => P0_ k_) := by
  unfold slices_Delete_api_Block_api_Block.f at h
  split at h
  case isFalse => cases h
  case isTrue hh =>
    obtain ⟨h1, h2, rfl⟩ := hh
    obtain rfl := Option.some.inj h
    clear h
    obtain ⟨i, rfl⟩ : ∃ i : Nat, a1 = i := ⟨a1.toNat, (Int.toNat_of_nonneg h1).symm⟩
    obtain ⟨g, cap, cur, inner, rfl, hbg, hok, hg, hnc, hcm, hsz, hil, hti, hrep⟩ := R_row k60_E ho0 (by omega)
    rw [k60_sz] at hsz hil hti
    obtain ⟨m, hn0⟩ : ∃ m, l0.length = i + m + 1 := ⟨l0.length - 1 - i, by omega⟩
    obtain ⟨n, hnm⟩ : ∃ n, n = i + m := ⟨_, rfl⟩
    have hn : l0.length = n + 1 := by omega
    have hin : i ≤ n := by omega
    rw [Int.toNat_natCast]
    have hcur : cur.toList.length = cap * 2 := by rw [Array.length_toList]; exact hsz
    unfold maxLen at hcm
    -- what stands behind it
    obtain ⟨news, hnews⟩ : ∃ news, news = inner.drop ((i + 1) * 2) := ⟨_, rfl⟩
    have hnl : news.length = (n - i) * 2 := by rw [hnews, List.length_drop, hil]; omega
    have hone : ∀ u ∈ news, u.oneCell' = true := fun u hu => flat_one (hrep w P0_) (by decide) u (by rw [hnews] at hu; exact List.mem_of_mem_drop hu)
    have hsrc : ∀ j u, news[j]? = some u → cur.toList[(i + 1) * 2 + j]? = some u := by
      intro j u hu
      rw [hnews, ← hti, List.getElem?_drop, List.getElem?_take] at hu
      split at hu
      · exact hu
      · cases hu
    have hgd : w.drew.heap[g]? = some (.cells cur 60 (0, 0)) := hg
    obtain ⟨cur1, hg1, hs1, ht1⟩ := setCells_row news (i * 2) w.drew cur hgd (by rw [hsz]; omega)
    obtain ⟨W1, hW1⟩ : ∃ W1, W1 = w.drew.setCells g (i * 2) news := ⟨_, rfl⟩
    rw [← hW1] at hg1
    have hz : (Builtin.zeroCells (Value.agg #[.int .u32 0, .string ⟨#[]⟩]).cells 1).toList.length = 2 := by rw [Array.length_toList, size_zeroCells]; rfl
    obtain ⟨cur2, hg2, hs2, ht2⟩ := setCells_row (Builtin.zeroCells (Value.agg #[.int .u32 0, .string ⟨#[]⟩]).cells 1).toList (n * 2) W1 cur1 hg1 (by rw [hz, hs1, hsz]; omega)
    obtain ⟨i0, hi, hz0, hz1, hz2⟩ := info_parts info_Block
    have hzero : ∀ w, (zeroValue 60).run Tryd.prog w = .ok (.agg #[.int .u32 0, .string ⟨#[]⟩]) w := fun w => by simp [zeroValue, typeInfo, hi, hz0]
    have hclear := run_clear_k W1 28 60 0 (.agg #[.int .u32 0, .string ⟨#[]⟩]) Tryd.underlying28 hzero (by decide) g (n * 2) 1 (cap - n) (by decide)
      (fun j hj => by rw [show (Value.agg #[.int .u32 0, .string ⟨#[]⟩]).cells.size = 2 from rfl] at hj; exact row_some hg1 _ (by rw [hs1, hsz]; omega)) (fun j hj => blk_frozen hg1 _)
    obtain ⟨W2, hW2⟩ : ∃ W2, W2 = W1.setCells g (n * 2) (Builtin.zeroCells (Value.agg #[.int .u32 0, .string ⟨#[]⟩]).cells 1).toList := ⟨_, rfl⟩
    rw [← hW2] at hclear hg2
    -- the end
    have hend : Kd.R k60 60 W2 w0.heap.size (fun k_ => (P0_ k_ ∨ w.heap.size ≤ k_)) (.slice (some ⟨g, 0, none⟩) n cap) (l0.take i ++ l0.drop (i + 1)) ∧ Below w0.heap.size w0 W2 ∧ Kept w W2 (fun k_ => P0_ k_) := by
      have hl : (l0.take i ++ l0.drop (i + 1)).length = n := by rw [List.length_append, List.length_take, List.length_drop]; omega
      refine ⟨?_, ?_, ?_⟩
      · have hR := R_of_row (d := k60) (e := 60) (base := w0.heap.size) (ok := fun k_ => (P0_ k_ ∨ w.heap.size ≤ k_)) (w := W2) (xs := l0.take i ++ l0.drop (i + 1)) (cap := cap) (inner := inner.take (i * 2) ++ news) hbg (.inl hok) hg2 (by omega) (by unfold maxLen; omega) (by rw [k60_sz, hs2, hs1, hsz])
          (by rw [k60_sz, hl, List.length_append, List.length_take, hnl, hil]; omega)
          (by
            rw [k60_sz, hl, ht2, ht1, List.append_assoc, List.append_assoc]
            have e1 : (cur.toList.take (i * 2) ++ (news ++ cur.toList.drop (i * 2 + news.length))).take (n * 2) = inner.take (i * 2) ++ news := by
              rw [← List.append_assoc, take_cut _ (i * 2) news.length _ _ (by omega) rfl (n * 2) (by omega), ← hti, List.take_take, Nat.min_eq_left (by omega)]
            rw [List.take_append_of_le_length (by rw [List.length_take, List.length_append, List.length_take, List.length_append, List.length_drop]; omega), List.take_take, Nat.min_self, e1])
          (fun ok' => by
            refine Kd.reps_append ?_ ?_
            · exact Kd.reps_take (hrep W2 ok') (by omega)
            · rw [hnews]; exact Kd.reps_drop (hrep W2 ok'))
        rw [hl] at hR
        exact hR
      · rw [hW2, hW1]
        exact below_setCells (below_setCells (below_drew hB) hbg _ _) hbg _ _
      · rw [hW2, hW1]
        exact kept_setCells (kept_setCells ((Kept.refl w _).drew) (.inl hok) _ _) (.inl hok) _ _
    have hsT : ∀ W : World, (sizeOf 60).run Tryd.prog W = .ok 2 W := fun W => by simp [sizeOf, typeInfo, hi, hz1]
    obtain ⟨ad, hcutB, had⟩ : ∃ ad : Addr, (∀ W : World, (Instr.slice 28 (.slice (some ⟨g, 0, none⟩) (i + m + 1) cap) (some (.int .i64 ((i : Int) + 1))) none none).run Tryd.prog W = .ok (.slice (some ad) m (cap - (i + 1))) W) ∧ ∀ j u, news[j]? = some u → w.drew.cell? (ad.add j) = some u := by
      have hel : Tryd.prog.elem 28 = 60 := by simp [Program.elem, Tryd.underlying28]
      have hu : Tryd.prog.underlying 28 = some (.slice (Tryd.prog.elem 28)) := by rw [hel]; exact Tryd.underlying28
      have hrun : ∀ W : World, (Instr.slice 28 (.slice (some ⟨g, 0, none⟩) (i + m + 1) cap) (some (.int .i64 ((i : Int) + 1))) none none).run Tryd.prog W = .ok (sliced (some ⟨g, 0, none⟩) (i + 1) (i + m + 1) cap 2) W := fun W => by
        rw [run_slice_l W 28 (some ⟨g, 0, none⟩) (i + m + 1) cap hu .i64 ((i : Int) + 1) (by omega) (by omega), hel]
        have : ((i : Int) + 1).toNat = i + 1 := by omega
        simp [hsT, Result.andThen, this]
      by_cases hc : cap = i + 1
      · refine ⟨⟨g, 0, none⟩, fun W => ?_, fun j u hu => ?_⟩
        · rw [hrun W]; unfold sliced; rw [if_pos hc, show i + m + 1 - (i + 1) = m by omega]
        · have := (List.getElem?_eq_some_iff.1 hu).1; omega
      · refine ⟨⟨g, (i + 1) * 2, none⟩, fun W => ?_, fun j u hu => ?_⟩
        · rw [hrun W]; unfold sliced; rw [if_neg hc, show i + m + 1 - (i + 1) = m by omega]; simp [Addr.add]
        · rw [add_at]
          show w.cell? _ = _
          rw [row_cell hg]
          exact hsrc j u hu
    have hcutA : ∀ W : World, (Instr.slice 28 (.slice (some ⟨g, 0, none⟩) (i + m + 1) cap) none (some (.int .i64 (i : Int))) none).run Tryd.prog W = .ok (.slice (some ⟨g, 0, none⟩) i cap) W := fun W => by
      have hel : Tryd.prog.elem 28 = 60 := by simp [Program.elem, Tryd.underlying28]
      have hu : Tryd.prog.underlying 28 = some (.slice (Tryd.prog.elem 28)) := by rw [hel]; exact Tryd.underlying28
      rw [run_slice_h W 28 (some ⟨g, 0, none⟩) (i + m + 1) cap hu .i64 (i : Int) (by omega) (by omega), hel]
      simp [hsT, Result.andThen, sliced, Addr.add]
    have hcutC : ∀ W : World, (Instr.slice 28 (.slice (some ⟨g, 0, none⟩) (i + m) cap) (some (.int .i64 ((i : Int) + (m : Int)))) (some (.int .i64 ((i : Int) + (m : Int) + 1))) none).run Tryd.prog W = .ok (.slice (some ⟨g, n * 2, none⟩) 1 (cap - n)) W := fun W => by
      have hel : Tryd.prog.elem 28 = 60 := by simp [Program.elem, Tryd.underlying28]
      have hu : Tryd.prog.underlying 28 = some (.slice (Tryd.prog.elem 28)) := by rw [hel]; exact Tryd.underlying28
      rw [run_slice_lh W 28 (some ⟨g, 0, none⟩) (i + m) cap hu .i64 .i64 ((i : Int) + (m : Int)) ((i : Int) + (m : Int) + 1) (by omega) (by omega) (by omega), hel]
      have e1 : ((i : Int) + (m : Int)).toNat = i + m := by omega
      have e2 : ((i : Int) + (m : Int) + 1).toNat = i + m + 1 := by omega
      have e3 : ¬ (cap = i + m) := by omega
      simp [hsT, Result.andThen, sliced, Addr.add, e1, e2, e3, hnm]
      intro h0; omega
    have hspare : ∀ j, j < news.length → (w.drew.cell? ⟨g, 0 + i * 2 + j, none⟩).isSome = true ∧ w.drew.frozen? ⟨g, 0 + i * 2 + j, none⟩ = false := fun j hj =>
      ⟨row_some hgd _ (by rw [hsz]; omega), blk_frozen hgd _⟩
    have hb1 : (i : Int) + 1 ≤ (i : Int) + (m : Int) + 1 := by omega
    have hb2 : (i : Int) + (m : Int) + 1 ≤ (cap : Int) := by omega
    have hb3 : ((i : Int) == (i : Int) + 1) = false := by rw [beq_eq_false_iff_ne]; omega
    have hnl2 : news.length = m * 2 := by rw [hnl]; omega
    have hroom : i + m ≤ cap := by omega
    have HADD := Aside0.mk had
    rw [hnm, hW1] at hclear
    rw [hW2, hW1, hnm] at hend
    have HEND := Aside0.mk hend
    have HCL := Aside0.mk hclear
    have HONE := Aside0.mk hone
    have HSP := Aside0.mk hspare
    rw [hn0]
    clear hclear had hone hspare hend hrep ho0 hB ht2 hg2 hs2 ht1 hil hti hnews hn hsrc hcur hs1 hz hg hgd hg1 hnl
    go_enter Tryd.func31, Tryd.ntmps31
    go_wp2
    go_region_law (refine step_append_room rfl _ _ 28 rfl 60 i0 2 Tryd.underlying28 hi hz1 g 0 i cap (by simp [Act.eval, Act.put]) ad m (cap - (i + 1)) news (by simp [Act.eval, Act.put]) hnl2 HADD.out HONE.out hroom HSP.out ?_)
    go_wp2
    rw [HCL.out]
    go_wp2
    go_ret
    exact ⟨_, rfl, HEND.out⟩
/-- One element put in. -/
def slices_Insert_api_Block_api_Block.f (l0 : List S60) (a1 : Int) (l2 : List S60) : Option (List S60) := if 0 ≤ a1 ∧ a1 ≤ l0.length ∧ l2.length = 1 ∧ (l0.length + 1) * 24 ≤ 140737488355328 then some (l0.take a1.toNat ++ l2 ++ l0.drop a1.toNat) else none
set_option maxRecDepth 100000 in
set_option maxHeartbeats 4000000 in
theorem ins_end (P0_ : Nat → Prop) (u : Value) (l0 l2 : List S60) (vb c2 : Nat) (vs : List Value) (w0 w : World) (hB : Below w0.heap.size w0 w) (ho0 : Kd.R k60 60 w w0.heap.size P0_ u l0)
    (hvl : vs.length = 1 * 2) (hl2 : l2.length = 1) (hvc : ∀ j x, vs[j]? = some x → w.cell? ⟨vb, j, none⟩ = some x) (h1v : ∀ x ∈ vs, x.oneCell' = true) (hvM : ∀ w' ok, Reps (k60.M w' w0.heap.size ok) k60.sz l2 vs) (hbig : (l0.length + 1) * 24 ≤ 140737488355328) :
    Calls Tryd.prog 32 #[u, .int .i64 (l0.length : Int), .slice (some ⟨vb, 0, none⟩) 1 c2] w fun e w' => ∃ v0_ : Value, e = .returned (v0_) ∧ Kd.R k60 60 w' w0.heap.size (fun k_ => (P0_ k_ ∨ w.heap.size ≤ k_)) v0_ (l0 ++ l2) ∧ Below w0.heap.size w0 w' ∧ Kept w w' (fun k_ => P0_ k_) := by
  obtain ⟨i0, hi, hz0, hz1, hz2⟩ := info_parts info_Block
  obtain ⟨h0, inner, hown, hrep⟩ := ho0
  have hlow := hB.size
  have HOWN := Aside0.mk hown
  have HVC := Aside0.mk hvc
  have H1V := Aside0.mk h1v
  have HL := Aside0.mk hlow
  have HREP : Aside0 (∀ w' ok, Reps (k60.M w' w0.heap.size ok) k60.sz (l0 ++ l2) (inner ++ vs)) := ⟨fun w' ok => Kd.reps_append (hrep.imp_ (fun _ _ hm => flat_M k60_E hm)) (hvM w' ok)⟩
  have H0 := Aside0.mk h0
  have HB := Aside0.mk hB
  have fin : ∀ v' w1, w1.ownsRow w0.heap.size 60 2 v' (l0.length + 1) (inner ++ vs) → w.grownBy w1 u.ownBlock → (v'.ownBlock = u.ownBlock ∨ v'.ownBlock = some w.heap.size) →
      Kd.R k60 60 w1 w0.heap.size (fun k_ => (P0_ k_ ∨ w.heap.size ≤ k_)) v' (l0 ++ l2) ∧ Below w0.heap.size w0 w1 ∧ Kept w w1 (fun k_ => P0_ k_) := by
    intro v' w1 ho hg hat
    have hb : ∀ k, u.ownBlock = some k → w0.heap.size ≤ k := fun k hk => by
      rcases HOWN.out.2 with ⟨rfl, _⟩ | ⟨g, cap, cur, rfl, hbg, _⟩
      · cases hk
      · have : g = k := by simpa [Value.ownBlock] using hk
        omega
    refine ⟨⟨fun k hk => ?_, inner ++ vs, ?_, HREP.out _ _⟩, HB.out.grown hg HL.out hb, Kept.of_grown hg (Kept.refl _ _) (fun k hk => .inl (H0.out k hk))⟩
    · rcases hat with hat | hat
      · exact .inl (H0.out k (hat ▸ hk))
      · rw [hat] at hk; injection hk with hk; exact .inr (by omega)
    · rw [List.length_append, hl2]; exact ho
  have FIN := Aside0.mk fin
  have hb1 : (l0.length : Int) = (l0.length : Int) := rfl
  have hmx : l0.length ≤ maxLen := by unfold maxLen; omega
  unfold maxLen at hmx
  clear hvc h1v hlow fin
  rcases hown with ⟨hl, ⟨rfl, hn⟩ | ⟨g, cap, cur, rfl, hbg, hg, hnc, hcm, hsz, ht⟩⟩
  · rw [hn] at HOWN FIN hbig ⊢
    clear hl hrep
    go_enter Tryd.func32, Tryd.ntmps32
    go_wp2_with (at_builtin; refine wpList_append_own_at _ rfl _ _ 28 rfl w0.heap.size 60 i0 _ 2 24 Tryd.underlying28 hi hz0 hz1 hz2 (by rfl) (by decide) _ _ _ rfl HOWN.out ⟨vb, 0, none⟩ 1 c2 vs rfl ?qc1 ?qc2 ?qc3 ?qc4 ?qc5 ?qc6 ?_)
    case qc2 => exact HVC.out
    case qc3 => exact H1V.out
    case qc4 => unfold maxLen; omega
    case qc6 => exact HL.out
    intro v' w1 ho hg hn hat
    have ho' : w1.ownsRow w0.heap.size 60 2 v' (0 + 1) (inner ++ vs) := ho
    have HR := Aside0.mk (FIN.out v' w1 ho' hg hat)
    clear ho hg hn hat ho'
    go_wp2
    go_ret
    exact ⟨_, rfl, HR.out⟩
  · unfold maxLen at hcm
    clear hl hrep ht hg hsz hbg
    by_cases hc : cap = l0.length
    · subst hc
      go_enter Tryd.func32, Tryd.ntmps32
      go_wp2_with (at_builtin; refine wpList_append_own_at _ rfl _ _ 28 rfl w0.heap.size 60 i0 _ 2 24 Tryd.underlying28 hi hz0 hz1 hz2 (by rfl) (by decide) _ _ _ rfl HOWN.out ⟨vb, 0, none⟩ 1 c2 vs rfl ?qd1 ?qd2 ?qd3 ?qd4 ?qd5 ?qd6 ?_)
      case qd2 => exact HVC.out
      case qd3 => exact H1V.out
      case qd4 => unfold maxLen; omega
      case qd6 => exact HL.out
      intro v' w1 ho hg hn hat
      have HR := Aside0.mk (FIN.out v' w1 ho hg hat)
      clear ho hg hn hat
      go_wp2
      go_ret
      exact ⟨_, rfl, HR.out⟩
    · go_enter Tryd.func32, Tryd.ntmps32
      go_wp2_with (at_builtin; refine wpList_append_own_at _ rfl _ _ 28 rfl w0.heap.size 60 i0 _ 2 24 Tryd.underlying28 hi hz0 hz1 hz2 (by rfl) (by decide) _ _ _ rfl HOWN.out ⟨vb, 0, none⟩ 1 c2 vs rfl ?qe1 ?qe2 ?qe3 ?qe4 ?qe5 ?qe6 ?_)
      case qe2 => exact HVC.out
      case qe3 => exact H1V.out
      case qe4 => unfold maxLen; omega
      case qe6 => exact HL.out
      intro v' w1 ho hg hn hat
      have HR := Aside0.mk (FIN.out v' w1 ho hg hat)
      clear ho hg hn hat
      go_wp2
      go_ret
      exact ⟨_, rfl, HR.out⟩
theorem ins_cut (cur cur1 cur2 inner vs news : List Value) (i n : Nat) (hti : cur.take (n * 2) = inner) (hn : i < n) (hl : (n + 1) * 2 ≤ cur.length) (hv : vs.length = 2) (hnl : news.length = (n - i) * 2)
    (ht1 : cur1 = cur.take ((i + 1) * 2) ++ news ++ cur.drop ((i + 1) * 2 + news.length)) (ht2 : cur2 = cur1.take (i * 2) ++ vs ++ cur1.drop (i * 2 + vs.length)) : cur2.take ((n + 1) * 2) = inner.take (i * 2) ++ vs ++ news := by
  have e1 : cur1.take (i * 2) = inner.take (i * 2) := by
    rw [ht1, List.append_assoc, List.take_append_of_le_length (by rw [List.length_take]; omega), List.take_take, Nat.min_eq_left (by omega), ← hti, List.take_take, Nat.min_eq_left (by omega)]
  have e2 : cur1.drop (i * 2 + vs.length) = news ++ cur.drop ((i + 1) * 2 + news.length) := by
    rw [ht1, List.append_assoc]
    exact List.drop_left' (by rw [List.length_take]; omega)
  rw [ht2, e1, e2, ← List.append_assoc]
  refine List.take_left' ?_
  have : inner.length = n * 2 := by rw [← hti, List.length_take]; omega
  simp only [List.length_append, List.length_take, hv, hnl]
  omega
theorem mid_len {α : Type} (l l2 : List α) (i : Nat) (hi : i ≤ l.length) (h2 : l2.length = 1) : (l.take i ++ l2 ++ l.drop i).length = l.length + 1 := by
  simp only [List.length_append, List.length_take, List.length_drop, h2]; omega
set_option maxRecDepth 100000 in
set_option maxHeartbeats 4000000 in
theorem ins_room (P0_ : Nat → Prop) (l0 l2 : List S60) (vb c2 g cap i : Nat) (cur curv : Array Value) (inner vs : List Value) (w0 w : World) (hB : Below w0.heap.size w0 w)
    (hbg : w0.heap.size ≤ g) (hok : P0_ g) (hg : w.heap[g]? = some (.cells cur 60 (0, 0))) (hcm : cap ≤ maxLen) (hsz : cur.size = cap * 2) (hil : inner.length = l0.length * 2) (hti : cur.toList.take (l0.length * 2) = inner)
    (hrep : ∀ w' ok', Reps (k60.M w' w0.heap.size ok') k60.sz l0 inner) (hin : i < l0.length) (hroom : l0.length + 1 ≤ cap) (hvb : vb ≠ g) (hvg : w.heap[vb]? = some (.cells curv 60 (0, 0))) (hl2 : l2.length = 1)
    (hvl : vs.length = 2) (hvc : ∀ j x, vs[j]? = some x → w.cell? ⟨vb, j, none⟩ = some x) (h1v : ∀ x ∈ vs, x.oneCell' = true) (hvM : ∀ w' ok, Reps (k60.M w' w0.heap.size ok) k60.sz l2 vs) :
    Calls Tryd.prog 32 #[.slice (some ⟨g, 0, none⟩) l0.length cap, .int .i64 (i : Int), .slice (some ⟨vb, 0, none⟩) 1 c2] w fun e w' => ∃ v0_ : Value, e = .returned (v0_) ∧ Kd.R k60 60 w' w0.heap.size (fun k_ => (P0_ k_ ∨ w.heap.size ≤ k_)) v0_ (l0.take i ++ l2 ++ l0.drop i) ∧ Below w0.heap.size w0 w' ∧ Kept w w' (fun k_ => P0_ k_) := by
  obtain ⟨i0, hi, hz0, hz1, hz2⟩ := info_parts info_Block
  obtain ⟨n, hn⟩ : ∃ n, n = l0.length := ⟨_, rfl⟩
  have hsT : ∀ W : World, (sizeOf 60).run Tryd.prog W = .ok 2 W := fun W => by simp [sizeOf, typeInfo, hi, hz1]
  have hsm : (Tryd.prog.info? 60).map (·.size) = some 2 := by rw [hi]; simp [hz1]
  have hlen := mid_len l0 l2 i (by omega) hl2
  rw [← hn] at hil hti hin hroom hlen ⊢
  unfold maxLen at hcm
  obtain ⟨news, hnews⟩ : ∃ news, news = inner.drop (i * 2) := ⟨_, rfl⟩
  have hnl : news.length = (n - i) * 2 := by rw [hnews, List.length_drop, hil]; omega
  have hone : ∀ u ∈ news, u.oneCell' = true := fun u hu => flat_one (hrep w P0_) (by decide) u (by rw [hnews] at hu; exact List.mem_of_mem_drop hu)
  have hsrc : ∀ j u, news[j]? = some u → cur.toList[i * 2 + j]? = some u := by
    intro j u hu
    rw [hnews, ← hti, List.getElem?_drop, List.getElem?_take] at hu
    split at hu
    · exact hu
    · cases hu
  have hgd : w.drew.heap[g]? = some (.cells cur 60 (0, 0)) := hg
  obtain ⟨cur1, hg1, hs1, ht1⟩ := setCells_row news ((i + 1) * 2) w.drew cur hgd (by rw [hsz]; omega)
  obtain ⟨cur2, hg2, hs2, ht2⟩ := setCells_row vs (i * 2) (w.drew.setCells g ((i + 1) * 2) news) cur1 hg1 (by rw [hs1, hsz]; omega)
  have hend : Kd.R k60 60 ((w.drew.setCells g ((i + 1) * 2) news).setCells g (i * 2) vs) w0.heap.size (fun k_ => (P0_ k_ ∨ w.heap.size ≤ k_)) (.slice (some ⟨g, 0, none⟩) (n + 1) cap) (l0.take i ++ l2 ++ l0.drop i) ∧ Below w0.heap.size w0 ((w.drew.setCells g ((i + 1) * 2) news).setCells g (i * 2) vs) ∧ Kept w ((w.drew.setCells g ((i + 1) * 2) news).setCells g (i * 2) vs) (fun k_ => P0_ k_) := by
    refine ⟨?_, below_setCells (below_setCells (below_drew hB) hbg _ _) hbg _ _, kept_setCells (kept_setCells ((Kept.refl w _).drew) (.inl hok) _ _) (.inl hok) _ _⟩
    have hR := R_of_row (d := k60) (e := 60) (base := w0.heap.size) (ok := fun k_ => (P0_ k_ ∨ w.heap.size ≤ k_)) (xs := l0.take i ++ l2 ++ l0.drop i) (cap := cap) (inner := inner.take (i * 2) ++ vs ++ news) hbg (.inl hok) hg2 (by omega) (by unfold maxLen; omega) (by rw [k60_sz, hs2, hs1, hsz])
      (by rw [k60_sz, hlen, List.length_append, List.length_append, List.length_take, hnl, hvl, hil]; omega)
      (by rw [k60_sz, hlen]; exact ins_cut cur.toList cur1.toList cur2.toList inner vs news i n hti hin (by rw [Array.length_toList, hsz]; omega) hvl hnl ht1 ht2)
      (fun ok' => Kd.reps_append (Kd.reps_append (Kd.reps_take (hrep _ ok') (by omega)) (hvM _ ok')) (by rw [hnews]; exact Kd.reps_drop (hrep _ ok')))
    rw [hlen] at hR
    exact hR
  have hov : ∀ lb cb, (callFunc 49 #[.slice (some ⟨vb, 0, none⟩) 1 c2, .slice (some ⟨g, (i + 1) * 2, none⟩) lb cb]).run Tryd.prog w = .ok (.value (.bool false)) w := fun lb cb => by
    rw [run_callFunc_extern Tryd.func49 (by kernel_rfl) (by kernel_rfl) (by kernel_rfl) (e := Extern.SlicesOverlaps.overlaps #[28, 28] #[4]) (by kernel_rfl),
      Lib.run_overlaps_apart w 28 4 60 Tryd.underlying28 2 hsT ⟨vb, 0, none⟩ ⟨g, (i + 1) * 2, none⟩ 1 c2 lb cb hvb 60 60 curv.size cur.size (by simp [World.shape?, hvg]) (by simp [World.shape?, hg]) (by rw [hsz]; omega) (by simp [World.frozen?, hvg]) (by simp [World.frozen?, hvg])]
    rfl
  have hcp1 : ∀ ty dc sc, (Builtin.copy_ #[28, 28] ty #[.slice (some ⟨g, (i + 1) * 2, none⟩) (n - i) dc, .slice (some ⟨g, i * 2, none⟩) (n + 1 - i) sc]).run Tryd.prog w.drew = .ok (goInt (Nat.min (n + 1 - i) (n - i))) (w.drew.setCells g ((i + 1) * 2) news) := fun ty dc sc =>
    run_copy_k w.drew 28 28 ty 60 g ((i + 1) * 2) (n - i) dc ⟨g, i * 2, none⟩ (n + 1 - i) sc 2 news Tryd.underlying28 hsm (by rw [hnl]; simp only [Nat.min_def]; split <;> omega)
      (fun j v hj => by rw [add_at, row_cell hgd]; exact hsrc j v hj)
      (fun j hj => row_some hgd _ (by rw [hsz]; omega)) (fun j hj => blk_frozen hgd _) hone
  have hcp2 : ∀ ty dc, (Builtin.copy_ #[28, 28] ty #[.slice (some ⟨g, i * 2, none⟩) (n + 1 - i) dc, .slice (some ⟨vb, 0, none⟩) 1 c2]).run Tryd.prog (w.drew.setCells g ((i + 1) * 2) news) = .ok (goInt (Nat.min 1 (n + 1 - i))) ((w.drew.setCells g ((i + 1) * 2) news).setCells g (i * 2) vs) := fun ty dc =>
    run_copy_k _ 28 28 ty 60 g (i * 2) (n + 1 - i) dc ⟨vb, 0, none⟩ 1 c2 2 vs Tryd.underlying28 hsm (by rw [hvl]; simp only [Nat.min_def]; split <;> omega)
      (fun j v hj => by
        have := hvc j v hj
        rw [add_at, Nat.zero_add, World.cell?_of_block (w := w)]
        · exact this
        · exact setCells_far news _ vb (fun e => hvb e))
      (fun j hj => row_some hg1 _ (by rw [hs1, hsz]; omega)) (fun j hj => blk_frozen hg1 _) h1v
  have HEND := Aside0.mk hend
  have HCA := Aside0.mk hcp1
  have HCB := Aside0.mk hcp2
  have hw1 : IntKind.i64.wrap ((i : Int) + 1) = (i : Int) + 1 := by rw [IntKind.wrap_i64]; omega
  have hw2 : IntKind.i64.wrap ((n : Int) + 1) = (n : Int) + 1 := by rw [IntKind.wrap_i64]; omega
  have hin2 : i ≤ n := by omega
  have htn : ((i : Int) + 1).toNat = i + 1 := by omega
  have htn2 : ((n : Int) + 1).toNat = n + 1 := by omega
  have hb2 : ¬ (cap = i + 1) := by omega
  have hb1 : (0 : Int) ≤ (i : Int) + 1 := by omega
  have hb5 : (i : Int) ≤ (n : Int) + 1 := by omega
  have hb3 : (i : Int) + 1 ≤ (n : Int) + 1 := by omega
  have hb4 : ¬ (cap = i) := by omega
  have hz2' : ¬ ((i : Int) = (n : Int)) := by omega
  have hz3 : ¬ ((cap : Int) < (n : Int) + 1) := by omega
  have mixed : Tryd.prog.follows .mixedOrders = true := by kernel_rfl
  clear hn
  clear hend hcp1 hcp2 hg2 hg1 hgd hs2 hs1 ht2 ht1 hsrc hone hnl hnews hrep hti hil hsz hg hvg hvc h1v hvM hB hvl hlen hl2
  go_enter Tryd.func32, Tryd.ntmps32
  go_wp2_with (simp only [hov])
  go_region_law_o (refine step_copy_run_ rfl _ _ 28 28 rfl (.slice (some ⟨g, (i + 1) * 2, none⟩) (n - i) (cap - (i + 1))) (.slice (some ⟨g, i * 2, none⟩) (n + 1 - i) (cap - i)) (by simp [Act.eval, Act.put]) (by simp [Act.eval, Act.put]) (HCA.out _ _ _) ?_)
  go_wp2
  rw [HCB.out]
  go_wp2
  go_ret
  exact ⟨_, rfl, HEND.out⟩
set_option maxRecDepth 100000 in
set_option maxHeartbeats 4000000 in
theorem ins_grow (P0_ : Nat → Prop) (l0 l2 : List S60) (vb c2 g cap i : Nat) (cur curv : Array Value) (inner vs : List Value) (w0 w : World) (hB : Below w0.heap.size w0 w)
    (hbg : w0.heap.size ≤ g) (hok : P0_ g) (hg : w.heap[g]? = some (.cells cur 60 (0, 0))) (hcm : cap ≤ maxLen) (hsz : cur.size = cap * 2) (hil : inner.length = l0.length * 2) (hti : cur.toList.take (l0.length * 2) = inner)
    (hrep : ∀ w' ok', Reps (k60.M w' w0.heap.size ok') k60.sz l0 inner) (hin : i < l0.length) (hnc : l0.length ≤ cap) (hroom : cap < l0.length + 1) (hbig : (l0.length + 1) * 24 ≤ 140737488355328) (hvb : vb ≠ g) (hvg : w.heap[vb]? = some (.cells curv 60 (0, 0))) (hl2 : l2.length = 1)
    (hvl : vs.length = 2) (hvc : ∀ j x, vs[j]? = some x → w.cell? ⟨vb, j, none⟩ = some x) (h1v : ∀ x ∈ vs, x.oneCell' = true) (hvM : ∀ w' ok, Reps (k60.M w' w0.heap.size ok) k60.sz l2 vs) :
    Calls Tryd.prog 32 #[.slice (some ⟨g, 0, none⟩) l0.length cap, .int .i64 (i : Int), .slice (some ⟨vb, 0, none⟩) 1 c2] w fun e w' => ∃ v0_ : Value, e = .returned (v0_) ∧ Kd.R k60 60 w' w0.heap.size (fun k_ => (P0_ k_ ∨ w.heap.size ≤ k_)) v0_ (l0.take i ++ l2 ++ l0.drop i) ∧ Below w0.heap.size w0 w' ∧ Kept w w' (fun k_ => P0_ k_) := by
  obtain ⟨i0, hi, hz0, hz1, hz2⟩ := info_parts info_Block
  obtain ⟨n, hn⟩ : ∃ n, n = l0.length := ⟨_, rfl⟩
  have hsT : ∀ W : World, (sizeOf 60).run Tryd.prog W = .ok 2 W := fun W => by simp [sizeOf, typeInfo, hi, hz1]
  have hsm : (Tryd.prog.info? 60).map (·.size) = some 2 := by rw [hi]; simp [hz1]
  have hlen := mid_len l0 l2 i (by omega) hl2
  rw [← hn] at hil hti hin hroom hlen hbig hnc ⊢
  unfold maxLen at hcm
  obtain ⟨news, hnews⟩ : ∃ news, news = inner.drop (i * 2) := ⟨_, rfl⟩
  have hnl : news.length = (n - i) * 2 := by rw [hnews, List.length_drop, hil]; omega
  have hone0 : ∀ u ∈ inner, u.oneCell' = true := flat_one (hrep w P0_) (by decide)
  have hone : ∀ u ∈ news, u.oneCell' = true := fun u hu => hone0 u (by rw [hnews] at hu; exact List.mem_of_mem_drop hu)
  have hsrc0 : ∀ (j : Nat) (u : Value), inner[j]? = some u → cur.toList[j]? = some u := by
    intro j u hu
    rw [← hti, List.getElem?_take] at hu
    split at hu
    · exact hu
    · cases hu
  have hsrc : ∀ (j : Nat) (u : Value), news[j]? = some u → cur.toList[i * 2 + j]? = some u := fun j u hu => hsrc0 _ u (by rwa [hnews, List.getElem?_drop] at hu)
  have hgb : g < w.heap.size := by
    rcases Nat.lt_or_ge g w.heap.size with h | h
    · exact h
    · rw [Array.getElem?_eq_none h] at hg; cases hg
  have hvbw : vb < w.heap.size := by
    rcases Nat.lt_or_ge vb w.heap.size with h | h
    · exact h
    · rw [Array.getElem?_eq_none h] at hvg; cases hvg
  have hgd : w.drew.heap[g]? = some (.cells cur 60 (0, 0)) := hg
  have hold : (Builtin.firstCells i0.size i (.slice (some ⟨g, 0, none⟩) i cap)).run Tryd.prog w.drew = .ok (inner.take (i * 2)).toArray w.drew := by
    rw [hz1]
    exact run_firstCells_some w.drew 2 i ⟨g, 0, none⟩ i cap (inner.take (i * 2)) (by rw [List.length_take]; omega) (fun j v hj => by
      rw [add_at, row_cell hgd, Nat.zero_add]
      rw [List.getElem?_take] at hj
      split at hj
      · exact hsrc0 j v hj
      · cases hj)
  have hkk : (n : Int) + 1 - (i : Int) = ((n + 1 - i : Nat) : Int) := by omega
  have hik : i + (n + 1 - i) = n + 1 := by omega
  obtain ⟨G, hG⟩ : ∃ G, G = grownCap w (n + 1) cap 60 := ⟨_, rfl⟩
  have hGn : n + 1 ≤ G := by rw [hG]; exact grownCap_ge w _ _ _
  have hG63 : G ≤ 9223372036854775807 := by
    have := grownCap_le_maxLen w (n + 1) cap 60 (by unfold maxLen; omega)
    rw [← hG] at this
    unfold maxLen at this
    omega
  obtain ⟨ROW, hROW⟩ : ∃ ROW : Array Value, ROW = (inner.take (i * 2)).toArray ++ Builtin.zeroCells (Value.agg #[.int .u32 0, .string ⟨#[]⟩]).cells (n + 1 - i) ++ Builtin.zeroCells (Value.agg #[.int .u32 0, .string ⟨#[]⟩]).cells (G - (n + 1)) := ⟨_, rfl⟩
  have hRs : ROW.size = G * 2 := by
    rw [hROW]
    simp only [Array.size_append, size_zeroCells, List.size_toArray, List.length_take, hil]
    rw [show (Value.agg #[.int .u32 0, .string ⟨#[]⟩]).cells.size = 2 from rfl]
    omega
  have hrz : ∀ ty, (Builtin.append_ #[28, 3] ty #[.slice (some ⟨g, 0, none⟩) i cap, .int .i64 ((n : Int) + 1 - (i : Int))]).run Tryd.prog w =
      .ok (.slice (some ⟨w.heap.size, 0, none⟩) (n + 1) G) (w.drew.alloc (.cells ROW 60)) := fun ty => by
    have h := Go.Lib.run_append_grow_zeros w 28 3 ty 60 i0 _ .i64 .i64 Tryd.underlying28 Tryd.underlying3 hi hz0 (some ⟨g, 0, none⟩) i cap (inner.take (i * 2)) hold (n + 1 - i) (by omega) (by omega) (by omega) (by omega) (by rw [hz2]; omega) (by rw [hz2, hik]; exact growslice_fits hroom hbig)
    rw [hik] at h
    rw [hkk, h, ← hG, ← hROW]
  have hg0 : ((w.alloc (.cells ROW 60)).drew).heap[w.heap.size]? = some (.cells ROW 60 (0, 0)) := by
    show (w.heap.push _)[w.heap.size]? = _
    simp
  obtain ⟨cur1, hg1, hs1, ht1⟩ := setCells_row vs (i * 2) ((w.alloc (.cells ROW 60)).drew) ROW hg0 (by rw [hRs]; omega)
  obtain ⟨cur2, hg2, hs2, ht2⟩ := setCells_row news ((i + 1) * 2) (((w.alloc (.cells ROW 60)).drew).setCells w.heap.size (i * 2) vs).drew cur1 hg1 (by rw [hs1, hRs]; omega)
  have hlow := hB.size
  have hend : Kd.R k60 60 (((((w.alloc (.cells ROW 60)).drew).setCells w.heap.size (i * 2) vs).drew).setCells w.heap.size ((i + 1) * 2) news) w0.heap.size (fun k_ => (P0_ k_ ∨ w.heap.size ≤ k_)) (.slice (some ⟨w.heap.size, 0, none⟩) (n + 1) G) (l0.take i ++ l2 ++ l0.drop i) ∧ Below w0.heap.size w0 (((((w.alloc (.cells ROW 60)).drew).setCells w.heap.size (i * 2) vs).drew).setCells w.heap.size ((i + 1) * 2) news) ∧ Kept w (((((w.alloc (.cells ROW 60)).drew).setCells w.heap.size (i * 2) vs).drew).setCells w.heap.size ((i + 1) * 2) news) (fun k_ => P0_ k_) := by
    refine ⟨?_, below_setCells (below_drew (below_setCells (below_drew (below_alloc hB _)) hlow _ _)) hlow _ _, kept_setCells ((kept_setCells (((Kept.refl w _).alloc _).drew) (.inr (Nat.le_refl _)) _ _).drew) (.inr (Nat.le_refl _)) _ _⟩
    have hR := R_of_row (d := k60) (e := 60) (base := w0.heap.size) (ok := fun k_ => (P0_ k_ ∨ w.heap.size ≤ k_)) (xs := l0.take i ++ l2 ++ l0.drop i) (cap := G) (inner := inner.take (i * 2) ++ vs ++ news) hlow (.inr (Nat.le_refl _)) hg2 (by omega) (by unfold maxLen; omega) (by rw [k60_sz, hs2, hs1, hRs])
      (by rw [k60_sz, hlen, List.length_append, List.length_append, List.length_take, hnl, hvl, hil]; omega)
      (by
        rw [k60_sz, hlen, ht2]
        have e0 : ROW.toList.take (i * 2) = inner.take (i * 2) := by
          rw [hROW, Array.toList_append, Array.toList_append, List.append_assoc]
          exact List.take_left' (by rw [List.length_take]; omega)
        have e1 : cur1.toList.take ((i + 1) * 2) = inner.take (i * 2) ++ vs := by
          rw [ht1, e0]
          exact List.take_left' (by rw [List.length_append, List.length_take]; omega)
        rw [e1]
        exact List.take_left' (by simp only [List.length_append, List.length_take, hvl, hnl]; omega))
      (fun ok' => Kd.reps_append (Kd.reps_append (Kd.reps_take (hrep _ ok') (by omega)) (hvM _ ok')) (by rw [hnews]; exact Kd.reps_drop (hrep _ ok')))
    rw [hlen] at hR
    exact hR
  have hcpA : ∀ (W : World), (∀ x, W.cell? x = ((w.alloc (.cells ROW 60)).drew).cell? x) → (∀ x, W.frozen? x = ((w.alloc (.cells ROW 60)).drew).frozen? x) → ∀ ty dc, (Builtin.copy_ #[28, 28] ty #[.slice (some ⟨w.heap.size, i * 2, none⟩) (n + 1 - i) dc, .slice (some ⟨vb, 0, none⟩) 1 c2]).run Tryd.prog W = .ok (goInt (Nat.min 1 (n + 1 - i))) (W.setCells w.heap.size (i * 2) vs) := fun W hWc hWf ty dc =>
    run_copy_k W 28 28 ty 60 w.heap.size (i * 2) (n + 1 - i) dc ⟨vb, 0, none⟩ 1 c2 2 vs Tryd.underlying28 hsm (by rw [hvl]; simp only [Nat.min_def]; split <;> omega)
      (fun j v hj => by
        have := hvc j v hj
        rw [add_at, Nat.zero_add, hWc, World.cell?_of_block (w := w)]
        · exact this
        · show (w.heap.push _)[vb]? = w.heap[vb]?; have hne : vb ≠ w.heap.size := by omega
          simp [Array.getElem?_push, hne])
      (fun j hj => by rw [hWc]; exact row_some hg0 _ (by rw [hRs]; omega)) (fun j hj => by rw [hWf]; exact blk_frozen hg0 _) h1v
  have hgN : g ≠ w.heap.size := by omega
  have hcpB : ∀ (W : World), (∀ x, W.cell? x = (((w.alloc (.cells ROW 60)).drew).setCells w.heap.size (i * 2) vs).cell? x) → (∀ x, W.frozen? x = (((w.alloc (.cells ROW 60)).drew).setCells w.heap.size (i * 2) vs).frozen? x) → ∀ ty dc sc, (Builtin.copy_ #[28, 28] ty #[.slice (some ⟨w.heap.size, (i + 1) * 2, none⟩) (n - i) dc, .slice (some ⟨g, i * 2, none⟩) (n - i) sc]).run Tryd.prog W = .ok (goInt (Nat.min (n - i) (n - i))) (W.setCells w.heap.size ((i + 1) * 2) news) := fun W hWc hWf ty dc sc =>
    run_copy_k W 28 28 ty 60 w.heap.size ((i + 1) * 2) (n - i) dc ⟨g, i * 2, none⟩ (n - i) sc 2 news Tryd.underlying28 hsm (by rw [hnl]; simp only [Nat.min_def]; split <;> omega)
      (fun j v hj => by
        rw [add_at, hWc, World.cell?_of_block (w := w.drew)]
        · rw [row_cell hgd]; exact hsrc j v hj
        · rw [setCells_far vs _ g (fun e => hgN e)]; show (w.heap.push _)[g]? = w.heap[g]?; simp [Array.getElem?_push, hgN])
      (fun j hj => by rw [hWc]; exact row_some hg1 _ (by rw [hs1, hRs]; omega)) (fun j hj => by rw [hWf]; exact blk_frozen hg1 _) hone
  have HEND := Aside0.mk hend
  have HRZ := Aside0.mk hrz
  have HCA := Aside0.mk hcpA
  have HCB := Aside0.mk hcpB
  have hw1 : IntKind.i64.wrap ((i : Int) + 1) = (i : Int) + 1 := by rw [IntKind.wrap_i64]; omega
  have hw2 : IntKind.i64.wrap ((n : Int) + 1) = (n : Int) + 1 := by rw [IntKind.wrap_i64]; omega
  have hw3 : IntKind.i64.wrap ((n : Int) + 1 - (i : Int)) = (n : Int) + 1 - (i : Int) := by rw [IntKind.wrap_i64]; omega
  have hin2 : i ≤ n := by omega
  have htn : ((i : Int) + 1).toNat = i + 1 := by omega
  have hb1 : (0 : Int) ≤ (i : Int) + 1 := by omega
  have hb2 : ¬ (G = i + 1) := by omega
  have hb5 : (i : Int) ≤ (n : Int) + 1 := by omega
  have hb6 : (i : Int) + 1 ≤ (n : Int) + 1 := by omega
  have hb3 : ¬ (G = i) := by omega
  have hb7 : (i : Int) ≤ (cap : Int) := by omega
  have hb4 : ¬ (cap = i) := by omega
  have hz2' : ¬ ((i : Int) = (n : Int)) := by omega
  have hz3 : (cap : Int) < (n : Int) + 1 := by omega
  have mixed : Tryd.prog.follows .mixedOrders = true := by kernel_rfl
  clear hn hend hcpA hcpB hg2 hg1 hg0 hgd hs2 hs1 ht2 ht1 hsrc hsrc0 hone hone0 hnl hnews hrep hti hil hsz hg hvg hvc h1v hvM hB hvl hlen hl2 hold hrz hRs hROW hG hkk hik hnc
  go_enter Tryd.func32, Tryd.ntmps32
  go_wp2_with (at_builtin; refine Go.Lib.wpList_append_run _ rfl _ _ _ _ rfl _ _ rfl rfl _ _ (HRZ.out _) ?_)
  rw [HCA.out (w.alloc (.cells ROW 60)).drew (fun _ => rfl) (fun _ => rfl)]
  go_wp2
  go_region_law_o (refine step_copy_run_ rfl _ _ 28 28 rfl (.slice (some ⟨w.heap.size, (i + 1) * 2, none⟩) (n - i) (G - (i + 1))) (.slice (some ⟨g, i * 2, none⟩) (n - i) (cap - i)) (by simp [Act.eval, Act.put]) (by simp [Act.eval, Act.put]) (HCB.out (((w.alloc (.cells ROW 60)).drew).setCells w.heap.size (i * 2) vs).drew (fun _ => rfl) (fun _ => rfl) _ _ _) ?_)
  go_wp2
  go_ret
  exact ⟨_, rfl, HEND.out⟩
theorem slices_Insert_api_Block_api_Block.calls (P0_ : Nat → Prop) (u9000_ : Value) (l0 : List S60) (a1 : Int) (A2 : Option Addr) (c2 : Nat) (l2 : List S60) (r : List S60) (w0 w : World) (hB : Below w0.heap.size w0 w) (ho0 : Kd.R k60 60 w w0.heap.size P0_ u9000_ l0)
    (hr2 : ∀ W_, Kept w W_ (fun k_ => P0_ k_) → Kd.C k60 W_ A2 l2.length l2) (hc2 : l2.length ≤ c2) (hp2 : ∃ b_ ok_, Kd.R k60 60 w b_ ok_ (.slice A2 l2.length c2) l2) (h : slices_Insert_api_Block_api_Block.f l0 a1 l2 = some r) :
    Calls Tryd.prog 32 #[u9000_, .int .i64 a1, .slice A2 l2.length c2] w fun e w' => ∃ v0_ : Value, e = .returned (v0_) ∧ Kd.R k60 60 w' w0.heap.size (fun k_ => (P0_ k_ ∨ w.heap.size ≤ k_)) v0_ r ∧ Below w0.heap.size w0 w' ∧ Kept w w' (fun k_ => P0_ k_) := by
  unfold slices_Insert_api_Block_api_Block.f at h
  split at h
  case isFalse => cases h
  case isTrue hh =>
    obtain ⟨h1, h2, h3, h4⟩ := hh
    obtain rfl := Option.some.inj h
    obtain ⟨i, rfl⟩ : ∃ i : Nat, a1 = i := ⟨a1.toNat, (Int.toNat_of_nonneg h1).symm⟩
    rw [Int.toNat_natCast]
    obtain ⟨b2, ok2, hp⟩ := hp2
    obtain ⟨vb, capv, curv, vs, he, _, _, hvg, hnv, _, hvsz, hvl, hvt, hvM⟩ := R_row k60_E hp (by omega)
    obtain ⟨b, o, inner2, hA, _, hnP, _, _⟩ := C_apart hr2 (by omega) (by decide)
    injection he with he1 he2 he3
    subst he3
    rw [hA] at he1
    injection he1 with he1
    injection he1 with he1 he4 he5
    subst he1 he4
    subst hA
    rw [k60_sz] at hvsz hvl hvt hvM
    rw [h3] at hvl hvt ⊢
    have hvM' : ∀ w' ok, Reps (k60.M w' w0.heap.size ok) k60.sz l2 vs := fun w' ok => (hvM w' ok).imp_ (fun _ _ hm => k60_KM (k60.K_of_M hm))
    have h1v : ∀ x ∈ vs, x.oneCell' = true := flat_one (hvM' w P0_) (by decide)
    have hvc : ∀ (j : Nat) (x : Value), vs[j]? = some x → w.cell? ⟨b, j, none⟩ = some x := fun j x hx => by
      rw [row_cell hvg]
      rw [← hvt, List.getElem?_take] at hx
      split at hx
      · exact hx
      · cases hx
    by_cases hin : i = l0.length
    · subst hin
      rw [List.take_length, List.drop_length, List.append_nil]
      exact ins_end P0_ u9000_ l0 l2 b c2 vs w0 w hB ho0 hvl h3 hvc h1v hvM' h4
    · obtain ⟨g, cap, cur, inner, rfl, hbg, hok, hg, hnc, hcm, hsz, hil, hti, hrep⟩ := R_row k60_E ho0 (by omega)
      rw [k60_sz] at hsz hil hti
      have hvb : b ≠ g := fun e => hnP (e ▸ hok)
      rcases Nat.lt_or_ge cap (l0.length + 1) with hroom | hroom
      · exact ins_grow P0_ l0 l2 b c2 g cap i cur curv inner vs w0 w hB hbg hok hg hcm hsz hil hti hrep (by omega) hnc hroom h4 hvb hvg h3 hvl hvc h1v hvM'
      · exact ins_room P0_ l0 l2 b c2 g cap i cur curv inner vs w0 w hB hbg hok hg hcm hsz hil hti hrep (by omega) hroom hvb hvg h3 hvl hvc h1v hvM'
end Go.Proofs.YthbljhmjppjcjaaDoor.Z
end

section
-- Printed by a program of this session (mp.py) out of the translation.
namespace Go.Proofs.YthbljhmjppjcjaaDoor.Z
open Go.RowKit Go.Proofs.YthbljhmjppjcjaaDoorW.PrintWords Go.Proofs.YthbljhmjppjcjaaDoorW.PrintLast Go.Proofs.YthbljhmjppjcjaaDoorW.PrintMore
attribute [local go_sem] max2_int min2_int max_two min_two max_three min_three max_four min_four   -- for this text's walks alone
set_option linter.unusedVariables false
set_option linter.unusedSimpArgs false

/-! ### cmp_isNaN_uint32: function 58 -/
def cmp_isNaN_uint32.f (a0 : Int) : Option (Bool) := some (a0 != a0)
set_option maxHeartbeats 8000000 in
set_option maxRecDepth 100000 in
theorem cmp_isNaN_uint32.calls (a0 : Int) (r : Bool) (w : World) (h : cmp_isNaN_uint32.f a0 = some r) :
    Calls Tryd.prog 58 #[.int .u32 a0] w fun e w' => e = .returned (.bool r) ∧ Drawn0 w w' := by
  have H : (some (a0 != a0)) = some r := h
  clear h
  obtain rfl := Option.some.inj H
  go_enter Tryd.func58, Tryd.ntmps58
  go_wp2
  go_ret
  exact ⟨by first | rfl | (simp; done) | (simp [*]; done), by repeat (first | exact Drawn0.refl _ | apply Drawn0.step)⟩

end Go.Proofs.YthbljhmjppjcjaaDoor.Z
end

section
-- Printed by a program of this session (mp.py) out of the translation.
namespace Go.Proofs.YthbljhmjppjcjaaDoor.Z
open Go.RowKit Go.Proofs.YthbljhmjppjcjaaDoorW.PrintWords Go.Proofs.YthbljhmjppjcjaaDoorW.PrintLast Go.Proofs.YthbljhmjppjcjaaDoorW.PrintMore
attribute [local go_sem] max2_int min2_int max_two min_two max_three min_three max_four min_four   -- for this text's walks alone
set_option linter.unusedVariables false
set_option linter.unusedSimpArgs false

/-! ### cmp_Compare_uint32: function 48 -/
def cmp_Compare_uint32.f (a0 : Int) (a1 : Int) : Option (Int) := (cmp_isNaN_uint32.f a0).bind fun t129 => ((cmp_isNaN_uint32.f a1).bind fun t130 => (if t129 = true then (if t130 = true then (some 0) else (some (-1))) else (if t130 = true then (some 1) else (if a0 < a1 then (some (-1)) else (if a0 > a1 then (some 1) else (some 0))))))
set_option maxHeartbeats 8000000 in
set_option maxRecDepth 100000 in
theorem cmp_Compare_uint32.calls (a0 : Int) (a1 : Int) (r : Int) (w : World) (h : cmp_Compare_uint32.f a0 a1 = some r) :
    Calls Tryd.prog 48 #[.int .u32 a0, .int .u32 a1] w fun e w' => e = .returned (.int .i64 r) ∧ Drawn0 w w' := by
  have H : ((cmp_isNaN_uint32.f a0).bind fun t129 => ((cmp_isNaN_uint32.f a1).bind fun t130 => (if t129 = true then (if t130 = true then (some 0) else (some (-1))) else (if t130 = true then (some 1) else (if a0 < a1 then (some (-1)) else (if a0 > a1 then (some 1) else (some 0))))))) = some r := h
  clear h
  replace H := Option.bind_eq_some_iff.mp H
  obtain ⟨t129, A30, H⟩ := H
  replace H : ((cmp_isNaN_uint32.f a1).bind fun t130 => (if t129 = true then (if t130 = true then (some 0) else (some (-1))) else (if t130 = true then (some 1) else (if a0 < a1 then (some (-1)) else (if a0 > a1 then (some 1) else (some 0)))))) = some r := H
  have A3 := Aside0.mk A30
  clear A30
  replace H := Option.bind_eq_some_iff.mp H
  obtain ⟨t130, A40, H⟩ := H
  replace H : (if t129 = true then (if t130 = true then (some 0) else (some (-1))) else (if t130 = true then (some 1) else (if a0 < a1 then (some (-1)) else (if a0 > a1 then (some 1) else (some 0))))) = some r := H
  have A4 := Aside0.mk A40
  clear A40
  by_cases c5 : t129 = true
  · subst c5
    have H1 : (if t130 = true then (some 0) else (some (-1))) = some r := by rw [if_pos rfl] at H; exact H
    clear H
    have H := H1
    clear H1
    by_cases c6 : t130 = true
    · subst c6
      have H1 : (some 0) = some r := by rw [if_pos rfl] at H; exact H
      clear H
      have H := H1
      clear H1
      obtain rfl := Option.some.inj H
      go_enter Tryd.func48, Tryd.ntmps48
      go_wp2_with (first | ((with_reducible refine gate_callee (f := 58) rfl ?_); refine gl_ (some 8) Tryd.func58 #[.int .u32 a0] ?_; (with_reducible refine (cmp_isNaN_uint32.calls a0 true _ A3.out).mono ?_); rintro e w' ⟨rfl, ⟨nd, rfl⟩⟩; refine ⟨_, rfl, ?_⟩) | ((with_reducible refine gate_callee (f := 58) rfl ?_); refine gl_ (some 10) Tryd.func58 #[.int .u32 a1] ?_; (with_reducible refine (cmp_isNaN_uint32.calls a1 true _ A4.out).mono ?_); rintro e w' ⟨rfl, ⟨nd, rfl⟩⟩; refine ⟨_, rfl, ?_⟩))
      go_ret
      exact ⟨by first | rfl | (simp; done) | (simp [*]; done), by repeat (first | exact Drawn0.refl _ | apply Drawn0.step)⟩
    · replace c6 := Bool.eq_false_iff.mpr c6
      subst c6
      have H1 : (some (-1)) = some r := by rw [if_neg (show ¬ (false = true) by decide)] at H; exact H
      clear H
      have H := H1
      clear H1
      obtain rfl := Option.some.inj H
      go_enter Tryd.func48, Tryd.ntmps48
      go_wp2_with (first | ((with_reducible refine gate_callee (f := 58) rfl ?_); refine gl_ (some 8) Tryd.func58 #[.int .u32 a0] ?_; (with_reducible refine (cmp_isNaN_uint32.calls a0 true _ A3.out).mono ?_); rintro e w' ⟨rfl, ⟨nd, rfl⟩⟩; refine ⟨_, rfl, ?_⟩) | ((with_reducible refine gate_callee (f := 58) rfl ?_); refine gl_ (some 10) Tryd.func58 #[.int .u32 a1] ?_; (with_reducible refine (cmp_isNaN_uint32.calls a1 false _ A4.out).mono ?_); rintro e w' ⟨rfl, ⟨nd, rfl⟩⟩; refine ⟨_, rfl, ?_⟩))
      go_ret
      exact ⟨by first | rfl | (simp; done) | (simp [*]; done), by repeat (first | exact Drawn0.refl _ | apply Drawn0.step)⟩
  · replace c5 := Bool.eq_false_iff.mpr c5
    subst c5
    have H1 : (if t130 = true then (some 1) else (if a0 < a1 then (some (-1)) else (if a0 > a1 then (some 1) else (some 0)))) = some r := by rw [if_neg (show ¬ (false = true) by decide)] at H; exact H
    clear H
    have H := H1
    clear H1
    by_cases c7 : t130 = true
    · subst c7
      have H1 : (some 1) = some r := by rw [if_pos rfl] at H; exact H
      clear H
      have H := H1
      clear H1
      obtain rfl := Option.some.inj H
      go_enter Tryd.func48, Tryd.ntmps48
      go_wp2_with (first | ((with_reducible refine gate_callee (f := 58) rfl ?_); refine gl_ (some 8) Tryd.func58 #[.int .u32 a0] ?_; (with_reducible refine (cmp_isNaN_uint32.calls a0 false _ A3.out).mono ?_); rintro e w' ⟨rfl, ⟨nd, rfl⟩⟩; refine ⟨_, rfl, ?_⟩) | ((with_reducible refine gate_callee (f := 58) rfl ?_); refine gl_ (some 10) Tryd.func58 #[.int .u32 a1] ?_; (with_reducible refine (cmp_isNaN_uint32.calls a1 true _ A4.out).mono ?_); rintro e w' ⟨rfl, ⟨nd, rfl⟩⟩; refine ⟨_, rfl, ?_⟩))
      go_ret
      exact ⟨by first | rfl | (simp; done) | (simp [*]; done), by repeat (first | exact Drawn0.refl _ | apply Drawn0.step)⟩
    · replace c7 := Bool.eq_false_iff.mpr c7
      subst c7
      have H1 : (if a0 < a1 then (some (-1)) else (if a0 > a1 then (some 1) else (some 0))) = some r := by rw [if_neg (show ¬ (false = true) by decide)] at H; exact H
      clear H
      have H := H1
      clear H1
      by_cases c8 : a0 < a1
      · rw [if_pos c8] at H
        have c8b0 : decide (a0 < a1) = true := decide_eq_true c8
        clear c8
        obtain rfl := Option.some.inj H
        go_enter Tryd.func48, Tryd.ntmps48
        go_wp2_with (first | ((with_reducible refine gate_callee (f := 58) rfl ?_); refine gl_ (some 8) Tryd.func58 #[.int .u32 a0] ?_; (with_reducible refine (cmp_isNaN_uint32.calls a0 false _ A3.out).mono ?_); rintro e w' ⟨rfl, ⟨nd, rfl⟩⟩; refine ⟨_, rfl, ?_⟩) | ((with_reducible refine gate_callee (f := 58) rfl ?_); refine gl_ (some 10) Tryd.func58 #[.int .u32 a1] ?_; (with_reducible refine (cmp_isNaN_uint32.calls a1 false _ A4.out).mono ?_); rintro e w' ⟨rfl, ⟨nd, rfl⟩⟩; refine ⟨_, rfl, ?_⟩))
        go_ret
        exact ⟨by first | rfl | (simp; done) | (simp [*]; done), by repeat (first | exact Drawn0.refl _ | apply Drawn0.step)⟩
      · rw [if_neg c8] at H
        have c8b0 : decide (a0 < a1) = false := decide_eq_false c8
        clear c8
        by_cases c9 : a0 > a1
        · rw [if_pos c9] at H
          have c9b0 : decide (a1 < a0) = true := decide_eq_true c9
          clear c9
          obtain rfl := Option.some.inj H
          go_enter Tryd.func48, Tryd.ntmps48
          go_wp2_with (first | ((with_reducible refine gate_callee (f := 58) rfl ?_); refine gl_ (some 8) Tryd.func58 #[.int .u32 a0] ?_; (with_reducible refine (cmp_isNaN_uint32.calls a0 false _ A3.out).mono ?_); rintro e w' ⟨rfl, ⟨nd, rfl⟩⟩; refine ⟨_, rfl, ?_⟩) | ((with_reducible refine gate_callee (f := 58) rfl ?_); refine gl_ (some 10) Tryd.func58 #[.int .u32 a1] ?_; (with_reducible refine (cmp_isNaN_uint32.calls a1 false _ A4.out).mono ?_); rintro e w' ⟨rfl, ⟨nd, rfl⟩⟩; refine ⟨_, rfl, ?_⟩))
          go_ret
          exact ⟨by first | rfl | (simp; done) | (simp [*]; done), by repeat (first | exact Drawn0.refl _ | apply Drawn0.step)⟩
        · rw [if_neg c9] at H
          have c9b0 : decide (a1 < a0) = false := decide_eq_false c9
          clear c9
          obtain rfl := Option.some.inj H
          go_enter Tryd.func48, Tryd.ntmps48
          go_wp2_with (first | ((with_reducible refine gate_callee (f := 58) rfl ?_); refine gl_ (some 8) Tryd.func58 #[.int .u32 a0] ?_; (with_reducible refine (cmp_isNaN_uint32.calls a0 false _ A3.out).mono ?_); rintro e w' ⟨rfl, ⟨nd, rfl⟩⟩; refine ⟨_, rfl, ?_⟩) | ((with_reducible refine gate_callee (f := 58) rfl ?_); refine gl_ (some 10) Tryd.func58 #[.int .u32 a1] ?_; (with_reducible refine (cmp_isNaN_uint32.calls a1 false _ A4.out).mono ?_); rintro e w' ⟨rfl, ⟨nd, rfl⟩⟩; refine ⟨_, rfl, ?_⟩))
          go_ret
          exact ⟨by first | rfl | (simp; done) | (simp [*]; done), by repeat (first | exact Drawn0.refl _ | apply Drawn0.step)⟩

end Go.Proofs.YthbljhmjppjcjaaDoor.Z
end

section
-- Printed by a program of this session (mp.py) out of the translation.
namespace Go.Proofs.YthbljhmjppjcjaaDoor.Z
open Go.RowKit Go.Proofs.YthbljhmjppjcjaaDoorW.PrintWords Go.Proofs.YthbljhmjppjcjaaDoorW.PrintLast Go.Proofs.YthbljhmjppjcjaaDoorW.PrintMore
attribute [local go_sem] max2_int min2_int max_two min_two max_three min_three max_four min_four   -- for this text's walks alone
set_option linter.unusedVariables false
set_option linter.unusedSimpArgs false

/-! ### dev_drive_place_1: function 47 -/
def dev_drive_place_1.f (a0_0 : Int) (a0_1 : ByteArray) (a1 : Int) : Option (Int) := (cmp_Compare_uint32.f a0_0 a1).bind fun t132 => (some t132)
set_option maxHeartbeats 8000000 in
set_option maxRecDepth 100000 in
theorem dev_drive_place_1.calls (a0_0 : Int) (a0_1 : ByteArray) (a1 : Int) (r : Int) (w : World) (h : dev_drive_place_1.f a0_0 a0_1 a1 = some r) :
    Calls Tryd.prog 47 #[.agg #[.int .u32 a0_0, .string a0_1], .int .u32 a1] w fun e w' => e = .returned (.int .i64 r) ∧ Below w.heap.size w w' := by
  have hu60 := Tryd.underlying60
  have HB := Aside0.mk (Below.refl w.heap.size w)
  have H : ((cmp_Compare_uint32.f a0_0 a1).bind fun t132 => (some t132)) = some r := h
  clear h
  replace H := Option.bind_eq_some_iff.mp H
  obtain ⟨t132, A30, H⟩ := H
  replace H : (some t132) = some r := H
  have A3 := Aside0.mk A30
  clear A30
  obtain rfl := Option.some.inj H
  go_enter Tryd.func47, Tryd.ntmps47
  go_wp2_with (first | ((with_reducible refine gate_dst (N := 2) rfl ?_); refine bx_ (N := 2) (cs := #[.int .u32 a0_0, .string a0_1]) (t := 60) ?_; intro gb131 hg w4 hbox hb; have BK131 := Aside0.mk (hbox); have GW131 := ge_ hg; have GE131 := ge_ hg; replace HB := hb_ hb; clear hb hbox hg; obtain ⟨hcz5_0, hcz5_1⟩ := cl2_ BK131; obtain ⟨hfz5_0, hfz5_1⟩ := fz2_ BK131) | ((with_reducible refine gate_callee (f := 48) rfl ?_); refine gl_ (some 8) Tryd.func48 #[.int .u32 a0_0, .int .u32 a1] ?_; (with_reducible refine (cmp_Compare_uint32.calls a0_0 a1 t132 _ A3.out).mono ?_); rintro e w' ⟨rfl, ⟨nd, rfl⟩⟩; refine ⟨_, rfl, ?_⟩))
  go_ret
  exact ⟨by first | rfl | (simp [errW_none, errW_some] <;> rfl) | (simp [*, errW_none, errW_some] <;> rfl), bel_⟩

end Go.Proofs.YthbljhmjppjcjaaDoor.Z
end

section
-- Printed by a program of this session (mp.py) out of the translation.
namespace Go.Proofs.YthbljhmjppjcjaaDoor.Z
open Go.RowKit Go.Proofs.YthbljhmjppjcjaaDoorW.PrintWords Go.Proofs.YthbljhmjppjcjaaDoorW.PrintLast Go.Proofs.YthbljhmjppjcjaaDoorW.PrintMore
attribute [local go_sem] max2_int min2_int max_two min_two max_three min_three max_four min_four   -- for this text's walks alone
set_option linter.unusedVariables false
set_option linter.unusedSimpArgs false

/-! ### slices_BinarySearchFunc_api_Block_api_Block_uint32_fn47: function 46 -/
def slices_BinarySearchFunc_api_Block_api_Block_uint32_fn47.l0 : Nat → List (S60) → Int → Int → Int → Int → Option (Int × Bool)
  | 0, _, _, _, _, _ => none
  | k + 1, x0, x1, x8, x9, x10 => if x9 < x10 then (if 0 ≤ (wrap64 ((IntKind.u64.wrap (wrap64 (x9 + x10))) / 2)) then (if (wrap64 ((IntKind.u64.wrap (wrap64 (x9 + x10))) / 2)) < (x0.length : Int) then ((dev_drive_place_1.f ((rd_T60 x0 (wrap64 ((IntKind.u64.wrap (wrap64 (x9 + x10))) / 2))).f0) ((rd_T60 x0 (wrap64 ((IntKind.u64.wrap (wrap64 (x9 + x10))) / 2))).f1) x1).bind fun t134 => (if t134 < 0 then (slices_BinarySearchFunc_api_Block_api_Block_uint32_fn47.l0 k x0 x1 x8 (wrap64 ((wrap64 ((IntKind.u64.wrap (wrap64 (x9 + x10))) / 2)) + 1)) x10) else (slices_BinarySearchFunc_api_Block_api_Block_uint32_fn47.l0 k x0 x1 x8 x9 (wrap64 ((IntKind.u64.wrap (wrap64 (x9 + x10))) / 2))))) else (none)) else (none)) else (if x9 < x8 then (if 0 ≤ x9 then (if x9 < (x0.length : Int) then ((dev_drive_place_1.f ((rd_T60 x0 x9).f0) ((rd_T60 x0 x9).f1) x1).bind fun t136 => (some (x9, (t136 == 0)))) else (none)) else (none)) else (some (x9, false)))
def slices_BinarySearchFunc_api_Block_api_Block_uint32_fn47.f (k : Nat) (l0 : List (S60)) (a1 : Int)  : Option (Int × Bool) := slices_BinarySearchFunc_api_Block_api_Block_uint32_fn47.l0 k l0 a1 (l0.length : Int) 0 (l0.length : Int)
theorem slices_BinarySearchFunc_api_Block_api_Block_uint32_fn47.mono_l : ∀ k, (∀ y0 y1 y2 y3 y4, LeO (slices_BinarySearchFunc_api_Block_api_Block_uint32_fn47.l0 k y0 y1 y2 y3 y4) (slices_BinarySearchFunc_api_Block_api_Block_uint32_fn47.l0 (k + 1) y0 y1 y2 y3 y4))
  | 0 => fun _ _ _ _ _ r h => by simp [slices_BinarySearchFunc_api_Block_api_Block_uint32_fn47.l0] at h
  | k + 1 => by
    have ih0 := slices_BinarySearchFunc_api_Block_api_Block_uint32_fn47.mono_l k
    · intro y0 y1 y2 y3 y4
      unfold slices_BinarySearchFunc_api_Block_api_Block_uint32_fn47.l0
      repeat' first
      | (with_reducible exact ih0 _ _ _ _ _)
      | (with_reducible exact LeO.refl _)
      | (with_reducible exact LeO.none _)
      | (with_reducible refine LeO.ite ?_ ?_)
      | (with_reducible refine LeO.bind ?_ (fun _ => ?_))
      | exact ih0 _ _ _ _ _
      | exact LeO.none _
      | refine LeO.ite ?_ ?_
      | refine LeO.bind ?_ (fun _ => ?_)
theorem slices_BinarySearchFunc_api_Block_api_Block_uint32_fn47.mono : ∀ a0 a1 k, LeO (slices_BinarySearchFunc_api_Block_api_Block_uint32_fn47.f k a0 a1) (slices_BinarySearchFunc_api_Block_api_Block_uint32_fn47.f (k + 1) a0 a1) := by
  intro a0 a1 k
  have ih0 := slices_BinarySearchFunc_api_Block_api_Block_uint32_fn47.mono_l k
  unfold slices_BinarySearchFunc_api_Block_api_Block_uint32_fn47.f
  repeat' first
      | (with_reducible exact ih0 _ _ _ _ _)
      | (with_reducible exact LeO.refl _)
      | (with_reducible exact LeO.none _)
      | (with_reducible refine LeO.ite ?_ ?_)
      | (with_reducible refine LeO.bind ?_ (fun _ => ?_))
      | exact ih0 _ _ _ _ _
      | exact LeO.none _
      | refine LeO.ite ?_ ?_
      | refine LeO.bind ?_ (fun _ => ?_)
set_option maxHeartbeats 8000000 in
set_option maxRecDepth 100000 in
theorem slices_BinarySearchFunc_api_Block_api_Block_uint32_fn47.calls (k : Nat) (A0 : Option Addr) (c0 : Nat) (l0 : List (S60)) (a1 : Int)  (r1 : Int) (r2 : Bool) (w : World) (hr0 : Kd.C k60 w A0 l0.length l0) (hc0 : l0.length ≤ c0) (h : slices_BinarySearchFunc_api_Block_api_Block_uint32_fn47.f k l0 a1 = some (r1, r2)) :
    Calls Tryd.prog 46 #[.slice A0 l0.length c0, .int .u32 a1, .func (.func 47) #[] #[]] w fun e w' => e = .returned (.tuple #[.int .i64 r1, .bool r2]) ∧ Below w.heap.size w w' := by
  have hu60 := Tryd.underlying60
  have HR0 := Aside0.mk hr0
  have HC0 := Aside0.mk hc0
  clear hr0 hc0
  have HB := Aside0.mk (Below.refl w.heap.size w)
  have H : (slices_BinarySearchFunc_api_Block_api_Block_uint32_fn47.l0 k l0 a1 (l0.length : Int) 0 (l0.length : Int)) = some (r1, r2) := h
  clear h
  have H' := Aside0.mk H
  clear H
  go_enter Tryd.func46, Tryd.ntmps46
  go_wp2
  go_loopg [9, 10] k (fun kq v9 v10 w' => ∃ (x9_1 : Int) (x10_1 : Int), v9 = .int .i64 x9_1 ∧ v10 = .int .i64 x10_1 ∧ Aside0 (slices_BinarySearchFunc_api_Block_api_Block_uint32_fn47.l0 kq l0 a1 (l0.length : Int) x9_1 x10_1 = some (r1, r2)) ∧ Aside0 (kq ≤ k) ∧ Aside0 (Below w.heap.size w w'))
  case atStart => exact ⟨(0), ((l0.length : Int)), (by first | rfl | (simp; done) | (simp [*]; done)), (by first | rfl | (simp; done) | (simp [*]; done)), H', ⟨Nat.le_refl _⟩, ⟨bel_⟩⟩
  case round =>
    clear H'
    try clear p2
    obtain ⟨x9_1, x10_1, rfl, rfl, HA, HK1, HB⟩ := hrel
    cases gk with
    | zero => exact absurd HA.out (by simp [slices_BinarySearchFunc_api_Block_api_Block_uint32_fn47.l0])
    | succ k1 =>
      have H := HA.out
      clear HA
      simp only [slices_BinarySearchFunc_api_Block_api_Block_uint32_fn47.l0] at H
      by_cases c4 : x9_1 < x10_1
      · rw [if_pos c4] at H
        have c4b0 : decide (x9_1 < x10_1) = true := decide_eq_true c4
        clear c4
        obtain ⟨ji5, hji5⟩ : ∃ j_ : Int, (wrap64 ((IntKind.u64.wrap (wrap64 (x9_1 + x10_1))) / 2)) = j_ := ⟨_, rfl⟩
        replace H : (if 0 ≤ (ji5) then (if (ji5) < (l0.length : Int) then ((dev_drive_place_1.f ((rd_T60 l0 (ji5)).f0) ((rd_T60 l0 (ji5)).f1) a1).bind fun t134 => (if t134 < 0 then (slices_BinarySearchFunc_api_Block_api_Block_uint32_fn47.l0 k1 l0 a1 (l0.length : Int) (wrap64 ((ji5) + 1)) x10_1) else (slices_BinarySearchFunc_api_Block_api_Block_uint32_fn47.l0 k1 l0 a1 (l0.length : Int) x9_1 ji5))) else (none)) else (none)) = some (r1, r2) := by first | (rw [hji5] at H; exact H) | (simp only [hji5] at H ⊢; exact H)
        have hji5w : (IntKind.i64.wrap ((IntKind.u64.wrap (wrap64 (x9_1 + x10_1))) / 2)) = ji5 := (i64_w _).trans hji5
        by_cases c6 : 0 ≤ (ji5)
        · rw [if_pos c6] at H
          have c6b0 : decide (0 ≤ (ji5)) = true := decide_eq_true c6
          clear c6
          by_cases c7 : (ji5) < (l0.length : Int)
          · rw [if_pos c7] at H
            have c7b0 : decide ((ji5) < (l0.length : Int)) = true := decide_eq_true c7
            clear c7
            replace H := Option.bind_eq_some_iff.mp H
            obtain ⟨t134, A80, H⟩ := H
            replace H : (if t134 < 0 then (slices_BinarySearchFunc_api_Block_api_Block_uint32_fn47.l0 k1 l0 a1 (l0.length : Int) (wrap64 ((ji5) + 1)) x10_1) else (slices_BinarySearchFunc_api_Block_api_Block_uint32_fn47.l0 k1 l0 a1 (l0.length : Int) x9_1 ji5)) = some (r1, r2) := H
            have A8 := Aside0.mk A80
            clear A80
            by_cases c9 : t134 < 0
            · rw [if_pos c9] at H
              have c9b0 : decide (t134 < 0) = true := decide_eq_true c9
              clear c9
              have H' := Aside0.mk H
              clear H
              have p133 : 0 ≤ ((ji5) : Int) := of_decide_eq_true (by first | (with_reducible assumption) | assumption)
              have q133 : (ji5) < (l0.length : Int) := of_decide_eq_true (by first | (with_reducible assumption) | assumption)
              obtain ⟨ad133, e133, hx133_0, hx133_1⟩ := at_T60 HR0.out (ji5) p133 q133
              cases e133
              replace hx133_0 := (HB.out.cell (World.block_lt_of_cell? w _ hx133_0)).trans hx133_0
              replace hx133_1 := (HB.out.cell (World.block_lt_of_cell? w _ hx133_1)).trans hx133_1
              replace p133 := eq_true p133
              replace q133 := eq_true q133
              go_wp2_with (first | ((with_reducible refine gate_dyn rfl ?_); refine goesD_ (some 30) rfl rfl Tryd.func47 (by kernel_rfl) rfl #[.agg #[.int .u32 ((rd_T60 l0 (ji5)).f0), .string ((rd_T60 l0 (ji5)).f1)], .int .u32 a1] rfl rfl (by (try simp only [List.map_toArray, List.map_cons, List.map_nil]); first | done | (simp only [hji5]; rfl) | rfl | (simp only [List.length_drop, List.length_take]; rfl)) ?_; (with_reducible refine (dev_drive_place_1.calls ((rd_T60 l0 (ji5)).f0) ((rd_T60 l0 (ji5)).f1) a1 t134 _ A8.out).mono ?_); rintro e w10 ⟨rfl, hb⟩; refine ⟨_, rfl, ?_⟩; replace HB := hb_ hb; (try clear hb); (try clear hb2); (try clear hk); (try clear hi)))
              go_roundg k1
              case measure => have := HK1.out; omega
              case rel => exact ⟨(wrap64 ((ji5) + 1)), (x10_1), (by first | rfl | (simp; done) | (simp only [← hji5] <;> (first | rfl | simp)) | (simp [*]; done)), (by first | rfl | (simp; done) | (simp [*]; done)), H', ⟨by have := HK1.out; omega⟩, ⟨bel_⟩⟩
            · rw [if_neg c9] at H
              have c9b0 : decide (t134 < 0) = false := decide_eq_false c9
              clear c9
              have H' := Aside0.mk H
              clear H
              have p133 : 0 ≤ ((ji5) : Int) := of_decide_eq_true (by first | (with_reducible assumption) | assumption)
              have q133 : (ji5) < (l0.length : Int) := of_decide_eq_true (by first | (with_reducible assumption) | assumption)
              obtain ⟨ad133, e133, hx133_0, hx133_1⟩ := at_T60 HR0.out (ji5) p133 q133
              cases e133
              replace hx133_0 := (HB.out.cell (World.block_lt_of_cell? w _ hx133_0)).trans hx133_0
              replace hx133_1 := (HB.out.cell (World.block_lt_of_cell? w _ hx133_1)).trans hx133_1
              replace p133 := eq_true p133
              replace q133 := eq_true q133
              go_wp2_with (first | ((with_reducible refine gate_dyn rfl ?_); refine goesD_ (some 30) rfl rfl Tryd.func47 (by kernel_rfl) rfl #[.agg #[.int .u32 ((rd_T60 l0 (ji5)).f0), .string ((rd_T60 l0 (ji5)).f1)], .int .u32 a1] rfl rfl (by (try simp only [List.map_toArray, List.map_cons, List.map_nil]); first | done | (simp only [hji5]; rfl) | rfl | (simp only [List.length_drop, List.length_take]; rfl)) ?_; (with_reducible refine (dev_drive_place_1.calls ((rd_T60 l0 (ji5)).f0) ((rd_T60 l0 (ji5)).f1) a1 t134 _ A8.out).mono ?_); rintro e w11 ⟨rfl, hb⟩; refine ⟨_, rfl, ?_⟩; replace HB := hb_ hb; (try clear hb); (try clear hb2); (try clear hk); (try clear hi)))
              go_roundg k1
              case measure => have := HK1.out; omega
              case rel => exact ⟨(x9_1), (ji5), (by first | rfl | (simp; done) | (simp [*]; done)), (by first | rfl | (simp; done) | (simp only [← hji5] <;> (first | rfl | simp)) | (simp [*]; done)), H', ⟨by have := HK1.out; omega⟩, ⟨bel_⟩⟩
          · rw [if_neg c7] at H
            exact absurd H (by simp)
        · rw [if_neg c6] at H
          exact absurd H (by simp)
      · rw [if_neg c4] at H
        have c4b0 : decide (x9_1 < x10_1) = false := decide_eq_false c4
        clear c4
        by_cases c12 : x9_1 < (l0.length : Int)
        · rw [if_pos c12] at H
          have c12b0 : decide (x9_1 < (l0.length : Int)) = true := decide_eq_true c12
          clear c12
          by_cases c13 : 0 ≤ x9_1
          · rw [if_pos c13] at H
            have c13b0 : decide (0 ≤ x9_1) = true := decide_eq_true c13
            clear c13
            by_cases c14 : x9_1 < (l0.length : Int)
            · rw [if_pos c14] at H
              have c14b0 : decide (x9_1 < (l0.length : Int)) = true := decide_eq_true c14
              clear c14
              replace H := Option.bind_eq_some_iff.mp H
              obtain ⟨t136, A150, H⟩ := H
              replace H : (some (x9_1, (t136 == 0))) = some (r1, r2) := H
              have A15 := Aside0.mk A150
              clear A150
              simp only [Option.some.injEq, Prod.mk.injEq] at H
              obtain ⟨rfl, rfl⟩ := H
              have p135 : 0 ≤ (x9_1 : Int) := of_decide_eq_true (by first | (with_reducible assumption) | assumption)
              have q135 : x9_1 < (l0.length : Int) := of_decide_eq_true (by first | (with_reducible assumption) | assumption)
              obtain ⟨ad135, e135, hx135_0, hx135_1⟩ := at_T60 HR0.out x9_1 p135 q135
              cases e135
              replace hx135_0 := (HB.out.cell (World.block_lt_of_cell? w _ hx135_0)).trans hx135_0
              replace hx135_1 := (HB.out.cell (World.block_lt_of_cell? w _ hx135_1)).trans hx135_1
              replace p135 := eq_true p135
              replace q135 := eq_true q135
              go_wp2_with (first | (go_at_call 47; (with_reducible refine (dev_drive_place_1.calls ((rd_T60 l0 x9_1).f0) ((rd_T60 l0 x9_1).f1) a1 t136 _ A15.out).mono ?_); rintro e w16 ⟨rfl, hb⟩; replace HB := hb_ hb; (try clear hb); (try clear hb2); (try clear hk); (try clear hi)))
              go_ret2
              exact ⟨by first | rfl | (simp [errW_none, errW_some] <;> rfl) | (simp [*, errW_none, errW_some] <;> rfl), bel_⟩
            · rw [if_neg c14] at H
              exact absurd H (by simp)
          · rw [if_neg c13] at H
            exact absurd H (by simp)
        · rw [if_neg c12] at H
          have c12b0 : decide (x9_1 < (l0.length : Int)) = false := decide_eq_false c12
          clear c12
          simp only [Option.some.injEq, Prod.mk.injEq] at H
          obtain ⟨rfl, rfl⟩ := H
          go_wp2
          go_ret2
          exact ⟨by first | rfl | (simp [errW_none, errW_some] <;> rfl) | (simp [*, errW_none, errW_some] <;> rfl), bel_⟩

end Go.Proofs.YthbljhmjppjcjaaDoor.Z
end
