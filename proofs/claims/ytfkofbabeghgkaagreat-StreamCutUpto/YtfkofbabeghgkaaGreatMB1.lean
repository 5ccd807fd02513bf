/- This session's own texts, laid together (a part that several claims share). -/
import Derived.Test.YtfkofbabeghgkaaGreatProg
import Derived.Below
import Derived.Deep.Draws
import Derived.Deep.AppendLies
import Derived.Maps.AppendAt
import Derived.OwnWalk
import Derived.Laws.BytesArg
import Derived.Laws.MakeOwn
import Derived.Laws.OwnMore
import Derived.Deep.OwnRows
import Derived.Tactics
import Derived.Lib.ConvBytes
import Derived.Laws.Slices
import Derived.WalkKit
import Derived.KernelRfl
import Derived.RowKit3
import Derived.Deep.LoopGhost
import Derived.Deep.QuietTactic
import Derived.BigQuiet
import Derived.WideLaws
import Derived.Deep.DeepCutAuto
import Derived.Deep.CutBlock
import Derived.Deep.RegionHeld3
import Derived.Laws.Rows
import Derived.Lib.AppendStr
import Derived.ArgAppend
import Derived.Laws.IdiomCopy
import Derived.OrdersHeld
import Derived.Laws.BitsLemmas
import Derived.RowKit
import Derived.Test.YtfkofbabeghgkaaGreatVWords
import Derived.Test.YtfkofbabeghgkaaGreatVLast
import Derived.Test.YtfkofbabeghgkaaGreatVTab
import Derived.Test.YtfkofbabeghgkaaGreatVQPut
import Derived.Test.YtfkofbabeghgkaaGreatVApart
import Derived.Test.YtfkofbabeghgkaaGreatVArr
import Derived.Test.YtfkofbabeghgkaaGreatVZeros
import Derived.Test.YtfkofbabeghgkaaGreatVFoot
import Derived.Test.YtfkofbabeghgkaaGreatVKept
import Derived.Test.YtfkofbabeghgkaaGreatVShare
import Derived.Test.YtfkofbabeghgkaaGreatVN
import Derived.Test.YtfkofbabeghgkaaGreatVEqStruct
import Derived.Test.YtfkofbabeghgkaaGreatVRepsOne
import Derived.Test.YtfkofbabeghgkaaGreatVGuard
import Derived.Test.YtfkofbabeghgkaaGreatVNEv
import Derived.Test.YtfkofbabeghgkaaGreatVMore
import Derived.WalkMore
import Derived.Lib.SliceRun
import Derived.Lib.AppendZeros
import Derived.Lib.Overlaps
import Derived.Deep.AppendSrc
import Derived.Deep.RegionLaw
import Derived.Lib.FrozenHead
import Derived.Lib.FrozenHead2
import Derived.Lib.UnsafeStr
import Derived.Lib.OthersKept
import Derived.Laws.CopyRow
import Derived.Laws.CopyOwn
import Derived.Maps.OwnSet
import Derived.Deep.DeepAppendWide
import Derived.Deep.DrawnRows
import Derived.DataShut
import Derived.LoopTactic
import Derived.Shelf.Small.Wraps
import Derived.Shelf.Strconv.Itoa0
import Derived.Shelf.Strings.Search1
import Derived.Shelf.Strings.Search2
import Derived.Shelf.Strings.Search3
import Derived.Shelf.LaysM
import Derived.Shelf.Strings.Shaped
import Derived.Shelf.Strings.Prefix
import Derived.Lib.IndexLaws
import Derived.Lib.BitFns
import Derived.Tactics2
import Derived.Defers
import Derived.Laws.Pointers
import Derived.Laws.LoneSync
import Derived.RegionTactic
import Derived.RegionCalls
import Derived.BigRegion
import Derived.ChangeAlike
import Derived.Laws.NewBlocks
open Go.RowKit Go.Proofs.YtfkofbabeghgkaaGreatW.PrintWords Go.Proofs.YtfkofbabeghgkaaGreatW.PrintLast Go.Proofs.YtfkofbabeghgkaaGreatW.PrintMore
set_option linter.unusedVariables false
set_option linter.unusedSimpArgs false
section
namespace Go.Proofs.YtfkofbabeghgkaaGreat.Z
attribute [local go_sem] max2_int min2_int max_two min_two max_three min_three max_four min_four   -- for this text's walks alone
def errW : Option Int → Value
  | none => .nilIface
  | some c => .iface 0 (.int .i64 c)
theorem errW_none : errW none = .nilIface := rfl
theorem errW_some (c : Int) : errW (some c) = .iface 0 (.int .i64 c) := rfl
theorem info5 : (Tryz.prog.info? 5).map (fun i => (i.zero, i.size, i.bytes)) = some (some (.int .u8 0), 1, 1) := by kernel_rfl
theorem info60 : (Tryz.prog.info? 60).map (fun i => (i.zero, i.size, i.bytes)) = some (some (.agg #[(.string ⟨#[]⟩), (.bool false), (.string ⟨#[]⟩)]), 3, 40) := by kernel_rfl
theorem info77 : (Tryz.prog.info? 77).map (fun i => (i.zero, i.size, i.bytes)) = some (some (.agg #[(.string ⟨#[]⟩), (.string ⟨#[]⟩)]), 2, 32) := by kernel_rfl
-- the values' own types
structure S77 where
  f0 : ByteArray
  f1 : ByteArray
def z77 : S77 := ⟨(⟨#[]⟩ : ByteArray), (⟨#[]⟩ : ByteArray)⟩
def k77 : Kd S77 := Kd.iso (Kd.pair Kd.string Kd.string) (fun x : S77 => (x.f0, x.f1))
theorem k77_open {w : World} {x : S77} {cs : List Value} (h : k77.K w x cs) : cs = [.string x.f0, .string x.f1] := by
  obtain ⟨_, _, rfl, rfl, rfl⟩ := h
  exact rfl
theorem k77_openM {w : World} {base : Nat} {ok : Nat → Prop} {x : S77} {cs : List Value} (h : k77.M w base ok x cs) : cs = [.string x.f0, .string x.f1] := by
  obtain ⟨_, _, rfl, rfl, rfl⟩ := h
  exact rfl
theorem k77_mkM (w : World) (base : Nat) (ok : Nat → Prop) (x : S77)  : k77.M w base ok x [.string x.f0, .string x.f1] := ⟨[.string x.f0], [.string x.f1], rfl, rfl, rfl⟩
def rd_T77 (xs : List S77) (i : Int) : S77 := xs.getD i.toNat z77
theorem at_T77 {w : World} {A : Option Addr} {n : Nat} {xs : List S77} (h : Kd.C k77 w A n xs) (i : Int) (h0 : 0 ≤ i) (h1 : i < n) : ∃ ad , A = some ad ∧ w.cell? (ad.add (i.toNat * 2)) = some (.string (rd_T77 xs i).f0) ∧ w.cell? ⟨(ad.add (i.toNat * 2)).block, (ad.add (i.toNat * 2)).off + 1, none⟩ = some (.string (rd_T77 xs i).f1) := by
  obtain ⟨ad, c, e, _, hK, hc0⟩ := Kd.C_get h z77 i h0 h1
  have hc : ∀ j u, c[j]? = some u → w.cell? (ad.add (i.toNat * 2 + j)) = some u := hc0
  obtain rfl := k77_open hK
  exact ⟨ad, e, hc 0 _ rfl, by rw [← add_field _ _ 1 (by omega)]; exact hc 1 _ rfl⟩
structure S60 where
  f0 : ByteArray
  f1 : Bool
  f2 : ByteArray
def z60 : S60 := ⟨(⟨#[]⟩ : ByteArray), false, (⟨#[]⟩ : ByteArray)⟩
def k60 : Kd S60 := Kd.iso (Kd.pair Kd.string (Kd.pair Kd.bool Kd.string)) (fun x : S60 => (x.f0, x.f1, x.f2))
theorem k60_open {w : World} {x : S60} {cs : List Value} (h : k60.K w x cs) : cs = [.string x.f0, .bool x.f1, .string x.f2] := by
  obtain ⟨_, _, rfl, rfl, ⟨_, _, rfl, rfl, rfl⟩⟩ := h
  exact rfl
theorem k60_mkM (w : World) (base : Nat) (ok : Nat → Prop) (x : S60)  : k60.M w base ok x [.string x.f0, .bool x.f1, .string x.f2] := ⟨[.string x.f0], [.bool x.f1, .string x.f2], rfl, rfl, ⟨[.bool x.f1], [.string x.f2], rfl, rfl, rfl⟩⟩
def rd_T60 (xs : List S60) (i : Int) : S60 := xs.getD i.toNat z60
theorem at_T60 {w : World} {A : Option Addr} {n : Nat} {xs : List S60} (h : Kd.C k60 w A n xs) (i : Int) (h0 : 0 ≤ i) (h1 : i < n) : ∃ ad , A = some ad ∧ w.cell? (ad.add (i.toNat * 3)) = some (.string (rd_T60 xs i).f0) ∧ w.cell? ⟨(ad.add (i.toNat * 3)).block, (ad.add (i.toNat * 3)).off + 1, none⟩ = some (.bool (rd_T60 xs i).f1) ∧ w.cell? ⟨(ad.add (i.toNat * 3)).block, (ad.add (i.toNat * 3)).off + 2, none⟩ = some (.string (rd_T60 xs i).f2) := by
  obtain ⟨ad, c, e, _, hK, hc0⟩ := Kd.C_get h z60 i h0 h1
  have hc : ∀ j u, c[j]? = some u → w.cell? (ad.add (i.toNat * 3 + j)) = some u := hc0
  obtain rfl := k60_open hK
  exact ⟨ad, e, hc 0 _ rfl, by rw [← add_field _ _ 1 (by omega)]; exact hc 1 _ rfl, by rw [← add_field _ _ 2 (by omega)]; exact hc 2 _ rfl⟩
end Go.Proofs.YtfkofbabeghgkaaGreat.Z
end

section
namespace Go.Proofs.YtfkofbabeghgkaaGreat.Z
theorem bel_ {w w1 : World} (h : Below w.heap.size w w1 := by repeat (first | (with_reducible first | exact HB.out | apply below_alloc | apply pw_below_drewN | apply below_drew1 | refine below_set ?_ (Aside0.out (by with_reducible assumption))) | exact HB.out)) : Below w.heap.size w w1 := h
theorem hb_ {w0 w1 w2 : World} (hb : Below w1.heap.size w1 w2) (h : Below w0.heap.size w0 w1 := by repeat (first | (with_reducible first | exact HB.out | apply below_alloc | apply pw_below_drewN | apply below_drew1 | refine below_set ?_ (Aside0.out (by with_reducible assumption))) | exact HB.out)) : Aside0 (Below w0.heap.size w0 w2) := ⟨below_step h hb⟩
theorem kb_ {w w1 w2 : World} {g : Nat} {o : Obj} (h : Aside0 (w.heap[g]? = some o)) (hb : Below w1.heap.size w1 w2) (hw : Below w.heap.size w w1 := by with_reducible repeat (first | exact Below.refl _ _ | apply below_alloc | apply pw_below_drewN | apply below_drew1)) : Aside0 (w2.heap[g]? = some o) := ⟨blk_below (blk_below h.out hw) hb⟩
theorem bk_ {w w1 : World} {g : Nat} {o : Obj} (h : Aside0 (w.heap[g]? = some o)) (hw : Below w.heap.size w w1 := by with_reducible repeat (first | exact Below.refl _ _ | apply below_alloc | apply pw_below_drewN | apply below_drew1)) : w1.heap[g]? = some o := blk_below h.out hw
theorem ge_ {w0 w1 : World} {g : Nat} (hg : g = w1.heap.size) (h : Below w0.heap.size w0 w1 := by repeat (first | (with_reducible first | exact HB.out | apply below_alloc | apply pw_below_drewN | apply below_drew1 | refine below_set ?_ (Aside0.out (by with_reducible assumption))) | exact HB.out)) : Aside0 (w0.heap.size ≤ g) := ⟨by rw [hg]; exact below_size h⟩
theorem nl_ {w w1 : World} {g g' : Nat} {o : Obj} (h : Aside0 (w.heap[g]? = some o)) (hg : g' = w1.heap.size) (hw : Below w.heap.size w w1 := by with_reducible repeat (first | exact Below.refl _ _ | apply below_alloc | apply pw_below_drewN | apply below_drew1)) : Aside0 (g ≠ g') := ⟨by rw [hg]; exact Nat.ne_of_lt (blk_lt (blk_below h.out hw))⟩
theorem ng_ {w w1 : World} {g g' : Nat} {o : Obj} (h : Aside0 (w.heap[g]? = some o)) (hg : g' = w1.heap.size) (hw : Below w.heap.size w w1 := by with_reducible repeat (first | exact Below.refl _ _ | apply below_alloc | apply pw_below_drewN | apply below_drew1)) : Aside0 (g' ≠ g) := ⟨by rw [hg]; exact Nat.ne_of_gt (blk_lt (blk_below h.out hw))⟩
section
variable {α : Type} {d : Kd α} {e base base' n : Nat} {ok : Nat → Prop} {w w1 w2 : World} {v : Value} {xs : List α} {A : Option Addr}
theorem rb_ (h : Aside0 (d.R e w base ok v xs)) (hb : Below w1.heap.size w1 w2) (hw : Below w.heap.size w w1 := by with_reducible repeat (first | exact Below.refl _ _ | apply below_alloc | apply pw_below_drewN | apply below_drew1)) : Aside0 (d.R e w2 base ok v xs) := ⟨Kd.R_below (Kd.R_below h.out hw) hb⟩
theorem ra_ (h : Aside0 (d.R e w base ok v xs)) (hw : Below w.heap.size w w1 := by with_reducible repeat (first | exact Below.refl _ _ | apply below_alloc | apply pw_below_drewN | apply below_drew1)) : d.R e w1 base ok v xs := Kd.R_below h.out hw
theorem rl_ {w0 : World} (h : d.R e w2 w1.heap.size ok v xs) (hb : Below w0.heap.size w0 w1 := by repeat (first | (with_reducible first | exact HB.out | apply below_alloc | apply pw_below_drewN | apply below_drew1 | refine below_set ?_ (Aside0.out (by with_reducible assumption))) | exact HB.out)) : Aside0 (d.R e w2 w0.heap.size ok v xs) := ⟨Kd.R_lower h (below_size hb)⟩
theorem cb_ {w0 : World} (h : Aside0 (d.C w0 A n xs)) (hb : Below w0.heap.size w0 w1 := by repeat (first | (with_reducible first | exact HB.out | apply below_alloc | apply pw_below_drewN | apply below_drew1 | refine below_set ?_ (Aside0.out (by with_reducible assumption))) | exact HB.out)) : d.C w1 A n xs := Kd.C_below h.out hb
end
def Off {α : Type} (d : Kd α) (e : Nat) (w W : World) : Prop := ∀ base ok v xs, d.R e w base ok v xs → d.R e W base ok v xs
section
variable {α : Type} {d : Kd α} {e base n c : Nat} {ok : Nat → Prop} {w W w1 w2 : World} {v : Value} {xs : List α} {A : Option Addr}
theorem Off.refl : Off d e w w := fun _ _ _ _ h => h
theorem Off.alloc (h : Off d e w W) (o : Obj) : Off d e w (W.alloc o) := fun _ _ _ _ q => Kd.R_alloc (h _ _ _ _ q) o
theorem Off.drewN (h : Off d e w W) (k : Nat) : Off d e w (W.drewN k) := fun _ _ _ _ q => Kd.R_drewN (h _ _ _ _ q) k
theorem Off.drew (h : Off d e w W) : Off d e w W.drew := fun _ _ _ _ q => Kd.R_drew (h _ _ _ _ q)
theorem Off.set {g i t : Nat} {u : Value} {cs : Array Value} (h : Off d e w W) (hb : Aside0 (w.heap[g]? = some (.cells cs t (0, 0)))) (ht : ∀ q, q ∈ e :: d.E → q ≠ t) : Off d e w (W.setCell ⟨g, i, none⟩ u) :=
  fun _ _ _ _ q => Kd.R_mono (Kd.R_far (p := ⟨g, i, none⟩) (h _ _ _ _ (Kd.R_types q hb.out ht)) (fun _ hk => hk.2) u) (fun _ hk => hk.1)
theorem rw_ (h : Aside0 (d.R e w base ok v xs)) (q : Off d e w W := by ((with_reducible repeat (first | exact Off.refl | apply Off.alloc | apply Off.drewN | apply Off.drew | apply Off.set)); all_goals (first | with_reducible assumption | decide))) : d.R e W base ok v xs := q _ _ _ _ h.out
theorem cr_ (h : Aside0 (d.R e w base ok (.slice A xs.length c) xs)) (hw : Below w.heap.size w w1 := by with_reducible repeat (first | exact Below.refl _ _ | apply below_alloc | apply pw_below_drewN | apply below_drew1)) : d.C w1 A xs.length xs := Kd.C_below (Kd.R_reads' h.out).2.2 hw
end
theorem bf_ {w : World} {g g' i t : Nat} {u : Value} {cs : Array Value} (h : w.heap[g]? = some (.cells cs t (0, 0))) (hn : Aside0 (g ≠ g')) : (w.setCell ⟨g', i, none⟩ u).heap[g]? = some (.cells cs t (0, 0)) := blk_far (p := ⟨g', i, none⟩) h hn.out u
theorem bs_ {w : World} {g : Nat} {o : Obj} (h : w.heap[g]? = some o := by ((with_reducible repeat (first | apply blk_drewN | apply blk_drew | apply blk_alloc | apply blk_put | apply bf_)); exact Aside0.out (by with_reducible assumption); all_goals (first | with_reducible assumption | (simp only [List.setIfInBounds_toArray, List.set_cons_zero, List.set_cons_succ]; rfl) | rfl))) : w.heap[g]? = some o := h
section
variable {P : Program} {ops : Array Oper} {Q : Exit → Act → World → Prop} {md : Region.Mode} {S : World → Prop} {ds : List Nat} {fuel : Nat} {l l' : Array Bool} {a a' : Act} {w : World} {oi : Oper} {v : Value}
theorem pu_ (i N : Nat) (h : wpAnyLast P md ops Q S ds fuel l' a' w) (hi : ops[i]? = some oi := by rfl) (hN : oi.dst = some N := by rfl) (hl : l.setIfInBounds i true = l' := by (simp only [List.setIfInBounds_toArray, List.set_cons_zero, List.set_cons_succ]; rfl))
    (hc : anyB md ops l l' i = true := by first | exact any_of HT_.out (by kernel_rfl) | kernel_rfl) (hQ : ∀ c a w, Q (.panic c) (a.put oi.dst v) w → Q (.panic c) a w := by exact fun _ _ _ h => h)
    (hy : Yields P ops oi v a := by exact Or.inl ⟨by rfl, by (intro w'; go_simp; with_reducible rfl)⟩)
    (ha : a.put (some N) v = a' := by (simp only [Act.put, List.setIfInBounds_toArray, List.set_cons_zero, List.set_cons_succ, i64_w, i32_w]; rfl)) : wpAnyLast P md ops Q S ds (fuel + 1) l a w := pure_ l' hi hN hc hQ hy ha h
theorem un_ (i N : Nat) (h : wpAnyLast P md ops Q S ds fuel l' a' w) (hi : ops[i]? = some oi := by rfl) (hN : oi.dst = some N := by rfl) (hl : l.setIfInBounds i true = l' := by (simp only [List.setIfInBounds_toArray, List.set_cons_zero, List.set_cons_succ]; rfl))
    (hc : anyB md ops l l' i = true := by first | exact any_of HT_.out (by kernel_rfl) | kernel_rfl) (hQ : ∀ c a w, Q (.panic c) (a.put oi.dst undef) w → Q (.panic c) a w := by exact fun _ _ _ h => h)
    (hy : Yields P ops oi undef a := by exact Or.inr ⟨by rfl, rfl⟩)
    (ha : a.put (some N) undef = a' := by (simp only [Act.put, List.setIfInBounds_toArray, List.set_cons_zero, List.set_cons_succ, i64_w, i32_w]; rfl)) : wpAnyLast P md ops Q S ds (fuel + 1) l a w := pure_ l' hi hN hc hQ hy ha h
theorem on_ (i N : Nat) (h : ∀ K : Act → World → Prop, Shut (∀ a' w', S w' → (S w' → wpAnyLast P md ops Q S ds fuel l' a' w') → K a' w') → if Region.wanted oi (yielded ops a.tmps) = true then Oper.wp P oi a w K Q else K (a.put (some N) undef) w)
    (hi : ops[i]? = some oi := by rfl) (hN : oi.dst = some N := by rfl) (hl : l.setIfInBounds i true = l' := by (simp only [List.setIfInBounds_toArray, List.set_cons_zero, List.set_cons_succ]; rfl))
    (hc : readyB md ops l l' i = true := by first | exact one_of HT_.out (by kernel_rfl) | kernel_rfl) (hd : i ∉ ds := by decide) : wpAnyLast P md ops Q S ds (fuel + 1) l a w := one_ l' hi hN hc hd h
theorem nm_ (N : Nat) (h : wpAnyLast P md ops Q S ds fuel l a' w) {a0 : Act} (e : a = Act.put a0 (some N) v := by rfl) (ha : Act.put a0 (some N) v = a' := by (simp only [Act.put, List.setIfInBounds_toArray, List.set_cons_zero, List.set_cons_succ, i64_w, i32_w]; rfl)) : wpAnyLast P md ops Q S ds fuel l a w := norm_ (e.trans ha) h
theorem tk3_ (i N : Nat) (h : wpAnyLast P md ops Q S ds fuel l' a' w) (hi : ops[i]? = some oi := by rfl) (hN : oi.dst = some N := by rfl) (hl : l.setIfInBounds i true = l' := by (simp only [List.setIfInBounds_toArray, List.set_cons_zero, List.set_cons_succ]; rfl))
    (hc : takeB md ops ds l l' i = true := by first | exact take_ofW HT_.out HW_.out (by kernel_rfl) | kernel_rfl) (hQ : ∀ c a w, Q (.panic c) (a.put oi.dst v) w → Q (.panic c) a w := by exact fun _ _ _ h => h)
    (hy : YieldsIf P ops S oi v a := by exact Or.inl ⟨by rfl, by (rintro w' ⟨s0, s1, s2⟩; go_simp; with_reducible rfl)⟩) (hS : S w := by exact hHeld)
    (ha : a.put (some N) v = a' := by (simp only [Act.put, List.setIfInBounds_toArray, List.set_cons_zero, List.set_cons_succ, i64_w, i32_w]; rfl)) : wpAnyLast P md ops Q S ds (fuel + 1) l a w := take_ l' hi hN hc hQ hy hS ha h
theorem tk4_ (i N : Nat) (h : wpAnyLast P md ops Q S ds fuel l' a' w) (hi : ops[i]? = some oi := by rfl) (hN : oi.dst = some N := by rfl) (hl : l.setIfInBounds i true = l' := by (simp only [List.setIfInBounds_toArray, List.set_cons_zero, List.set_cons_succ]; rfl))
    (hc : takeB md ops ds l l' i = true := by first | exact take_ofW HT_.out HW_.out (by kernel_rfl) | kernel_rfl) (hQ : ∀ c a w, Q (.panic c) (a.put oi.dst v) w → Q (.panic c) a w := by exact fun _ _ _ h => h)
    (hy : YieldsIf P ops S oi v a := by exact Or.inl ⟨by rfl, by (rintro w' ⟨s0, s1, s2, s3⟩; go_simp; with_reducible rfl)⟩) (hS : S w := by exact hHeld)
    (ha : a.put (some N) v = a' := by (simp only [Act.put, List.setIfInBounds_toArray, List.set_cons_zero, List.set_cons_succ, i64_w, i32_w]; rfl)) : wpAnyLast P md ops Q S ds (fuel + 1) l a w := take_ l' hi hN hc hQ hy hS ha h
theorem tk5_ (i N : Nat) (h : wpAnyLast P md ops Q S ds fuel l' a' w) (hi : ops[i]? = some oi := by rfl) (hN : oi.dst = some N := by rfl) (hl : l.setIfInBounds i true = l' := by (simp only [List.setIfInBounds_toArray, List.set_cons_zero, List.set_cons_succ]; rfl))
    (hc : takeB md ops ds l l' i = true := by first | exact take_ofW HT_.out HW_.out (by kernel_rfl) | kernel_rfl) (hQ : ∀ c a w, Q (.panic c) (a.put oi.dst v) w → Q (.panic c) a w := by exact fun _ _ _ h => h)
    (hy : YieldsIf P ops S oi v a := by exact Or.inl ⟨by rfl, by (rintro w' ⟨s0, s1, s2, s3, s4⟩; go_simp; with_reducible rfl)⟩) (hS : S w := by exact hHeld)
    (ha : a.put (some N) v = a' := by (simp only [Act.put, List.setIfInBounds_toArray, List.set_cons_zero, List.set_cons_succ, i64_w, i32_w]; rfl)) : wpAnyLast P md ops Q S ds (fuel + 1) l a w := take_ l' hi hN hc hQ hy hS ha h
theorem tk6_ (i N : Nat) (h : wpAnyLast P md ops Q S ds fuel l' a' w) (hi : ops[i]? = some oi := by rfl) (hN : oi.dst = some N := by rfl) (hl : l.setIfInBounds i true = l' := by (simp only [List.setIfInBounds_toArray, List.set_cons_zero, List.set_cons_succ]; rfl))
    (hc : takeB md ops ds l l' i = true := by first | exact take_ofW HT_.out HW_.out (by kernel_rfl) | kernel_rfl) (hQ : ∀ c a w, Q (.panic c) (a.put oi.dst v) w → Q (.panic c) a w := by exact fun _ _ _ h => h)
    (hy : YieldsIf P ops S oi v a := by exact Or.inl ⟨by rfl, by (rintro w' ⟨s0, s1, s2, s3, s4, s5⟩; go_simp; with_reducible rfl)⟩) (hS : S w := by exact hHeld)
    (ha : a.put (some N) v = a' := by (simp only [Act.put, List.setIfInBounds_toArray, List.set_cons_zero, List.set_cons_succ, i64_w, i32_w]; rfl)) : wpAnyLast P md ops Q S ds (fuel + 1) l a w := take_ l' hi hN hc hQ hy hS ha h
theorem tk7_ (i N : Nat) (h : wpAnyLast P md ops Q S ds fuel l' a' w) (hi : ops[i]? = some oi := by rfl) (hN : oi.dst = some N := by rfl) (hl : l.setIfInBounds i true = l' := by (simp only [List.setIfInBounds_toArray, List.set_cons_zero, List.set_cons_succ]; rfl))
    (hc : takeB md ops ds l l' i = true := by first | exact take_ofW HT_.out HW_.out (by kernel_rfl) | kernel_rfl) (hQ : ∀ c a w, Q (.panic c) (a.put oi.dst v) w → Q (.panic c) a w := by exact fun _ _ _ h => h)
    (hy : YieldsIf P ops S oi v a := by exact Or.inl ⟨by rfl, by (rintro w' ⟨s0, s1, s2, s3, s4, s5, s6⟩; go_simp; with_reducible rfl)⟩) (hS : S w := by exact hHeld)
    (ha : a.put (some N) v = a' := by (simp only [Act.put, List.setIfInBounds_toArray, List.set_cons_zero, List.set_cons_succ, i64_w, i32_w]; rfl)) : wpAnyLast P md ops Q S ds (fuel + 1) l a w := take_ l' hi hN hc hQ hy hS ha h
end
theorem cell0_ {w : World} {g i : Nat} {t : TypeId} {cs : Array Value} {v : Value} (h : Aside0 (w.heap[g]? = some (.cells cs t (0, 0)))) (e : cs[i]? = some v) : w.cell? ⟨g, i, none⟩ = some v := (blk_cell h.out i).trans e
theorem hc_ {p : Prop} (h : p := by (try dsimp only); repeat (first | (exact cell0_ (by first | (with_reducible assumption) | (refine ak_ ?_; (with_reducible repeat (first | refine blk_drewN ?_ _ | refine blk_drew ?_ | refine blk_alloc ?_ _)); exact Aside0.out (by with_reducible assumption))) (by rfl)) | (refine And.intro ?_ ?_; focus (exact cell0_ (by first | (with_reducible assumption) | (refine ak_ ?_; (with_reducible repeat (first | refine blk_drewN ?_ _ | refine blk_drew ?_ | refine blk_alloc ?_ _)); exact Aside0.out (by with_reducible assumption))) (by rfl))))) : p := h
section
variable {P : Program} {ops : Array Oper} {rest : List Oper} {oi o : Oper} {a : Act} {Q : Exit → Act → World → Prop} {w W : World}
theorem gl_ (N : Option Tmp) {f : FuncId} {fn : Func} (hf : P.funcs[f]? = some fn) {ars : Array Operand} {ts : Array TypeId} (args : Array Value) (h : Calls P f args w fun e w' => ∃ v, e = .returned v ∧ wpList P ops Q rest (a.put N v) w')
    (hd : oi.dst = N := by exact rfl) (hg : oi.guard = none := by exact rfl) (hname : (fn.name == "runtime.NumGoroutine") = false := by kernel_rfl) (hb : fn.body.isSome = true := by exact rfl)
    (hop : oi.op = .call { callee := .value (.func f), args := ars, argTypes := ts } := by exact rfl) (hargs : ars.map a.eval = args := by ((try simp only [List.map_toArray, List.map_cons, List.map_nil]); first | done | rfl | (simp only [List.length_drop, List.length_take]; rfl))) : wpList P ops Q (oi :: rest) a w := goesL_ N hd hg hf hname hb args hop hargs h
theorem bx_ {N : Tmp} {cs : Array Value} {t : TypeId} (h : ∀ g, g = W.heap.size → ∀ w1, w1.heap[g]? = some (.cells cs t (0, 0)) → Below W.heap.size W w1 → wpList P ops Q rest (a.put o.dst (.pointer (some ⟨g, 0, none⟩))) w1)
    (hg : o.guard = none := by rfl) (hd : o.dst = some N := by rfl)
    (hrun : (execOp a.eval o).run P W = .ok (.value (.pointer (some ⟨W.heap.size, 0, none⟩))) (W.alloc (.cells cs t (0, 0))) := by first | (go_simp; done) | (go_simp; rfl)) : wpList P ops Q (o :: rest) a W := box_event hg hd hrun h
end
theorem cl2_ {w : World} {g : Nat} {t : TypeId} {x0 x1 : Value} (h : Aside0 (w.heap[g]? = some (.cells #[x0, x1] t (0, 0)))) : w.cell? ⟨g, 0, none⟩ = some x0 ∧ w.cell? ⟨g, 1, none⟩ = some x1 := ⟨(blk_cell h.out 0).trans rfl, (blk_cell h.out 1).trans rfl⟩
theorem fz2_ {w : World} {g : Nat} {t : TypeId} {cs : Array Value} (h : Aside0 (w.heap[g]? = some (.cells cs t (0, 0)))) : w.frozen? ⟨g, 0, none⟩ = false ∧ w.frozen? ⟨g, 1, none⟩ = false := ⟨blk_frozen h.out 0, blk_frozen h.out 1⟩
theorem cl3_ {w : World} {g : Nat} {t : TypeId} {x0 x1 x2 : Value} (h : Aside0 (w.heap[g]? = some (.cells #[x0, x1, x2] t (0, 0)))) : w.cell? ⟨g, 0, none⟩ = some x0 ∧ w.cell? ⟨g, 1, none⟩ = some x1 ∧ w.cell? ⟨g, 2, none⟩ = some x2 := ⟨(blk_cell h.out 0).trans rfl, (blk_cell h.out 1).trans rfl, (blk_cell h.out 2).trans rfl⟩
theorem fz3_ {w : World} {g : Nat} {t : TypeId} {cs : Array Value} (h : Aside0 (w.heap[g]? = some (.cells cs t (0, 0)))) : w.frozen? ⟨g, 0, none⟩ = false ∧ w.frozen? ⟨g, 1, none⟩ = false ∧ w.frozen? ⟨g, 2, none⟩ = false := ⟨blk_frozen h.out 0, blk_frozen h.out 1, blk_frozen h.out 2⟩
theorem cl4_ {w : World} {g : Nat} {t : TypeId} {x0 x1 x2 x3 : Value} (h : Aside0 (w.heap[g]? = some (.cells #[x0, x1, x2, x3] t (0, 0)))) : w.cell? ⟨g, 0, none⟩ = some x0 ∧ w.cell? ⟨g, 1, none⟩ = some x1 ∧ w.cell? ⟨g, 2, none⟩ = some x2 ∧ w.cell? ⟨g, 3, none⟩ = some x3 := ⟨(blk_cell h.out 0).trans rfl, (blk_cell h.out 1).trans rfl, (blk_cell h.out 2).trans rfl, (blk_cell h.out 3).trans rfl⟩
theorem fz4_ {w : World} {g : Nat} {t : TypeId} {cs : Array Value} (h : Aside0 (w.heap[g]? = some (.cells cs t (0, 0)))) : w.frozen? ⟨g, 0, none⟩ = false ∧ w.frozen? ⟨g, 1, none⟩ = false ∧ w.frozen? ⟨g, 2, none⟩ = false ∧ w.frozen? ⟨g, 3, none⟩ = false := ⟨blk_frozen h.out 0, blk_frozen h.out 1, blk_frozen h.out 2, blk_frozen h.out 3⟩
theorem cl5_ {w : World} {g : Nat} {t : TypeId} {x0 x1 x2 x3 x4 : Value} (h : Aside0 (w.heap[g]? = some (.cells #[x0, x1, x2, x3, x4] t (0, 0)))) : w.cell? ⟨g, 0, none⟩ = some x0 ∧ w.cell? ⟨g, 1, none⟩ = some x1 ∧ w.cell? ⟨g, 2, none⟩ = some x2 ∧ w.cell? ⟨g, 3, none⟩ = some x3 ∧ w.cell? ⟨g, 4, none⟩ = some x4 := ⟨(blk_cell h.out 0).trans rfl, (blk_cell h.out 1).trans rfl, (blk_cell h.out 2).trans rfl, (blk_cell h.out 3).trans rfl, (blk_cell h.out 4).trans rfl⟩
theorem fz5_ {w : World} {g : Nat} {t : TypeId} {cs : Array Value} (h : Aside0 (w.heap[g]? = some (.cells cs t (0, 0)))) : w.frozen? ⟨g, 0, none⟩ = false ∧ w.frozen? ⟨g, 1, none⟩ = false ∧ w.frozen? ⟨g, 2, none⟩ = false ∧ w.frozen? ⟨g, 3, none⟩ = false ∧ w.frozen? ⟨g, 4, none⟩ = false := ⟨blk_frozen h.out 0, blk_frozen h.out 1, blk_frozen h.out 2, blk_frozen h.out 3, blk_frozen h.out 4⟩
end Go.Proofs.YtfkofbabeghgkaaGreat.Z
end

section
namespace Go.Proofs.YtfkofbabeghgkaaGreat.Z
theorem wp_scope_post {P : Program} {fn : Func} {R : Ending → World → Prop} {c : Code} {a : Act} {w : World} (h : c.wp P (bodyPost P fn R) a w) : (Code.scope c).wp P (bodyPost P fn R) a w := by
  refine wp_scope_straight ?_
  intro b k cs
  obtain ⟨e, a', w', hq, harr⟩ := h b k cs
  refine ⟨e, a', w', ?_, harr⟩
  cases e <;> first | exact hq | exact hq.elim
theorem gate_dyn {P : Program} {ops : Array Oper} {rest : List Oper} {o : Oper} {a : Act} {Q : Exit → Act → World → Prop} {W : World} {t : Tmp} {xs : Array Operand} {ts : Array TypeId}
    (_ho : o.op = .call { callee := .value (.tmp t), args := xs, argTypes := ts }) (h : wpList P ops Q (o :: rest) a W) : wpList P ops Q (o :: rest) a W := h
theorem goesD_ {P : Program} {ops : Array Oper} {Q : Exit → Act → World → Prop} {rest : List Oper} {oi : Oper} {a : Act} {w : World} (N : Option Tmp) (hd : oi.dst = N) (hg : oi.guard = none) {f : FuncId} {fn : Func} {x : Operand} {xs : Array Operand} {ts : Array TypeId} (hf : P.funcs[f]? = some fn) (hname : (fn.name == "runtime.NumGoroutine") = false) (hb : fn.body.isSome = true) (args : Array Value)
    (hop : oi.op = .call { callee := .value x, args := xs, argTypes := ts }) (hx : a.eval x = .func (.func f) #[] #[]) (hargs : xs.map a.eval = args)
    (h : Calls P f args w fun e w' => ∃ v, e = .returned v ∧ wpList P ops Q rest (a.put N v) w') : wpList P ops Q (oi :: rest) a w := by
  refine wpList_plain hg fun K hK => ?_
  have he := enters_ hf hname hb args w
  have hrun : (execOp a.eval oi).run P w = .ok (.enter f args) w := by
    unfold execOp
    simp [hop, resolve, Deferred.ofValue, invoke, hx, hargs, he]
  unfold Oper.wp
  rw [hrun, Oper.upon_enter]
  refine h.mono fun e w'' hh => ?_
  obtain ⟨v, rfl, hk⟩ := hh
  subst hd
  exact hK _ _ hk
theorem addr_plain {w : World} {ad : Addr} {i : Nat} {v : Value} (h : w.cell? (ad.add i) = some v) (h0 : i = 0) : ad = ⟨ad.block, ad.off, none⟩ ∧ ad.block < w.heap.size := by
  subst h0
  rw [show ad.add 0 = ad from rfl] at h
  obtain ⟨b, o, s⟩ := ad
  cases s with
  | none => exact ⟨rfl, World.block_lt_of_cell? w _ h⟩
  | some s => simp only [World.cell?] at h; split at h <;> simp at h
end Go.Proofs.YtfkofbabeghgkaaGreat.Z
end

section
namespace Go.Proofs.YtfkofbabeghgkaaGreat.Z
theorem run_copy_k {P : Program} (w : World) (dT sT ty elem : TypeId) (b o dLen dCap : Nat) (a : Addr) (sLen sCap k : Nat) (cs : List Value)
    (hu : P.underlying dT = some (.slice elem)) (hs : (P.info? elem).map (·.size) = some k) (hn : cs.length = Nat.min sLen dLen * k)
    (hsrc : ∀ j v, cs[j]? = some v → w.cell? (a.add j) = some v) (hc : ∀ j, j < cs.length → (w.cell? ⟨b, o + j, none⟩).isSome = true) (hf : ∀ j, j < cs.length → w.frozen? ⟨b, o + j, none⟩ = false) (h1 : ∀ v ∈ cs, v.oneCell' = true) :
    (Builtin.copy_ #[dT, sT] ty #[.slice (some ⟨b, o, none⟩) dLen dCap, .slice (some a) sLen sCap]).run P w = .ok (goInt (Nat.min sLen dLen)) (w.setCells b o cs) := by
  have hl := run_loadCells_list (P := P) w a cs hsrc
  have hst := run_storeCells_cells (P := P) b o cs 0 w (by simpa using hc) (by simpa using hf) h1
  cases hq : P.info? elem with
  | none => simp [hq] at hs
  | some i =>
    have hi : i.size = k := by simpa [hq] using hs
    simp [Builtin.copy_, run_underlying hu, Builtin.lenOf, Builtin.firstCells, sizeOf, typeInfo, hq, hi, ← hn, hl, hst]
theorem run_clear_k {P : Program} (w : World) (t e ty : TypeId) (z : Value) (ht : P.underlying t = some (.slice e)) (hv : ∀ w, (zeroValue e).run P w = .ok z w) (h1 : ∀ u ∈ z.cells.toList, u.oneCell' = true) (b o n c : Nat) (hn : 0 < n)
    (hc : ∀ j, j < n * z.cells.size → (w.cell? ⟨b, o + j, none⟩).isSome = true) (hf : ∀ j, j < n * z.cells.size → w.frozen? ⟨b, o + j, none⟩ = false) :
    (Builtin.clear_ #[t] ty #[.slice (some ⟨b, o, none⟩) n c]).run P w = .ok (.tuple #[]) (w.setCells b o (Builtin.zeroCells z.cells n).toList) := by
  have hlen : (Builtin.zeroCells z.cells n).toList.length = n * z.cells.size := by rw [Array.length_toList, size_zeroCells]
  have hst := run_storeCells_cells (P := P) b o (Builtin.zeroCells z.cells n).toList 0 w (by rw [hlen]; simpa using hc) (by rw [hlen]; simpa using hf) (by
    intro u hu
    simp only [Builtin.zeroCells, Array.toList_map, List.mem_map] at hu
    obtain ⟨i, hi, rfl⟩ := hu
    have hi2 : i < n * z.cells.size := by simpa using hi
    have hz : 0 < z.cells.size := by rcases Nat.eq_zero_or_pos z.cells.size with h | h; · rw [h] at hi2; omega
                                     · exact h
    have hlt := Nat.mod_lt i hz
    rw [getElem!_pos z.cells _ hlt]
    exact h1 _ (by simp))
  simp only [Nat.add_zero] at hst
  obtain ⟨m, rfl⟩ : ∃ m, n = m + 1 := ⟨n - 1, by omega⟩
  simp [Builtin.clear_, run_underlying ht, hv, hst]
theorem step_copy_run_ {P : Program} {ops : Array Oper} {o : Oper} {a : Act} {w : World} {K : Act → World → Prop} {Q : Exit → Act → World → Prop} {E : Prop}
    (hg : o.guard = none) (d x : Operand) (dT sT : TypeId) (hop : o.op = Op.call { callee := Callee.builtin Builtin.copy, args := #[d, x], argTypes := #[dT, sT] })
    (v u : Value) (hd : a.eval d = v) (hx : a.eval x = u) {v' : Value} {w' : World} (hr : (Builtin.copy_ #[dT, sT] o.type #[v, u]).run P w = .ok v' w') (hK : K (a.put o.dst v') w') :
    if Region.wanted o (yielded ops a.tmps) = true then Oper.wp P o a w K Q else E := by
  have hw : Region.wanted o (yielded ops a.tmps) = true := by simp [Region.wanted, hg]
  rw [if_pos hw]
  unfold Oper.wp
  simp [execOp, hop, resolve, invoke, builtin, hd, hx, hr, Result.andThen]
  exact hK
theorem flat_M {α : Type} {d : Kd α} (hE : d.E = []) {w w' : World} {base : Nat} {ok ok' : Nat → Prop} {x : α} {cs : List Value} (h : d.M w base ok x cs) : d.M w' base ok' x cs := by
  have h1 := d.M_bound h
  have h2 : d.M w base (fun _ => False) x cs := d.M_mono (fun k hk => by obtain ⟨_, _, _, q, hq, _⟩ := hk; rw [hE] at hq; cases hq) h1
  exact d.M_mono (fun _ hk => hk.elim) (d.M_move (fun _ hk => hk.elim) h2)
theorem flat_one {α : Type} {d : Kd α} {w : World} {base : Nat} {ok : Nat → Prop} {xs : List α} {cs : List Value} (h : Reps (d.M w base ok) d.sz xs cs) (hs : 0 < d.sz) : ∀ u ∈ cs, u.oneCell' = true := by
  intro u hu
  obtain ⟨i, hi, rfl⟩ := List.getElem_of_mem hu
  have hl := h.1
  have hj : i / d.sz < xs.length := by rw [Nat.div_lt_iff_lt_mul hs]; omega
  have h2 := h.2 _ _ (List.getElem?_eq_getElem hj)
  refine d.K_one (d.K_of_M h2) _ ?_
  have hm := Nat.mod_lt i hs
  have hd := Nat.div_add_mod i d.sz
  have hmul : i / d.sz * d.sz = d.sz * (i / d.sz) := Nat.mul_comm _ _
  refine List.mem_iff_getElem?.2 ⟨i % d.sz, ?_⟩
  rw [List.getElem?_take, if_pos hm, List.getElem?_drop, show i / d.sz * d.sz + i % d.sz = i by omega, List.getElem?_eq_getElem hi]
theorem R_row {α : Type} {d : Kd α} {e base : Nat} {ok : Nat → Prop} {w : World} {v : Value} {xs : List α} (hE : d.E = []) (h : d.R e w base ok v xs) (hn : 0 < xs.length) :
    ∃ g cap cur inner, v = .slice (some ⟨g, 0, none⟩) xs.length cap ∧ base ≤ g ∧ ok g ∧ w.heap[g]? = some (.cells cur e (0, 0)) ∧ xs.length ≤ cap ∧ cap ≤ maxLen ∧ cur.size = cap * d.sz ∧ inner.length = xs.length * d.sz ∧
      cur.toList.take (xs.length * d.sz) = inner ∧ ∀ w' ok', Reps (d.M w' base ok') d.sz xs inner := by
  obtain ⟨h0, inner, ho, hr⟩ := h
  obtain ⟨h1, h2⟩ := ho
  rcases h2 with ⟨_, h2⟩ | ⟨g, cap, cur, rfl, hb, hg, hnc, hc, hsz, ht⟩
  · omega
  · exact ⟨g, cap, cur, inner, rfl, hb, h0 g rfl, hg, hnc, hc, hsz, h1, ht, fun w' ok' => hr.imp_ (fun _ _ hm => flat_M hE hm)⟩
theorem R_of_row {α : Type} {d : Kd α} {e base : Nat} {ok : Nat → Prop} {w : World} {xs : List α} {g cap : Nat} {cur : Array Value} {inner : List Value} (hb : base ≤ g) (hok : ok g) (hg : w.heap[g]? = some (.cells cur e (0, 0)))
    (hnc : xs.length ≤ cap) (hc : cap ≤ maxLen) (hsz : cur.size = cap * d.sz) (hl : inner.length = xs.length * d.sz) (ht : cur.toList.take (xs.length * d.sz) = inner) (hr : ∀ ok', Reps (d.M w base ok') d.sz xs inner) :
    d.R e w base ok (.slice (some ⟨g, 0, none⟩) xs.length cap) xs :=
  ⟨fun k hk => by have : g = k := by simpa [Value.ownBlock] using hk
                  subst this; exact hok, inner, ⟨hl, .inr ⟨g, cap, cur, rfl, hb, hg, hnc, hc, hsz, ht⟩⟩, hr _⟩
theorem row_cell {w : World} {g e : Nat} {cur : Array Value} (hg : w.heap[g]? = some (.cells cur e (0, 0))) (j : Nat) : w.cell? ⟨g, j, none⟩ = cur.toList[j]? := by
  rw [blk_cell hg j]; simp
theorem row_some {w : World} {g e : Nat} {cur : Array Value} (hg : w.heap[g]? = some (.cells cur e (0, 0))) (j : Nat) (h : j < cur.size) : (w.cell? ⟨g, j, none⟩).isSome = true := by
  rw [row_cell hg j, List.getElem?_eq_getElem (by simpa using h)]; rfl
theorem below_setCells {w0 w : World} {B g : Nat} (h : Below B w0 w) (hg : B ≤ g) (o : Nat) (vs : List Value) : Below B w0 (w.setCells g o vs) := by
  obtain ⟨h1, h2, h3, h4⟩ := setCells_same g vs o w
  exact ⟨h1.trans h.os, h2.trans h.tape, h3.trans h.output, by rw [h4]; exact h.size, fun k hk => (setCells_far vs o k (by omega)).trans (h.block k hk)⟩
theorem kept_setCells {w W : World} {S : Nat → Prop} {g : Nat} (h : Kept w W S) (hg : S g ∨ w.heap.size ≤ g) (o : Nat) (vs : List Value) : Kept w (W.setCells g o vs) S := by
  obtain ⟨_, _, _, h4⟩ := setCells_same g vs o W
  refine ⟨by rw [h4]; exact h.1, fun i hi hn => ?_⟩
  rw [setCells_far vs o i (by rintro rfl; rcases hg with hg | hg; · exact hn hg
                              · omega)]
  exact h.2 i hi hn
theorem C_cells {α : Type} {d : Kd α} {w : World} {A : Option Addr} {n : Nat} {l : List α} (h : d.C w A n l) (hn : 0 < n) :
    ∃ ad inner, A = some ad ∧ Reps (d.K w) d.sz l inner ∧ ∀ j u, inner[j]? = some u → w.cell? (ad.add j) = some u := by
  obtain ⟨hl, _, hc0⟩ := h
  obtain ⟨ad, rfl, hc⟩ := hc0 hn
  have pre : ∀ m, m ≤ l.length → ∃ inner, Reps (d.K w) d.sz (l.take m) inner ∧ ∀ j u, inner[j]? = some u → w.cell? (ad.add j) = some u := by
    intro m
    induction m with
    | zero => exact fun _ => ⟨[], by simpa using Reps.none _ _, fun j u hu => by simp at hu⟩
    | succ m ih =>
      intro hm
      obtain ⟨inner, h1, h2⟩ := ih (by omega)
      obtain ⟨c, hs, hK, hcell⟩ := hc m _ (List.getElem?_eq_getElem (by omega))
      refine ⟨inner ++ c, ?_, fun j u hu => ?_⟩
      · rw [List.take_succ_eq_append_getElem (by omega)]
        exact h1.snoc hK hs
      · have hil : inner.length = m * d.sz := by rw [h1.1, List.length_take, Nat.min_eq_left (by omega)]
        rcases Nat.lt_or_ge j inner.length with hj | hj
        · rw [List.getElem?_append_left hj] at hu; exact h2 j u hu
        · rw [List.getElem?_append_right hj] at hu
          have := hcell (j - inner.length) u hu
          rw [hil, show m * d.sz + (j - m * d.sz) = j by omega] at this
          exact this
  obtain ⟨inner, h1, h2⟩ := pre l.length (Nat.le_refl _)
  rw [List.take_length] at h1
  exact ⟨ad, inner, rfl, h1, h2⟩
theorem C_apart {α : Type} {d : Kd α} {w : World} {A : Option Addr} {l : List α} {S : Nat → Prop} (h : ∀ W_, Kept w W_ S → d.C W_ A l.length l) (hn : 0 < l.length) (hs : 0 < d.sz) :
    ∃ b o inner, A = some ⟨b, o, none⟩ ∧ b < w.heap.size ∧ ¬ S b ∧ Reps (d.K w) d.sz l inner ∧ ∀ j u, inner[j]? = some u → w.cell? ⟨b, o + j, none⟩ = some u := by
  obtain ⟨ad, inner, rfl, hr, hc⟩ := C_cells (h w (Kept.refl _ _)) hn
  have hil : 0 < inner.length := by rw [hr.1]; exact Nat.mul_pos hn hs
  have h0 := hc 0 _ (List.getElem?_eq_getElem hil)
  obtain ⟨hp, hlt⟩ := addr_plain h0 rfl
  refine ⟨ad.block, ad.off, inner, by rw [← hp], hlt, fun hS => ?_, hr, fun j u hu => by have := hc j u hu; rw [hp, add_at] at this; exact this⟩
  -- a world in which that block is another thing
  have hk : Kept w { w with heap := w.heap.setIfInBounds ad.block (.map #[] 0) } S := by
    refine ⟨by simp, fun i hi hn => ?_⟩
    have : ad.block ≠ i := by rintro rfl; exact hn hS
    simp [Array.getElem?_setIfInBounds, this]
  obtain ⟨ad2, inner2, he, hr2, hc2⟩ := C_cells (h _ hk) hn
  injection he with he
  subst he
  have h2 := hc2 0 _ (List.getElem?_eq_getElem (by rw [hr2.1]; exact Nat.mul_pos hn hs))
  rw [show ad.add 0 = ad from rfl] at h2
  unfold World.cell? at h2
  simp [Array.getElem?_setIfInBounds, hlt] at h2
end Go.Proofs.YtfkofbabeghgkaaGreat.Z
end

section
namespace Go.Proofs.YtfkofbabeghgkaaGreat.Z
def Step (g : Nat) (w w' : World) (o : Obj) : Prop := w'.heap[g]? = some o ∧ KeepBut w w' g none ∧ ∀ B, B ≤ g → Below B w w'
theorem Step.refl {g : Nat} {w : World} {o : Obj} (h : w.heap[g]? = some o) : Step g w w o := ⟨h, KeepBut.refl _ _ _, fun _ _ => Below.refl _ _⟩
theorem Step.trans {g : Nat} {w w1 w2 : World} {o o' : Obj} (h : Step g w w1 o) (k : Step g w1 w2 o') : Step g w w2 o' := ⟨k.1, h.2.1.trans k.2.1 (.inl rfl), fun B hB => (h.2.2 B hB).trans (k.2.2 B hB)⟩
theorem Step.drew {g : Nat} {w w1 : World} {o : Obj} (h : Step g w w1 o) : Step g w w1.drew o := ⟨blk_drew h.1, keep_drew h.2.1, fun B hB => below_drew1 (h.2.2 B hB)⟩
theorem Step.set {g : Nat} {w w1 : World} {t : TypeId} {cs : Array Value} (h : Step g w w1 (.cells cs t (0, 0))) (j : Nat) (u : Value) {cs' : Array Value} (e : cs.setIfInBounds j u = cs') : Step g w (w1.setCell ⟨g, j, none⟩ u) (.cells cs' t (0, 0)) :=
  ⟨e ▸ blk_set h.1 j u, h.2.1.set_ j u, fun B hB => (h.2.2 B hB).setCell (p := ⟨g, j, none⟩) hB u⟩
end Go.Proofs.YtfkofbabeghgkaaGreat.Z
end

section
namespace Go.Proofs.YtfkofbabeghgkaaGreat.Z
theorem mk_sizeB : (Tryz.prog.info? 49).map (·.size) = some 2 := by kernel_rfl
theorem mk_lies : liesAt Tryz.prog Tryz.prog.depth 51 (2 / Tryz.prog.cellsOf 51) 0 49 1 = true := by kernel_rfl
theorem mk_u8 : (Tryz.prog.info? 5).map (fun i => (i.zero, i.size, i.bytes)) = some (some (.int .u8 0), 1, 1) := by kernel_rfl
abbrev Mkk (b : Nat) (w w' : World) : Prop := Lib.OthersKept 5 (some b) w w'
theorem mkk_of {b : Nat} {w w' : World} (h : KeepBut w w' b none) : Mkk b w w' := fun k o hk hb _ => (h.2 k (blk_lt hk) (fun e => hb (by rw [e])) (by simp)).trans hk
def MkR (w : World) (B b : Nat) (l : List UInt8) : Prop :=
  ∃ p v, (p = .pointer none ∨ p = .pointer (some ⟨b, 0, none⟩)) ∧ w.heap[b]? = some (.cells #[p, v] 51 (0, 0)) ∧ w.ownsRowF B 5 1 v l.length (Lib.byteCells l) ∧ v.ownBlock ≠ some b ∧ B ≤ b ∧ (l = [] → v = .slice none 0 0)
theorem ownF_below {w w' : World} {B n : Nat} {e : TypeId} {v : Value} {xs : List Value} (h : w.ownsRowF B e 1 v n xs) (hb : Below w.heap.size w w') : w'.ownsRowF B e 1 v n xs := by
  refine ⟨h.1, ?_⟩
  rcases h.2 with h0 | ⟨g, cap, cur, fz, e1, e2, e3, e4⟩
  · exact .inl h0
  · exact .inr ⟨g, cap, cur, fz, e1, e2, (hb.block g (blk_lt e3)).trans e3, e4⟩
theorem MkR.below {w w' : World} {B b : Nat} {l : List UInt8} (h : MkR w B b l) (hb : Below w.heap.size w w') : MkR w' B b l := by
  obtain ⟨p, v, hp, hk, ho, hn, hB, he⟩ := h
  exact ⟨p, v, hp, (hb.block b (blk_lt hk)).trans hk, ownF_below ho hb, hn, hB, he⟩
theorem MkR.lt {w : World} {B b : Nat} {l : List UInt8} (h : MkR w B b l) : B ≤ b ∧ b < w.heap.size := by
  obtain ⟨p, v, hp, hk, ho, hn, hB, he⟩ := h
  exact ⟨hB, blk_lt hk⟩
theorem MkR.new {w : World} {B b : Nat} (hB : B ≤ b) (h : w.heap[b]? = some (.cells #[.pointer none, .slice none 0 0] 51 (0, 0))) : MkR w B b [] :=
  ⟨_, _, .inl rfl, h, World.ownsRowF_nil _ _ _ _, by simp [Value.ownBlock], hB, fun _ => rfl⟩
theorem mk_bel {A B : Nat} {w w' : World} (h : Below A w w') (hle : B ≤ A) : Below B w w' := ⟨h.os, h.tape, h.output, h.size, fun k hk => h.block k (by omega)⟩
set_option maxRecDepth 100000 in
theorem mk_used (b : Nat) (w : World) (h0 : w.cell? ⟨b, 0, none⟩ = some (.pointer (some ⟨b, 0, none⟩))) :
    Calls Tryz.prog 49 #[.pointer (some ⟨b, 0, none⟩)] w fun e w' => e = .returned (.tuple #[]) ∧ w' = w := by
  obtain ⟨j, hj, _⟩ := Option.map_eq_some_iff.1 mk_sizeB
  have hn := Lib.run_neq_ptr_same (P := Tryz.prog) w ⟨b, 0, none⟩ Tryz.underlying47 hj
  go_enter Tryz.func49, Tryz.ntmps49
  go_wp2
  go_end0
  exact ⟨rfl, rfl⟩
set_option maxRecDepth 100000 in
theorem mk_fresh (b : Nat) (w : World) (h0 : w.cell? ⟨b, 0, none⟩ = some (.pointer none)) (hfz : w.frozen? ⟨b, 0, none⟩ = false) (hsh : w.shape? b = some (51, 2)) :
    Calls Tryz.prog 49 #[.pointer (some ⟨b, 0, none⟩)] w fun e w' => e = .returned (.tuple #[]) ∧ w' = w.setCell ⟨b, 0, none⟩ (.pointer (some ⟨b, 0, none⟩)) := by
  obtain ⟨j, hj, hjs⟩ := Option.map_eq_some_iff.1 mk_sizeB
  have hto := Lib.run_to_unsafe (P := Tryz.prog) w ⟨b, 0, none⟩ Tryz.underlying47 Tryz.underlying154 hj (by rw [hjs]; decide) hsh (Nat.zero_lt_succ 1)
  have hfrom := Lib.run_from_unsafe (P := Tryz.prog) w ⟨b, 0, none⟩ Tryz.underlying154 Tryz.underlying47 hj hsh mk_lies
  have hcall := run_callFunc_extern (P := Tryz.prog) (w := w) (args := #[.pointer (some ⟨b, 0, none⟩)]) Tryz.func81 (by kernel_rfl) (by kernel_rfl) (by kernel_rfl) (e := Extern.AbiNoEscape.same) (by kernel_rfl)
  rw [Lib.run_noEscape] at hcall
  go_enter Tryz.func49, Tryz.ntmps49
  go_wp2
  go_end0
  exact ⟨rfl, rfl⟩
theorem mk_check (B b : Nat) (l : List UInt8) (w : World) (h : MkR w B b l) :
    Calls Tryz.prog 49 #[.pointer (some ⟨b, 0, none⟩)] w fun e w' => e = .returned (.tuple #[]) ∧ (∃ v, w'.heap[b]? = some (.cells #[.pointer (some ⟨b, 0, none⟩), v] 51 (0, 0)) ∧ w'.ownsRowF B 5 1 v l.length (Lib.byteCells l) ∧ v.ownBlock ≠ some b ∧ (l = [] → v = .slice none 0 0)) ∧ Below B w w' ∧ KeepBut w w' b none := by
  obtain ⟨p, v, hp, hk, ho, hn, hB, he⟩ := h
  rcases hp with rfl | rfl
  · refine (mk_fresh b w ((blk_cell hk 0).trans rfl) (blk_frozen hk 0) (by simp [World.shape?, hk])).mono ?_
    rintro e w' ⟨rfl, rfl⟩
    refine ⟨rfl, ⟨v, blk_set hk 0 _, ho.kept (row := some b) ⟨rfl, rfl, rfl, by simp [World.setCell], fun k _ hk => Below.heap_setCell _ _ _ _ (fun e => hk (by simp [e]))⟩ (Or.inr hn), hn, he⟩, (Below.refl B w).setCell (p := ⟨b, 0, none⟩) hB _, (KeepBut.refl _ _ _).set_ 0 _⟩
  · refine (mk_used b w ((blk_cell hk 0).trans rfl)).mono ?_
    rintro e w' ⟨rfl, rfl⟩
    exact ⟨rfl, ⟨v, hk, ho, hn, he⟩, Below.refl B _, KeepBut.refl _ _ _⟩
theorem mk_put {w w1 : World} {B b : Nat} {m : List UInt8} {v v' : Value} (hB : B ≤ b) (hk : w.heap[b]? = some (.cells #[.pointer (some ⟨b, 0, none⟩), v] 51 (0, 0))) (hn : v.ownBlock ≠ some b) (hg : w.grownBy w1 v.ownBlock)
    (ho : w1.ownsRowF B 5 1 v' m.length (Lib.byteCells m)) (he : m = [] → v' = .slice none 0 0) : MkR (w1.setCell ⟨b, 1, none⟩ v') B b m := by
  have hk1 : w1.heap[b]? = some (.cells #[.pointer (some ⟨b, 0, none⟩), v] 51 (0, 0)) := (hg.block b (blk_lt hk) (fun e => hn e.symm)).trans hk
  have hn1 : v'.ownBlock ≠ some b := Lib.ownBlock_neF ho hk1 (by decide)
  exact ⟨_, v', .inr rfl, blk_set hk1 1 v', ho.kept (row := some b) ⟨rfl, rfl, rfl, by simp [World.setCell], fun k _ hk => Below.heap_setCell _ _ _ _ (fun e => hk (by simp [e]))⟩ (Or.inr hn1), hn1, hB, he⟩
theorem mk_one (l : List UInt8) : ∀ v ∈ Lib.byteCells l, v.oneCell' = true := by
  intro v hv
  unfold Lib.byteCells at hv
  obtain ⟨b, _, rfl⟩ := List.mem_map.1 hv
  rfl
theorem mk_lit1 (w : World) (c : Int) : ∀ j u, [Value.int .u8 c][j]? = some u → (w.alloc (.cells #[.int .u8 c] 5)).cell? ((⟨w.heap.size, 0, none⟩ : Addr).add j) = some u := by
  intro j u hj
  match j, hj with
  | 0, hj =>
    simp at hj
    subst hj
    simp [Addr.add]
theorem mk_lit1o (c : Int) : ∀ u ∈ [Value.int .u8 c], u.oneCell' = true := by
  intro u hu
  simp at hu
  subst hu
  rfl
theorem mk_src {w w1 : World} {b : Nat} {ad : Addr} {q : List UInt8} (hC : ∀ j x, q[j]? = some x → w.cell? (ad.add j) = some (.int .u8 (x.toNat : Int))) (hA : ad.block ≠ b ∧ ad.spot = none) (hk : KeepBut w w1 b none) : ∀ j u, (Lib.byteCells q)[j]? = some u → w1.cell? (ad.add j) = some u := by
  intro j u hu
  unfold Lib.byteCells at hu
  rw [List.getElem?_map] at hu
  obtain ⟨x, hx, rfl⟩ := Option.map_eq_some_iff.1 hu
  have h := hC j x hx
  obtain ⟨bl, o, s⟩ := ad
  obtain ⟨h1, h2⟩ := hA
  simp only at h1 h2
  subst h2
  rw [add_at] at h ⊢
  have hlt := World.block_lt_of_cell? w _ h
  have hb := hk.2 bl hlt h1 (by simp)
  simp only [World.cell?, hb] at h ⊢
  exact h
set_option maxRecDepth 100000 in
set_option maxHeartbeats 3200000 in
theorem mk_ws (B b : Nat) (l : List UInt8) (s : ByteArray) (w : World) (h : MkR w B b l) (hlen : l.length + s.size ≤ 140737488355328) :
    Calls Tryz.prog 24 #[.pointer (some ⟨b, 0, none⟩), .string s] w fun e w' => e = .returned (.tuple #[.int .i64 s.size, .nilIface]) ∧ MkR w' B b (l ++ s.data.toList) ∧ Below B w w' ∧ Mkk b w w' := by
  obtain ⟨i0, hi, hz0, hz1, hz2⟩ := info_parts mk_u8
  have HL := ak_ hlen
  have HM := ak_ h
  clear h hlen
  go_enter Tryz.func24, Tryz.ntmps24
  go_wp2_with (first
    | (go_at_call 49; refine (mk_check B b _ _ HM.out).mono ?_; rintro e w1 ⟨rfl, ⟨v, hk, ho, hn, he⟩, hb1, hk1⟩; have B1 := ak_ hb1; have M1 := ak_ (mkk_of hk1); have K1 := ak_ hk; have O1 := ak_ ho; have N1 := ak_ hn; have E1 := ak_ he; have c1 : w1.cell? ⟨b, 1, none⟩ = some v := (blk_cell hk 1).trans rfl; clear hb1 hk1 hk ho hn he)
    | (at_builtin; refine Lib.wpList_append_own_stringF _ rfl _ _ 35 9 rfl B 5 i0 Tryz.underlying35 Tryz.underlying9 hi hz0 hz1 hz2 v l.length (Lib.byteCells l) rfl O1.out s rfl ?c3 ?c4 ?c5 ?_; (case c3 => have := HL.out; unfold maxLen; omega); (case c4 => have := HL.out; omega); (case c5 => have := HM.out.lt; have := B1.out.size; omega); intro v2 w2 ho hg hq; have O2 := ak_ ho; have G2 := ak_ hg; have Q2 := ak_ hq; have K2 := ak_ ((hg.block b (blk_lt K1.out) (fun e => N1.out e.symm)).trans K1.out); have d1 : w2.cell? ⟨b, 1, none⟩ = some v := (blk_cell K2.out 1).trans rfl; have f1 : w2.frozen? ⟨b, 1, none⟩ = false := blk_frozen K2.out 1; obtain ⟨ao, n', cap, rfl⟩ : ∃ ao n' cap, v2 = .slice ao n' cap := (by rcases ho.2 with ⟨hv, _⟩ | ⟨g, cap, cur, fz, hv, _⟩ <;> exact ⟨_, _, _, hv⟩); clear ho hg hq c1))
  go_ret2
  have hs : s.data.toList.length = s.size := by rw [Array.length_toList]; rfl
  refine ⟨rfl, mk_put (w := w1) (HM.out.lt.1) K1.out N1.out G2.out ?_ ?_, ((B1.out.grown G2.out (Nat.le_trans (Nat.le_of_lt (Nat.lt_of_le_of_lt HM.out.lt.1 HM.out.lt.2)) B1.out.size) (fun k hk => (O1.out.lt k hk).1))).setCell (p := ⟨b, 1, none⟩) HM.out.lt.1 _, (M1.out.grown G2.out (fun g hg => Lib.ownsRowF_kind O1.out g hg)).setCell ⟨b, 1, none⟩ rfl _⟩
  · have := O2.out
    rw [Lib.strCells_eq, ← Lib.byteCells_append, ← hs, ← List.length_append] at this
    exact this
  · intro e
    have e2 := List.append_eq_nil_iff.1 e
    exact Q2.out.2 ⟨E1.out e2.1, by rw [← hs, e2.2]; rfl⟩
set_option maxRecDepth 100000 in
set_option maxHeartbeats 3200000 in
theorem mk_string (B b : Nat) (l : List UInt8) (w : World) (h : MkR w B b l) :
    Calls Tryz.prog 30 #[.pointer (some ⟨b, 0, none⟩)] w fun e w' => e = .returned (.string ⟨l.toArray⟩) ∧ MkR w' B b l ∧ Below B w w' ∧ Mkk b w w' := by
  obtain ⟨p, v, hp, hk, ho, hn, hB, he⟩ := h
  by_cases h0 : l = []
  · subst h0
    obtain rfl := he rfl
    have hUS : ∀ W : World, (Builtin.unsafeString_ #[96, 3] 9 #[.pointer none, .int .i64 0]).run Tryz.prog W = .ok (.string .empty) W := fun W => Lib.run_unsafeString_none W _ _ _ none
    have c1 : w.drew.cell? ⟨b, 1, none⟩ = some (.slice none 0 0) := (blk_cell (w := w.drew) hk 1).trans rfl
    have hSD : (Builtin.unsafeSliceData_ #[35] 96 #[.slice none 0 0]).run Tryz.prog w.drew = .ok (.pointer none) w.drew := rfl
    have HM := ak_ (show MkR w.drew B b [] from ⟨p, _, hp, hk, ho, hn, hB, he⟩)
    clear hk ho hn he hp
    go_enter Tryz.func30, Tryz.ntmps30
    go_wp2
    go_region
    all_goals (go_wp2; go_ret; exact ⟨rfl, HM.out, Below.drew (Below.refl B w), (Lib.OthersKept.refl _ _ w).drew⟩)
  · have hl0 : l.length ≠ 0 := by simpa using h0
    obtain ⟨g, cap, cur, fz, rfl, hbg, hg, hfz, hnc, hcm, hcs, htake⟩ : ∃ g cap cur fz, v = .slice (some ⟨g, 0, none⟩) l.length cap ∧ B ≤ g ∧ w.heap[g]? = some (.cells cur 5 fz) ∧ fz.2 ≤ l.length * 1 ∧ l.length ≤ cap ∧ cap ≤ maxLen ∧ cur.size = cap * 1 ∧ cur.toList.take (l.length * 1) = Lib.byteCells l := by
      rcases ho.2 with ⟨_, hz⟩ | ⟨g, cap, cur, fz, hv, r⟩
      · exact absurd hz hl0
      · exact ⟨g, cap, cur, fz, hv, r⟩
    have c1 : w.drew.cell? ⟨b, 1, none⟩ = some (.slice (some ⟨g, 0, none⟩) l.length cap) := (blk_cell (w := w.drew) hk 1).trans rfl
    have hSD : (Builtin.unsafeSliceData_ #[35] 96 #[.slice (some ⟨g, 0, none⟩) l.length cap]).run Tryz.prog w.drew = .ok (.pointer (some ⟨g, 0, none⟩)) w.drew := Lib.run_unsafeSliceData_row _ _ _ _ _ _ (by omega)
    have hUS : (Builtin.unsafeString_ #[96, 3] 9 #[.pointer (some ⟨g, 0, none⟩), .int .i64 l.length]).run Tryz.prog w.drew = .ok (.string ⟨l.toArray⟩) (w.drew.freeze ⟨g, 0, none⟩ l.length) := by
      refine Lib.run_unsafeString_row w.drew 96 3 9 5 Tryz.underlying96 (by kernel_rfl) g cur.size (by have hg' : w.drew.heap[g]? = some (.cells cur 5 fz) := hg; simp [World.shape?, hg']) l h0 (by omega) (by unfold maxLen at hcm; omega) ?_
      intro j x hx
      have := ho.cells (g := g) rfl j (.int .u8 x.toNat) (by simp [Lib.byteCells, hx])
      exact this
    have HM := ak_ (show MkR (w.drew.freeze ⟨g, 0, none⟩ l.length) B b l by
      have hA : Lib.BuilderAtF 51 5 B b p (Lib.byteCells l) w.drew := ⟨hB, _, hk, by rw [Lib.byteCells_length]; exact ho, hn⟩
      have hF := hA.froze (g := g) (cap := cap) (by rw [Lib.byteCells_length]; exact c1)
      rw [Lib.byteCells_length] at hF
      obtain ⟨_, v, f1, f2, f3⟩ := hF
      rw [Lib.byteCells_length] at f2
      exact ⟨p, v, hp, f1, f2, f3, hB, fun e => absurd e h0⟩)
    have HG := ak_ hbg
    have HK := ak_ (show Mkk b w (w.drew.freeze ⟨g, 0, none⟩ l.length) from ((Lib.OthersKept.refl _ _ w).drew).freeze ⟨g, 0, none⟩ _ ⟨_, _, hg⟩)
    clear hk ho hn he hp hbg hg hfz hnc hcm hcs htake h0
    go_enter Tryz.func30, Tryz.ntmps30
    go_wp2
    go_region
    all_goals (go_wp2; go_ret; exact ⟨rfl, HM.out, Lib.below_freeze (Below.drew (Below.refl B w)) (p := ⟨g, 0, none⟩) HG.out _, HK.out⟩)
set_option maxRecDepth 100000 in
set_option maxHeartbeats 3200000 in
theorem mk_wb (B b : Nat) (l : List UInt8) (c : UInt8) (w : World) (h : MkR w B b l) (hlen : l.length + 1 ≤ 140737488355328) :
    Calls Tryz.prog 27 #[.pointer (some ⟨b, 0, none⟩), .int .u8 (c.toNat : Int)] w fun e w' => e = .returned .nilIface ∧ MkR w' B b (l ++ [c]) ∧ Below B w w' ∧ Mkk b w w' := by
  obtain ⟨i0, hi, hz0, hz1, hz2⟩ := info_parts mk_u8
  obtain ⟨ci, hci⟩ : ∃ ci, ci = (c.toNat : Int) := ⟨_, rfl⟩
  rw [← hci]
  have HCI := ak_ hci
  have HL := ak_ hlen
  have HM := ak_ h
  clear h hlen hci
  go_enter Tryz.func27, Tryz.ntmps27
  go_wp2_with (first
    | (go_at_call 49; refine (mk_check B b _ _ HM.out).mono ?_; rintro e w1 ⟨rfl, ⟨v, hk, ho, hn, he⟩, hb1, hk1⟩; have B1 := ak_ hb1; have M1 := ak_ (mkk_of hk1); have K1 := ak_ hk; have O1 := ak_ ho; have N1 := ak_ hn; have E1 := ak_ he; have c1 : w1.cell? ⟨b, 1, none⟩ = some v := (blk_cell hk 1).trans rfl; clear hb1 hk1 hk ho hn he)
    | (at_builtin; refine wpList_append_ownF _ rfl _ _ 35 rfl B 5 i0 (.int .u8 0) 1 1 Tryz.underlying35 hi hz0 hz1 hz2 rfl (by decide) v l.length (Lib.byteCells l) rfl (O1.out.alloc _) ⟨w1.heap.size, 0, none⟩ 1 1 [.int .u8 ci] rfl rfl ?c1 ?c2 ?c3 ?c4 ?c5 ?_; (case c1 => exact mk_lit1 _ _); (case c2 => exact mk_lit1o _); (case c3 => have := HL.out; unfold maxLen; omega); (case c4 => have := HL.out; omega); (case c5 => have := HM.out.lt; have := B1.out.size; simp; omega); intro v2 w2 ho hg hq; have O2 := ak_ ho; have G2 := ak_ hg; have Q2 := ak_ hq; have K0 := ak_ (show (w1.alloc (.cells #[.int .u8 ci] 5)).heap[b]? = some (.cells #[.pointer (some ⟨b, 0, none⟩), v] 51 (0, 0)) from (Lib.alloc_old w1 _ b (blk_lt K1.out)).trans K1.out); have K2 := ak_ ((hg.block b (blk_lt K0.out) (fun e => N1.out e.symm)).trans K0.out); have d1 : w2.cell? ⟨b, 1, none⟩ = some v := (blk_cell K2.out 1).trans rfl; have f1 : w2.frozen? ⟨b, 1, none⟩ = false := blk_frozen K2.out 1; obtain ⟨ao, n', cap, rfl⟩ : ∃ ao n' cap, v2 = .slice ao n' cap := (by rcases ho.2 with ⟨hv, _⟩ | ⟨g, cap, cur, fz, hv, _⟩ <;> exact ⟨_, _, _, hv⟩); clear ho hg hq c1))
  go_ret
  have hBw : B ≤ w1.heap.size := Nat.le_trans (Nat.le_of_lt (Nat.lt_of_le_of_lt HM.out.lt.1 HM.out.lt.2)) B1.out.size
  refine ⟨rfl, mk_put (HM.out.lt.1) K0.out N1.out G2.out ?_ ?_, ((B1.out.alloc hBw _).grown G2.out (Nat.le_trans hBw (by simp)) (fun k hk => (O1.out.lt k hk).1)).setCell (p := ⟨b, 1, none⟩) HM.out.lt.1 _, ((M1.out.alloc _).grown G2.out (fun g hg => Lib.ownsRowF_kind (O1.out.alloc _) g hg)).setCell ⟨b, 1, none⟩ rfl _⟩
  · have := O2.out
    rw [HCI.out] at this
    rw [Lib.byteCells_append, List.length_append]
    exact this
  · intro e
    exact absurd e (by simp)
set_option maxRecDepth 100000 in
set_option maxHeartbeats 3200000 in
theorem mk_w (B b : Nat) (l : List UInt8) (ad : Addr) (q : List UInt8) (n c : Nat) (w : World) (h : MkR w B b l) (hq : q.length = n) (hn : 0 < n) (hC : ∀ j x, q[j]? = some x → w.cell? (ad.add j) = some (.int .u8 (x.toNat : Int))) (hA : ad.block ≠ b ∧ ad.spot = none) (hlen : l.length + n ≤ 140737488355328) :
    Calls Tryz.prog 25 #[.pointer (some ⟨b, 0, none⟩), .slice (some ad) n c] w fun e w' => e = .returned (.tuple #[.int .i64 n, .nilIface]) ∧ MkR w' B b (l ++ q) ∧ Below B w w' ∧ Mkk b w w' := by
  obtain ⟨i0, hi, hz0, hz1, hz2⟩ := info_parts mk_u8
  have HL := ak_ hlen
  have HQ := ak_ (And.intro hq hn)
  have HC := ak_ hC
  have HA := ak_ hA
  have HM := ak_ h
  clear h hlen hq hC hA hn
  go_enter Tryz.func25, Tryz.ntmps25
  go_wp2_with (first
    | (go_at_call 49; refine (mk_check B b _ _ HM.out).mono ?_; rintro e w1 ⟨rfl, ⟨v, hk, ho, hn, he⟩, hb1, hk1⟩; have B1 := ak_ hb1; have M1 := ak_ (mkk_of hk1); have KK := ak_ hk1; have K1 := ak_ hk; have O1 := ak_ ho; have N1 := ak_ hn; have E1 := ak_ he; have c1 : w1.cell? ⟨b, 1, none⟩ = some v := (blk_cell hk 1).trans rfl; clear hb1 hk1 hk ho hn he)
    | (at_builtin; refine wpList_append_ownF _ rfl _ _ 35 rfl B 5 i0 (.int .u8 0) 1 1 Tryz.underlying35 hi hz0 hz1 hz2 rfl (by decide) v l.length (Lib.byteCells l) rfl O1.out ad n c (Lib.byteCells q) rfl ?c0 ?c1 ?c2 ?c3 ?c4 ?c5 ?_; (case c0 => rw [Lib.byteCells_length, HQ.out.1, Nat.mul_one]); (case c1 => exact mk_src HC.out HA.out KK.out); (case c2 => exact mk_one q); (case c3 => have := HL.out; unfold maxLen; omega); (case c4 => have := HL.out; omega); (case c5 => have := HM.out.lt; have := B1.out.size; omega); intro v2 w2 ho hg hq; have O2 := ak_ ho; have G2 := ak_ hg; have Q2 := ak_ hq; have K2 := ak_ ((hg.block b (blk_lt K1.out) (fun e => N1.out e.symm)).trans K1.out); have d1 : w2.cell? ⟨b, 1, none⟩ = some v := (blk_cell K2.out 1).trans rfl; have f1 : w2.frozen? ⟨b, 1, none⟩ = false := blk_frozen K2.out 1; obtain ⟨ao, n', cap, rfl⟩ : ∃ ao n' cap, v2 = .slice ao n' cap := (by rcases ho.2 with ⟨hv, _⟩ | ⟨g, cap, cur, fz, hv, _⟩ <;> exact ⟨_, _, _, hv⟩); clear ho hg hq c1))
  go_ret2
  refine ⟨rfl, mk_put (w := w1) (HM.out.lt.1) K1.out N1.out G2.out ?_ ?_, ((B1.out.grown G2.out (Nat.le_trans (Nat.le_of_lt (Nat.lt_of_le_of_lt HM.out.lt.1 HM.out.lt.2)) B1.out.size) (fun k hk => (O1.out.lt k hk).1))).setCell (p := ⟨b, 1, none⟩) HM.out.lt.1 _, (M1.out.grown G2.out (fun g hg => Lib.ownsRowF_kind O1.out g hg)).setCell ⟨b, 1, none⟩ rfl _⟩
  · have := O2.out
    rw [Lib.byteCells_append, List.length_append, HQ.out.1]
    exact this
  · intro e
    have e2 := List.append_eq_nil_iff.1 e
    have := HQ.out
    rw [e2.2] at this
    exact absurd this.2 (by rw [← this.1]; exact Nat.lt_irrefl 0)
end Go.Proofs.YtfkofbabeghgkaaGreat.Z
end

section
namespace Go.Proofs.YtfkofbabeghgkaaGreat.Z
theorem run_storeAt_all {P : Program} {T : TypeId} {g : Nat} {cur cs : Array Value} {n : Nat} {w : World} (hi : (P.info? T).map (·.size) = some n) (hg : w.heap[g]? = some (.cells cur T (0, 0))) (hc : cur.size = n) (hs : cs.size = n) (h1 : cs.toList.all Value.oneCell' = true) :
    (Instr.storeAt T (.pointer (some ⟨g, 0, none⟩)) (.agg cs)).run P w = .ok () (w.setRow g cs) := by
  have hst := run_storeCells_at (P := P) g 0 T cs.toList 0 cur w hg (by simp; omega) (List.all_eq_true.1 h1)
  cases hq : P.info? T with
  | none => simp [hq] at hi
  | some i =>
    have hz : i.size = n := by simpa [hq] using hi
    have e : (List.take (0 + 0) cur.toList ++ cs.toList ++ List.drop (0 + 0 + cs.toList.length) cur.toList).toArray = cs := by
      rw [List.drop_eq_nil_of_le (by simp; omega)]
      simp
    rw [e] at hst
    unfold Instr.storeAt Instr.sureAddr storeVar
    simp [sizeOf, typeInfo, hq, hz, hs, Value.cells, hst]
theorem var_event {P : Program} {ops : Array Oper} {rest : List Oper} {o1 o2 : Oper} {a : Act} {Q : Exit → Act → World → Prop} {W : World} {N : Tmp} {T : TypeId} {n : Nat} {zc cs : Array Value} (hg1 : o1.guard = none) (hg2 : o2.guard = none) (hd1 : o1.dst = some N) (x : Operand) (h2 : o2.op = .store T (.tmp N) x) (hd2 : o2.dst = none)
    (hrun : (execOp a.eval o1).run P W = .ok (.value (.pointer (some ⟨W.heap.size, 0, none⟩))) (W.alloc (.cells zc T (0, 0)))) (hi : (P.info? T).map (·.size) = some n) (hz : zc.size = n) (hcs : cs.size = n) (h1 : cs.toList.all Value.oneCell' = true)
    (hx : ∀ p, (a.put (some N) p).eval x = .agg cs) (hN : ∀ p, (a.put (some N) p).eval (.tmp N) = p)
    (h : ∀ g, g = W.heap.size → ∀ w1, w1.heap[g]? = some (.cells cs T (0, 0)) → Below W.heap.size W w1 → wpList P ops Q rest (a.put (some N) (.pointer (some ⟨g, 0, none⟩))) w1) : wpList P ops Q (o1 :: o2 :: rest) a W := by
  refine Kd.event_run hg1 hrun ?_
  refine wpList_plain hg2 fun K hK => ?_
  rw [hd1]
  have hb := blk_new W (.cells zc T (0, 0))
  have hst := run_storeAt_all (cs := cs) hi hb hz hcs h1
  unfold Oper.wp
  have hr : (execOp (Act.put a (some N) (.pointer (some ⟨W.heap.size, 0, none⟩))).eval o2).run P (W.alloc (.cells zc T (0, 0))) = .ok .skip ((W.alloc (.cells zc T (0, 0))).setRow W.heap.size cs) := by
    unfold execOp
    simp [h2, hN, hx, hst]
  rw [hr]
  show K (Act.put _ o2.dst undef) _
  rw [hd2]
  exact hK _ _ (h _ rfl _ (setRow_heap _ _ _ _ _ _ hb) (below_setRow (below_alloc (Below.refl _ _) _) (Nat.le_refl _) _))
theorem var_store_step {P : Program} {ops : Array Oper} {o : Oper} {a : Act} {Q : Exit → Act → World → Prop} {W : World} {K : Act → World → Prop} {T : TypeId} {g n : Nat} {cur cs : Array Value} (hw : Region.wanted o (yielded ops a.tmps) = true) (p x : Operand) (h2 : o.op = .store T p x) (hd2 : o.dst = none)
    (hp : a.eval p = .pointer (some ⟨g, 0, none⟩)) (hx : a.eval x = .agg cs) (hi : (P.info? T).map (·.size) = some n) (hg : W.heap[g]? = some (.cells cur T (0, 0))) (hc : cur.size = n) (hs : cs.size = n) (h1 : cs.toList.all Value.oneCell' = true)
    (h : ∀ w1, w1.heap[g]? = some (.cells cs T (0, 0)) → (∀ B w0, Below B w0 W → B ≤ g → Below B w0 w1) → K a w1) : if Region.wanted o (yielded ops a.tmps) = true then Oper.wp P o a W K Q else K (a.put none undef) W := by
  rw [if_pos hw]
  have hst := run_storeAt_all (P := P) hi hg hc hs h1
  have hr : (execOp a.eval o).run P W = .ok .skip (W.setRow g cs) := by
    unfold execOp
    simp [h2, hp, hx, hst]
  unfold Oper.wp
  rw [hr]
  show K (a.put o.dst undef) _
  rw [hd2]
  exact h _ (setRow_heap _ _ _ _ _ _ hg) (fun B w0 hb hB => below_setRow hb hB _)
end Go.Proofs.YtfkofbabeghgkaaGreat.Z
end

section
namespace Go.Proofs.YtfkofbabeghgkaaGreat.Z
open Go.Maps (Keyed)
def heldR : Value → Option (DataW Value × List MemPlace) := fun v => some (.held v, [])
def MapF (P : Program) (k : TypeId) (w : World) (b n : Nat) (f : Int → Option Value) : Prop :=
  ∃ D, w.ownsMap P k heldR b n D ∧ ∀ a, (Lit.int .u32 a).wf = true → Maps.has D (.int .u32 a) = (f a).isSome ∧ ∀ z, D.atKey (.int .u32 a) (.held z) = .held ((f a).getD z)
section
variable {P : Program} {k : TypeId} {w : World} {b n : Nat} {f : Int → Option Value}
theorem MapF.made (P : Program) (k : TypeId) (w : World) : MapF P k (w.alloc (.map #[] 0)) w.heap.size 0 (fun _ => none) :=
  ⟨_, World.ownsMap_made w P k heldR, fun _ _ => ⟨rfl, fun _ => rfl⟩⟩
theorem MapF.lt (h : MapF P k w b n f) : b < w.heap.size := by obtain ⟨D, h, _⟩ := h; exact h.lt
theorem MapF.move {w' : World} (h : MapF P k w b n f) (hm : w'.heap[b]? = w.heap[b]?) : MapF P k w' b n f := by
  obtain ⟨D, ⟨es, clock, hb, r⟩, h2⟩ := h
  exact ⟨D, ⟨es, clock, hm.trans hb, r⟩, h2⟩
theorem MapF.below {w' : World} (h : MapF P k w b n f) (hb : Below w.heap.size w w') : MapF P k w' b n f := h.move (hb.block b h.lt)
theorem MapF.mono {n' : Nat} (h : MapF P k w b n f) (hn : n ≤ n') : MapF P k w b n' f := by obtain ⟨D, h, h2⟩ := h; exact ⟨D, h.mono hn, h2⟩
theorem MapF.congr {f' : Int → Option Value} (h : MapF P k w b n f) (he : ∀ a, f a = f' a) : MapF P k w b n f' := by
  obtain ⟨D, h, h2⟩ := h
  exact ⟨D, h, fun a ha => by rw [← he a]; exact h2 a ha⟩
theorem MapF.look {t e : TypeId} (h : MapF P k w b n f) (hk : P.underlying k = some (.int .u32)) (ht : P.underlying t = some (.map k e)) {z : Value} (hz : (zeroValue e).run P w = .ok z w) {a : Int} (ha : (Lit.int .u32 a).wf = true) :
    (Instr.lookup t (.map (some b)) (.int .u32 a) true).run P w = .ok (.tuple #[(f a).getD z, .bool (f a).isSome]) w ∧ (Instr.lookup t (.map (some b)) (.int .u32 a) false).run P w = .ok ((f a).getD z) w := by
  obtain ⟨D, h, h2⟩ := h
  have hkey := Maps.keyOf_int_mk hk ha
  refine ⟨?_, ?_⟩
  · obtain ⟨v, ps, hrun, hv⟩ := h.look_ok (Maps.int_keyed hk) ht hz (zd := .held z) (zp := []) rfl hkey
    rw [(h2 a ha).2 z] at hv
    simp only [heldR, Option.some.injEq, Prod.mk.injEq, DataW.held.injEq] at hv
    rw [hrun, hv.1, (h2 a ha).1]
  · obtain ⟨v, ps, hrun, hv⟩ := h.lookup (Maps.int_keyed hk) ht hz (zd := .held z) (zp := []) rfl hkey
    rw [(h2 a ha).2 z] at hv
    simp only [heldR, Option.some.injEq, Prod.mk.injEq, DataW.held.injEq] at hv
    rw [hrun, hv.1]
theorem MapF.store {t e : TypeId} (h : MapF P k w b n f) (hk : P.underlying k = some (.int .u32)) (ht : P.underlying t = some (.map k e)) (hn : n < maxLen) {a : Int} (ha : (Lit.int .u32 a).wf = true) (v : Value) :
    ∃ w', (Instr.mapUpdate t (.map (some b)) (.int .u32 a) v).run P w = .ok () w' ∧ MapF P k w' b (n + 1) (fun c => if c = a then some v else f c) ∧ w.grownBy w' (some b) := by
  obtain ⟨D, h, h2⟩ := h
  have hkey := Maps.keyOf_int_mk hk ha
  have hm := h.isMap
  obtain ⟨w', hrun, ho, hg⟩ := h.update (Maps.int_keyed hk) ht hn (val := v) (d := .held v) (ps := []) hkey rfl
  refine ⟨w', hrun, ⟨_, ho, fun c hc => ?_⟩, hg⟩
  by_cases e1 : c = a
  · subst e1
    simp only [if_true, Option.isSome_some, Option.getD_some]
    exact ⟨Maps.has_put_same hm ((Maps.int_keyed hk).key hkey) _, fun z => Maps.atKey_put_same hm ((Maps.int_keyed hk).key hkey) _ _⟩
  · have hne : (Lit.int .u32 c) ≠ .int .u32 a := fun e2 => e1 (by injection e2)
    simp only [if_neg e1]
    exact ⟨(Maps.has_put_other hne _).trans (h2 c hc).1, fun z => (Maps.atKey_put_other hne _ _).trans ((h2 c hc).2 z)⟩
variable {ops : Array Oper} {rest : List Oper} {o : Oper} {a : Act} {Q : Exit → Act → World → Prop}
theorem map_event (hg : o.guard = none) (t : TypeId) (hop : o.op = Op.makeMap t none) (hK : ∀ b, b = w.heap.size → ∀ w1, MapF P k w1 b 0 (fun _ => none) → Below w.heap.size w w1 → wpList P ops Q rest (a.put o.dst (.map (some b))) w1) : wpList P ops Q (o :: rest) a w := by
  refine Kd.event_run (v := .map (some w.heap.size)) (w1 := w.alloc (.map #[] 0)) hg ?_ (hK _ rfl _ (MapF.made P k w) (below_alloc (Below.refl _ _) _))
  unfold execOp
  simp [hop, run_makeMap, Result.andThen]
theorem map_store_step {K : Act → World → Prop} (hw : Region.wanted o (yielded ops a.tmps) = true) (m x y : Operand) (t e : TypeId) (hop : o.op = Op.mapUpdate t m x y) (hd : o.dst = none) (hk : P.underlying k = some (.int .u32)) (ht : P.underlying t = some (.map k e))
    (hm : a.eval m = .map (some b)) (h : MapF P k w b n f) (hn : n < maxLen) (c : Int) (hx : a.eval x = .int .u32 c) (hc : (Lit.int .u32 c).wf = true) (v : Value) (hv : a.eval y = v)
    (hK : ∀ w', MapF P k w' b (n + 1) (fun d => if d = c then some v else f d) → w.grownBy w' (some b) → K a w') : if Region.wanted o (yielded ops a.tmps) = true then Oper.wp P o a w K Q else K (a.put none undef) w := by
  rw [if_pos hw]
  obtain ⟨w', hrun, r1, r2⟩ := h.store hk ht hn hc v
  have hr : (execOp a.eval o).run P w = .ok .skip w' := by
    unfold execOp
    simp [hop, hm, hx, hv, hrun, Result.andThen]
  unfold Oper.wp
  rw [hr]
  show K (a.put o.dst undef) _
  rw [hd]
  exact hK w' r1 r2
end
end Go.Proofs.YtfkofbabeghgkaaGreat.Z
end

section
namespace Go.Proofs.YtfkofbabeghgkaaGreat.Z
def Flat {α : Type} (d : Kd α) : Prop := ∀ {w w' : World} {base : Nat} {ok : Nat → Prop} {x : α} {cs : List Value}, d.K w x cs → d.M w' base ok x cs
theorem append_wide {P : Program} {α : Type} {d : Kd α} (hflat : Flat d) {W : World} (base : Nat) (ty t e : TypeId) (z : Value) (bytes : Nat)
    (ht : P.underlying t = some (.slice e)) (hinfo : (P.info? e).map (fun i => (i.zero, i.size, i.bytes)) = some (some z, d.sz, bytes)) (hz : z.cells.size = d.sz) (hs0 : 0 < d.sz)
    (v : Value) (xs ys : List α) (A : Option Addr) (m c : Nat) (HO : d.R e W base (fun _ => True) v xs) (HR : d.C W A m ys) (hbase : base ≤ W.heap.size) (hl : ((xs.length + m) + (xs.length + m) / 4 + 192) * bytes ≤ 281474976710656) (hm63 : xs.length + m ≤ maxLen) :
    ∃ v1 w1, (Builtin.append_ #[t, t] ty #[v, .slice A m c]).run P W = .ok v1 w1 ∧ d.R e w1 base (fun _ => True) v1 (xs ++ ys) ∧ W.grownBy w1 v.ownBlock := by
  obtain ⟨i0, hi, hzz⟩ := Option.map_eq_some_iff.1 hinfo
  simp only [Prod.mk.injEq] at hzz
  obtain ⟨hz0, hz1, hz2⟩ := hzz
  have hm : ys.length = m := HR.1
  obtain ⟨hok, inner, hown, hr⟩ := HO
  have mv : ∀ {w' : World} {ok' : Nat → Prop} {q : α} {cs : List Value}, d.M W base (fun k => True ∧ some k ≠ v.ownBlock) q cs → d.M w' base ok' q cs := fun h => hflat (d.K_of_M h)
  rcases A with _ | ad
  · have h0 : m = 0 := by
      rcases Nat.eq_zero_or_pos m with h0 | h0
      · exact h0
      · obtain ⟨ad, h, _⟩ := HR.2.2 h0
        cases h
    subst h0
    obtain rfl : ys = [] := List.eq_nil_of_length_eq_zero hm
    refine ⟨v, W, ?_, by rw [List.append_nil]; exact ⟨hok, inner, hown, hr⟩, World.grownBy.refl W _⟩
    rcases hown.2 with ⟨rfl, hn⟩ | ⟨g, cap, cur, rfl, _, _, hnc, _⟩
    · simp [Builtin.append_, run_underlying ht, sizeOf, typeInfo, hi, Builtin.lenOf, Builtin.firstCells]
    · simp [Builtin.append_, run_underlying ht, sizeOf, typeInfo, hi, Builtin.lenOf, Builtin.firstCells, hnc, storeCells]
  · obtain ⟨news, hnr, hnc⟩ := ReadsRow.inner_ HR
    have hone : ∀ u ∈ news, u.oneCell' = true := by
      intro u hu
      obtain ⟨q, hq, rfl⟩ := List.mem_iff_getElem.1 hu
      have hql : q / d.sz < ys.length := by
        rw [Nat.div_lt_iff_lt_mul hs0]
        rw [← hnr.1]
        exact hq
      have hc := hnr.2 (q / d.sz) _ (List.getElem?_eq_getElem hql)
      refine d.K_one hc _ ?_
      rw [List.mem_iff_getElem?]
      refine ⟨q % d.sz, ?_⟩
      rw [List.getElem?_take, if_pos (Nat.mod_lt _ hs0), List.getElem?_drop, Nat.mul_comm, Nat.div_add_mod, List.getElem?_eq_getElem hq]
    obtain ⟨v1, w1, hrun, h2, hg, _⟩ := run_append_own_wide (P := P) W base t ty e i0 z d.sz bytes ht hi hz0 hz1 hz2 hz hs0 v xs.length inner hown ad m c news (by rw [hnr.1, hm]) hnc hone hm63 hl hbase
    refine ⟨v1, w1, hrun, ⟨fun k hk => trivial, inner ++ news, by rw [List.length_append, hm]; exact h2, Kd.reps_append (hr.imp_ (fun _ _ hq => mv hq)) (hnr.imp_ (fun _ _ hq => hflat hq))⟩, hg⟩
section
variable {P : Program} {ops : Array Oper} {rest : List Oper} {o : Oper} {a : Act} {Q : Exit → Act → World → Prop} {Kc : Act → World → Prop} {α : Type}
theorem append_wide_step {d : Kd α} (hflat : Flat d) {W : World} (base : Nat) (hw : Region.wanted o (yielded ops a.tmps) = true) (s x : Operand) (t e : TypeId) (z : Value) (bytes : Nat)
    (ho : o.op = .call { callee := .builtin .append, args := #[s, x], argTypes := #[t, t] })
    (ht : P.underlying t = some (.slice e)) (hinfo : (P.info? e).map (fun i => (i.zero, i.size, i.bytes)) = some (some z, d.sz, bytes)) (hz : z.cells.size = d.sz) (hs0 : 0 < d.sz)
    (v : Value) (xs ys : List α) (A : Option Addr) (m c : Nat) (hs : a.eval s = v) (hx : a.eval x = .slice A m c) (HO : d.R e W base (fun _ => True) v xs) (HR : d.C W A m ys) (hbase : base ≤ W.heap.size) (hl : ((xs.length + m) + (xs.length + m) / 4 + 192) * bytes ≤ 281474976710656) (hm63 : xs.length + m ≤ maxLen)
    (h : ∀ v1 w1, d.R e w1 base (fun _ => True) v1 (xs ++ ys) → W.grownBy w1 v.ownBlock → Kc (a.put o.dst v1) w1) :
    if Region.wanted o (yielded ops a.tmps) = true then Oper.wp P o a W Kc Q else Kc (a.put o.dst undef) W := by
  obtain ⟨v1, w1, hr, h1, h2⟩ := append_wide (P := P) hflat base o.type t e z bytes ht hinfo hz hs0 v xs ys A m c HO HR hbase hl hm63
  rw [if_pos hw]
  unfold Oper.wp execOp
  simp only [ho, resolve, invoke, builtin, Sem.run_bind, Sem.run_pure, Result.andThen_ok, List.map_toArray, List.map_cons, List.map_nil, hs, hx, hr]
  exact h v1 w1 h1 h2
end
end Go.Proofs.YtfkofbabeghgkaaGreat.Z
end

section
namespace Go.Proofs.YtfkofbabeghgkaaGreat.Z
abbrev VIT := S77
structure INd where
  kd : Int
  md : Int
  ln : Int
  sz : Int
  tg : ByteArray
def zI : INd := ⟨0, 0, 0, 0, ⟨#[]⟩⟩
def inoV (n : INd) : Value := .agg #[.int .u8 n.kd, .int .u16 n.md, .int .u32 n.ln, .int .u32 n.sz, .string n.tg]
def upV (p : Int × Int) : Value := .agg #[.int .i64 p.1, .int .u32 p.2]
structure KItm where
  f0 : Int
  f1 : Int
  f2 : ByteArray
  f3 : Int
  f4 : ByteArray
def zKept : KItm := ⟨(0 : Int), (0 : Int), (⟨#[]⟩ : ByteArray), (0 : Int), (⟨#[]⟩ : ByteArray)⟩
def kKept : Kd KItm := Kd.iso (Kd.pair (Kd.int .u8) (Kd.pair (Kd.int .u32) (Kd.pair Kd.string (Kd.pair (Kd.int .u32) Kd.string)))) (fun x : KItm => (x.f0, x.f1, x.f2, x.f3, x.f4))
theorem kKept_open {w : World} {x : KItm} {cs : List Value} (h : kKept.K w x cs) : cs = [.int .u8 x.f0, .int .u32 x.f1, .string x.f2, .int .u32 x.f3, .string x.f4] := by
  obtain ⟨_, _, rfl, rfl, ⟨_, _, rfl, rfl, ⟨_, _, rfl, rfl, ⟨_, _, rfl, rfl, rfl⟩⟩⟩⟩ := h
  exact rfl
theorem kKept_mkM (w : World) (base : Nat) (ok : Nat → Prop) (x : KItm) : kKept.M w base ok x [.int .u8 x.f0, .int .u32 x.f1, .string x.f2, .int .u32 x.f3, .string x.f4] := ⟨[.int .u8 x.f0], [.int .u32 x.f1, .string x.f2, .int .u32 x.f3, .string x.f4], rfl, rfl, ⟨[.int .u32 x.f1], [.string x.f2, .int .u32 x.f3, .string x.f4], rfl, rfl, ⟨[.string x.f2], [.int .u32 x.f3, .string x.f4], rfl, rfl, ⟨[.int .u32 x.f3], [.string x.f4], rfl, rfl, rfl⟩⟩⟩⟩
def rd_Kept (xs : List KItm) (i : Int) : KItm := xs.getD i.toNat zKept
theorem at_Kept {w : World} {A : Option Addr} {n : Nat} {xs : List KItm} (h : Kd.C kKept w A n xs) (i : Int) (h0 : 0 ≤ i) (h1 : i < n) : ∃ ad , A = some ad ∧ w.cell? (ad.add (i.toNat * 5)) = some (.int .u8 (rd_Kept xs i).f0) ∧ w.cell? ⟨(ad.add (i.toNat * 5)).block, (ad.add (i.toNat * 5)).off + 1, none⟩ = some (.int .u32 (rd_Kept xs i).f1) ∧ w.cell? ⟨(ad.add (i.toNat * 5)).block, (ad.add (i.toNat * 5)).off + 2, none⟩ = some (.string (rd_Kept xs i).f2) ∧ w.cell? ⟨(ad.add (i.toNat * 5)).block, (ad.add (i.toNat * 5)).off + 3, none⟩ = some (.int .u32 (rd_Kept xs i).f3) ∧ w.cell? ⟨(ad.add (i.toNat * 5)).block, (ad.add (i.toNat * 5)).off + 4, none⟩ = some (.string (rd_Kept xs i).f4) := by
  obtain ⟨ad, c, e, _, hK, hc0⟩ := Kd.C_get h zKept i h0 h1
  have hc : ∀ j u, c[j]? = some u → w.cell? (ad.add (i.toNat * 5 + j)) = some u := hc0
  obtain rfl := kKept_open hK
  exact ⟨ad, e, hc 0 _ rfl, by rw [← add_field _ _ 1 (by omega)]; exact hc 1 _ rfl, by rw [← add_field _ _ 2 (by omega)]; exact hc 2 _ rfl, by rw [← add_field _ _ 3 (by omega)]; exact hc 3 _ rfl, by rw [← add_field _ _ 4 (by omega)]; exact hc 4 _ rfl⟩
theorem drop_Kept {l : List KItm} {i : Int} (h0 : 0 ≤ i) (h1 : i < l.length) : l.drop i.toNat = rd_Kept l i :: l.drop (i + 1).toNat := by
  have hl : i.toNat < l.length := by omega
  rw [List.drop_eq_getElem_cons hl, show (i + 1).toNat = i.toNat + 1 by omega]
  congr 1
  unfold rd_Kept
  rw [List.getD_eq_getElem?_getD, List.getElem?_eq_getElem hl]
  rfl
theorem drop_IT {l : List VIT} {i : Int} (h0 : 0 ≤ i) (h1 : i < l.length) : l.drop i.toNat = rd_T77 l i :: l.drop (i + 1).toNat := by
  have hl : i.toNat < l.length := by omega
  rw [List.drop_eq_getElem_cons hl, show (i + 1).toNat = i.toNat + 1 by omega]
  congr 1
  unfold rd_T77
  rw [List.getD_eq_getElem?_getD, List.getElem?_eq_getElem hl]
  rfl
structure VS where
  all : List KItm
  ino : Int → Option INd
  up : Int → Option (Int × Int)
  n : Nat
def VS.Ok (s : VS) : Prop := (∀ a p, s.up a = some p → 0 ≤ p.2 ∧ p.2 < 4294967296) ∧ (∀ x ∈ s.all, 0 ≤ x.f1 ∧ x.f1 < 4294967296) ∧ s.all.length ≤ 4398046511104 ∧ s.n ≤ s.all.length
theorem u32wf {a : Int} (h : 0 ≤ a ∧ a < 4294967296) : (Lit.int .u32 a).wf = true := by
  rw [Lit.wf_int_iff]
  simp [IntKind.min, IntKind.max, IntKind.bits, IntKind.signed]
  omega
def volO (it va vi vu : Value) (d m sm : Int) (r : Bool) : Obj := .cells #[it, .int .u32 d, .int .i32 m, .int .u32 sm, .bool r, va, vi, vu] 151 (0, 0)
def Fr (g : Nat) (w0 w : World) : Prop := KeepBut w0 w g none ∧ ∀ B, B ≤ g → B ≤ w0.heap.size → Below B w0 w
theorem Fr.refl (g : Nat) (w : World) : Fr g w w := ⟨KeepBut.refl _ _ _, fun _ _ _ => Below.refl _ _⟩
theorem Fr.trans {g : Nat} {w0 w1 w2 : World} (h : Fr g w0 w1) (k : Fr g w1 w2) : Fr g w0 w2 := ⟨h.1.trans k.1 (.inl rfl), fun B a b => (h.2 B a b).trans (k.2 B a (Nat.le_trans b h.1.1))⟩
theorem Fr.of_below {g : Nat} {w w' : World} (k : Below w.heap.size w w') : Fr g w w' := ⟨KeepBut.of_below k _ _, fun B _ b => ⟨k.os, k.tape, k.output, k.size, fun i hi => k.block i (Nat.lt_of_lt_of_le hi b)⟩⟩
theorem Fr.below {g : Nat} {w0 w w' : World} (h : Fr g w0 w) (k : Below w.heap.size w w') : Fr g w0 w' := h.trans (Fr.of_below k)
theorem Fr.size {g : Nat} {w0 w : World} (h : Fr g w0 w) : w0.heap.size ≤ w.heap.size := h.1.1
theorem Fr.setg {g : Nat} {w0 w : World} (h : Fr g w0 w) (j : Nat) (u : Value) : Fr g w0 (w.setCell ⟨g, j, none⟩ u) := ⟨h.1.set_ j u, fun B a b => (h.2 B a b).setCell (p := ⟨g, j, none⟩) a u⟩
theorem Fr.grown {g : Nat} {w0 w w' : World} {row : Option Nat} (h : Fr g w0 w) (k : w.grownBy w' row) (hr : ∀ b, row = some b → w0.heap.size ≤ b) : Fr g w0 w' :=
  ⟨⟨Nat.le_trans h.1.1 k.size, fun i hi hg _ => (k.block i (Nat.lt_of_lt_of_le hi h.1.1) (fun e => by have := hr i e.symm; omega)).trans (h.1.2 i hi hg (by simp))⟩,
   fun B a b => (h.2 B a b).grown k (Nat.le_trans b h.1.1) (fun j hj => by have := hr j hj; omega)⟩
def VolR (w : World) (g base : Nat) (it : Value) (d m sm : Int) (r : Bool) (s : VS) : Prop :=
  ∃ va bi bu, w.heap[g]? = some (volO it va (.map (some bi)) (.map (some bu)) d m sm r) ∧ kKept.R 178 w base (fun _ => True) va s.all ∧
    MapF Tryz.prog 63 w bi s.n (fun a => (s.ino a).map inoV) ∧ MapF Tryz.prog 63 w bu s.n (fun a => (s.up a).map upV) ∧ base ≤ bi ∧ base ≤ bu ∧ bi ≠ bu ∧ g < base ∧ s.Ok
theorem VolR.below {w w' : World} {g base : Nat} {it : Value} {d m sm : Int} {r : Bool} {s : VS} (h : VolR w g base it d m sm r s) (hb : Below w.heap.size w w') : VolR w' g base it d m sm r s := by
  obtain ⟨va, bi, bu, h1, h2, h3, h4, h5⟩ := h
  exact ⟨va, bi, bu, blk_below h1 hb, Kd.R_below h2 hb, h3.below hb, h4.below hb, h5⟩
theorem VolR.ok {w : World} {g base : Nat} {it : Value} {d m sm : Int} {r : Bool} {s : VS} (h : VolR w g base it d m sm r s) : s.Ok := by
  obtain ⟨_, _, _, _, _, _, _, _, _, _, _, hok⟩ := h
  exact hok
theorem row_map {w : World} {base b n : Nat} {v : Value} {l : List KItm} {f : Int → Option Value} (h : kKept.R 178 w base (fun _ => True) v l) (hm : MapF Tryz.prog 63 w b n f) : some b ≠ v.ownBlock := by
  intro e
  obtain ⟨inner, ho⟩ := Kd.R_own h
  obtain ⟨cells, hc⟩ := own_typed ho b e.symm
  obtain ⟨D, ⟨es, clock, hb, _⟩, _⟩ := hm
  rw [hc] at hb
  cases hb
theorem row_low {w : World} {base g : Nat} {v : Value} {l : List KItm} (h : kKept.R 178 w base (fun _ => True) v l) (hg : g < base) : some g ≠ v.ownBlock := by
  intro e
  obtain ⟨inner, ho⟩ := Kd.R_own h
  have := own_base ho g e.symm
  omega
theorem row_base {w : World} {base : Nat} {v : Value} {l : List KItm} (h : kKept.R 178 w base (fun _ => True) v l) (b : Nat) (e : v.ownBlock = some b) : base ≤ b := by
  obtain ⟨inner, ho⟩ := Kd.R_own h
  exact own_base ho b e
theorem row_setg {w : World} {base g : Nat} {v : Value} {l : List KItm} (h : kKept.R 178 w base (fun _ => True) v l) (hg : g < base) (j : Nat) (u : Value) : kKept.R 178 (w.setCell ⟨g, j, none⟩ u) base (fun _ => True) v l :=
  Kd.R_mono (Kd.R_move (Kd.R_bound h) (fun k hk => Below.heap_setCell w ⟨g, j, none⟩ u k (by have := hk.2.1; show k ≠ g; omega))) (fun _ _ => trivial)
theorem row_grown {w w' : World} {base b n : Nat} {v : Value} {l : List KItm} {f : Int → Option Value} (h : kKept.R 178 w base (fun _ => True) v l) (hm : MapF Tryz.prog 63 w b n f) (hg : w.grownBy w' (some b)) : kKept.R 178 w' base (fun _ => True) v l :=
  Kd.R_mono (Kd.R_move (Kd.R_bound h) (fun k hk => hg.block k hk.2.2.1 (by
    intro e
    obtain ⟨_, _, _, q, _, cells, hc⟩ := hk
    obtain ⟨D, ⟨es, clock, hb, _⟩, _⟩ := hm
    obtain rfl := Option.some.inj e
    rw [hc] at hb
    cases hb))) (fun _ _ => trivial)
theorem VolR.push {w w' : World} {g base bi bu : Nat} {it va v' : Value} {d m sm : Int} {r : Bool} {s : VS} {x : KItm} (hG : w.heap[g]? = some (volO it va (.map (some bi)) (.map (some bu)) d m sm r)) (hA : kKept.R 178 w base (fun _ => True) va s.all)
    (hI : MapF Tryz.prog 63 w bi s.n (fun a => (s.ino a).map inoV)) (hU : MapF Tryz.prog 63 w bu s.n (fun a => (s.up a).map upV)) (hbi : base ≤ bi) (hbu : base ≤ bu) (hne : bi ≠ bu) (hgb : g < base) (hok : s.Ok)
    (hA' : kKept.R 178 w' base (fun _ => True) v' (s.all ++ [x])) (hgr : w.grownBy w' va.ownBlock) (hx : 0 ≤ x.f1 ∧ x.f1 < 4294967296) (hl : s.all.length < 4398046511104) :
    VolR (w'.setCell ⟨g, 5, none⟩ v') g base it d m sm r { s with all := s.all ++ [x] } := by
  have hG' := blk_grown hG hgr (row_low hA hgb)
  have hf : ∀ b, b ≠ g → (w'.setCell ⟨g, 5, none⟩ v').heap[b]? = w'.heap[b]? := fun b hb => Below.heap_setCell w' ⟨g, 5, none⟩ v' b hb
  refine ⟨v', bi, bu, blk_set hG' 5 v', row_setg hA' hgb 5 v', hI.move ((hf bi (by omega)).trans (hgr.block bi hI.lt (row_map hA hI))), hU.move ((hf bu (by omega)).trans (hgr.block bu hU.lt (row_map hA hU))), hbi, hbu, hne, hgb, hok.1, ?_, by simp; omega, by have := hok.2.2.2; simp; omega⟩
  intro y hy
  rcases List.mem_append.1 hy with h | h
  · exact hok.2.1 y h
  · rw [List.mem_singleton.1 h]
    exact hx
theorem VolR.stI {w w' : World} {g base bi bu : Nat} {it va v' : Value} {d m sm : Int} {r : Bool} {s : VS} {a : Int} {y : INd} (hG : w.heap[g]? = some (volO it va (.map (some bi)) (.map (some bu)) d m sm r)) (hA : kKept.R 178 w base (fun _ => True) va s.all)
    (hI : MapF Tryz.prog 63 w bi s.n (fun a => (s.ino a).map inoV)) (hU : MapF Tryz.prog 63 w bu s.n (fun a => (s.up a).map upV)) (hbi : base ≤ bi) (hbu : base ≤ bu) (hne : bi ≠ bu) (hgb : g < base) (hok : s.Ok)
    (hI' : MapF Tryz.prog 63 w' bi (s.n + 1) (fun c => if c = a then some (inoV y) else (s.ino c).map inoV)) (hgr : w.grownBy w' (some bi)) (hn : s.n + 1 ≤ s.all.length) :
    VolR w' g base it d m sm r { s with ino := fun c => if c = a then some y else s.ino c, n := s.n + 1 } :=
  ⟨va, bi, bu, blk_grown hG hgr (fun e => by have := Option.some.inj e; omega), row_grown hA hI hgr, hI'.congr (fun c => by simp only; split <;> rfl), (hU.move (hgr.block bu hU.lt (fun e => hne (Option.some.inj e).symm))).mono (Nat.le_succ _), hbi, hbu, hne, hgb, hok.1, hok.2.1, hok.2.2.1, hn⟩
theorem VolR.stU {w w' : World} {g base bi bu : Nat} {it va v' : Value} {d m sm : Int} {r : Bool} {s : VS} {a : Int} {y : Int × Int} (hG : w.heap[g]? = some (volO it va (.map (some bi)) (.map (some bu)) d m sm r)) (hA : kKept.R 178 w base (fun _ => True) va s.all)
    (hI : MapF Tryz.prog 63 w bi s.n (fun a => (s.ino a).map inoV)) (hU : MapF Tryz.prog 63 w bu s.n (fun a => (s.up a).map upV)) (hbi : base ≤ bi) (hbu : base ≤ bu) (hne : bi ≠ bu) (hgb : g < base) (hok : s.Ok)
    (hU' : MapF Tryz.prog 63 w' bu (s.n + 1) (fun c => if c = a then some (upV y) else (s.up c).map upV)) (hgr : w.grownBy w' (some bu)) (hn : s.n + 1 ≤ s.all.length) (hy : 0 ≤ y.2 ∧ y.2 < 4294967296) :
    VolR w' g base it d m sm r { s with up := fun c => if c = a then some y else s.up c, n := s.n + 1 } :=
  ⟨va, bi, bu, blk_grown hG hgr (fun e => by have := Option.some.inj e; omega), row_grown hA hU hgr, (hI.move (hgr.block bi hI.lt (fun e => hne (Option.some.inj e)))).mono (Nat.le_succ _), hU'.congr (fun c => by simp only; split <;> rfl), hbi, hbu, hne, hgb, fun c p hp => by
    simp only at hp
    split at hp
    · rw [← Option.some.inj hp]
      exact hy
    · exact hok.1 c p hp, hok.2.1, hok.2.2.1, hn⟩
theorem zeroI (w : World) : (zeroValue 100).run Tryz.prog w = .ok (inoV zI) w := by kernel_rfl
theorem zeroU (w : World) : (zeroValue 181).run Tryz.prog w = .ok (upV (0, 0)) w := by kernel_rfl
theorem getD_inoV (o : Option INd) : (o.map inoV).getD (inoV zI) = inoV (o.getD zI) := by cases o <;> rfl
theorem getD_upV (o : Option (Int × Int)) : (o.map upV).getD (upV (0, 0)) = upV (o.getD (0, 0)) := by cases o <;> rfl
theorem lookI {w : World} {b n : Nat} {f : Int → Option INd} (h : MapF Tryz.prog 63 w b n (fun a => (f a).map inoV)) {a : Int} (ha : 0 ≤ a ∧ a < 4294967296) :
    (Instr.lookup 148 (.map (some b)) (.int .u32 a) true).run Tryz.prog w = .ok (.tuple #[inoV ((f a).getD zI), .bool (f a).isSome]) w ∧ (Instr.lookup 148 (.map (some b)) (.int .u32 a) false).run Tryz.prog w = .ok (inoV ((f a).getD zI)) w := by
  have := h.look Tryz.underlying63 Tryz.underlying148 (zeroI w) (u32wf ha)
  simp only [getD_inoV, Option.isSome_map] at this
  exact this
theorem lookB {w : World} {b n : Nat} {f : Int → Option INd} (h : MapF Tryz.prog 63 w b n (fun a => (f a).map inoV)) {a : Int} (ha : 0 ≤ a ∧ a < 4294967296) {y : INd} {c : Bool} (hy : y = (f a).getD zI) (hc : c = (f a).isSome) :
    (Instr.lookup 148 (.map (some b)) (.int .u32 a) true).run Tryz.prog w = .ok (.tuple #[.agg #[.int .u8 y.kd, .int .u16 y.md, .int .u32 y.ln, .int .u32 y.sz, .string y.tg], .bool c]) w := by
  subst hy
  subst hc
  exact (lookI h ha).1
theorem lookN {w : World} {b n : Nat} {f : Int → Option INd} (h : MapF Tryz.prog 63 w b n (fun a => (f a).map inoV)) {a : Int} (ha : 0 ≤ a ∧ a < 4294967296) {y : INd} (hy : y = (f a).getD zI) :
    (Instr.lookup 148 (.map (some b)) (.int .u32 a) false).run Tryz.prog w = .ok (.agg #[.int .u8 y.kd, .int .u16 y.md, .int .u32 y.ln, .int .u32 y.sz, .string y.tg]) w := by
  subst hy
  exact (lookI h ha).2
theorem lookU {w : World} {b n : Nat} {f : Int → Option (Int × Int)} (h : MapF Tryz.prog 63 w b n (fun a => (f a).map upV)) {a : Int} (ha : 0 ≤ a ∧ a < 4294967296) :
    (Instr.lookup 149 (.map (some b)) (.int .u32 a) false).run Tryz.prog w = .ok (upV ((f a).getD (0, 0))) w := by
  have := (h.look Tryz.underlying63 Tryz.underlying149 (zeroU w) (u32wf ha)).2
  simp only [getD_upV] at this
  exact this
theorem lookW {w : World} {b n : Nat} {f : Int → Option (Int × Int)} (h : MapF Tryz.prog 63 w b n (fun a => (f a).map upV)) {a : Int} (ha : 0 ≤ a ∧ a < 4294967296) {y : Int × Int} (hy : y = (f a).getD (0, 0)) :
    (Instr.lookup 149 (.map (some b)) (.int .u32 a) false).run Tryz.prog w = .ok (.agg #[.int .i64 y.1, .int .u32 y.2]) w := by
  subst hy
  exact lookU h ha
set_option maxRecDepth 100000 in
theorem fieldI (y : INd) (w : World) : (Instr.field 100 (.agg #[.int .u8 y.kd, .int .u16 y.md, .int .u32 y.ln, .int .u32 y.sz, .string y.tg]) 0).run Tryz.prog w = .ok (.int .u8 y.kd) w := by
  go_simp
  try rfl
end Go.Proofs.YtfkofbabeghgkaaGreat.Z
end

section
namespace Go.Proofs.YtfkofbabeghgkaaGreat.Z
attribute [local go_sem] max2_int min2_int max_two min_two max_three min_three max_four min_four   -- for this text's walks alone
mutual
def pack_TakeNumber.j0 : Nat → ByteArray → Int → Bool → Option (Int × ByteArray × Int)
 | 0, _, _, _ => none
 | k + 1, x0, x1, x9 => if x9 = true then (some (0, (⟨#[]⟩ : ByteArray), 1)) else (if (x0.size : Int) < x1 then (some (0, (⟨#[]⟩ : ByteArray), 3)) else (pack_TakeNumber.l0 k x0 x1 0 x1 0))
def pack_TakeNumber.l0 : Nat → ByteArray → Int → Int → Int → Int → Option (Int × ByteArray × Int)
 | 0, _, _, _, _, _ => none
 | k + 1, x0, x1, x7, x21, x22 => if x22 < x21 then (if 0 ≤ x22 then (if x22 < (x0.size : Int) then (pack_TakeNumber.l0 k x0 x1 (Go.bits .or .u64 (IntKind.u64.wrap (x7 * 256)) (IntKind.u64.wrap (bt x0 x22))) x21 (wrap64 (x22 + 1))) else (none)) else (none)) else (if 0 ≤ x1 then (if x1 ≤ (x0.size : Int) then (some (x7, x0.extract (x1 : Int).toNat x0.size, 0)) else (none)) else (none))
end
def pack_TakeNumber.f (k : Nat) (a0 : ByteArray) (a1 : Int) : Option (Int × ByteArray × Int) := if a1 < 1 then (pack_TakeNumber.j0 k a0 a1 true) else (pack_TakeNumber.j0 k a0 a1 (decide (a1 > 8)))
theorem pack_TakeNumber.mono_l : ∀ k, (∀ y0 y1 y2, LeO (pack_TakeNumber.j0 k y0 y1 y2) (pack_TakeNumber.j0 (k + 1) y0 y1 y2)) ∧ (∀ y0 y1 y2 y3 y4, LeO (pack_TakeNumber.l0 k y0 y1 y2 y3 y4) (pack_TakeNumber.l0 (k + 1) y0 y1 y2 y3 y4))
 | 0 => ⟨fun _ _ _ r h => by simp [pack_TakeNumber.j0] at h, fun _ _ _ _ _ r h => by simp [pack_TakeNumber.l0] at h⟩
 | k + 1 => by
  obtain ⟨ih0, ih1⟩ := pack_TakeNumber.mono_l k
  refine ⟨?_, ?_⟩
  ·intro y0 y1 y2
   unfold pack_TakeNumber.j0
   repeat' first
   | (with_reducible exact ih0 _ _ _)
   | (with_reducible exact ih1 _ _ _ _ _)
   | (with_reducible exact LeO.refl _)
   | (with_reducible exact LeO.none _)
   | (with_reducible refine LeO.ite ?_ ?_)
   | (with_reducible refine LeO.bind ?_ (fun _ => ?_))
   | exact ih0 _ _ _
   | exact ih1 _ _ _ _ _
   | exact LeO.none _
   | refine LeO.ite ?_ ?_
   | refine LeO.bind ?_ (fun _ => ?_)
  intro y0 y1 y2 y3 y4
  unfold pack_TakeNumber.l0
  repeat' first
  | (with_reducible exact ih0 _ _ _)
  | (with_reducible exact ih1 _ _ _ _ _)
  | (with_reducible exact LeO.refl _)
  | (with_reducible exact LeO.none _)
  | (with_reducible refine LeO.ite ?_ ?_)
  | (with_reducible refine LeO.bind ?_ (fun _ => ?_))
  | exact ih0 _ _ _
  | exact ih1 _ _ _ _ _
  | exact LeO.none _
  | refine LeO.ite ?_ ?_
  | refine LeO.bind ?_ (fun _ => ?_)
theorem pack_TakeNumber.mono : ∀ a0 a1 k, LeO (pack_TakeNumber.f k a0 a1) (pack_TakeNumber.f (k + 1) a0 a1) := by
 intro a0 a1 k
 obtain ⟨ih0, ih1⟩ := pack_TakeNumber.mono_l k
 unfold pack_TakeNumber.f
 repeat' first
   | (with_reducible exact ih0 _ _ _)
   | (with_reducible exact ih1 _ _ _ _ _)
   | (with_reducible exact LeO.refl _)
   | (with_reducible exact LeO.none _)
   | (with_reducible refine LeO.ite ?_ ?_)
   | (with_reducible refine LeO.bind ?_ (fun _ => ?_))
   | exact ih0 _ _ _
   | exact ih1 _ _ _ _ _
   | exact LeO.none _
   | refine LeO.ite ?_ ?_
   | refine LeO.bind ?_ (fun _ => ?_)
set_option maxHeartbeats 8000000 in
set_option maxRecDepth 100000 in
theorem pack_TakeNumber.calls (k : Nat) (a0 : ByteArray) (a1 : Int) (r1 : Int) (r2 : ByteArray) (r3 : Int) (w : World) (h : pack_TakeNumber.f k a0 a1 = some (r1, r2, r3)) :
  Calls Tryz.prog 60 #[.string a0, .int .i64 a1] w fun e w' => e = .returned (.tuple #[.int .u64 r1, .string r2, .int .i64 r3]) ∧ Drawn0 w w' := by
 have H : (if a1 < 1 then (pack_TakeNumber.j0 k a0 a1 true) else (pack_TakeNumber.j0 k a0 a1 (decide (a1 > 8)))) = some (r1, r2, r3) := h
 clear h
 have HC3 := ak_ H
 clear H
 go_enter Tryz.func60, Tryz.ntmps60
 go_upto_region 1 with (fail)
 repeat (go_quiet (fail); go_upto_region 1 with (fail))
 go_cut [9] (fun v9 wc => ∃ (kq : Nat) (x9_2 : Bool), v9 = .bool x9_2 ∧ Aside0 (pack_TakeNumber.j0 kq a0 a1 x9_2 = some (r1, r2, r3)) ∧ Aside0 (kq ≤ k) ∧ Drawn0 w wc)
 case first =>
  have H := HC3.out
  clear HC3
  by_cases c4 : a1 < 1
  ·rw [if_pos c4] at H
   have c4b0 : decide (a1 < 1) = true := decide_eq_true c4
   clear c4
   (first | rw [c4b0] | (simp only [i64_w, i32_w]; rw [c4b0]) | skip)
   have H' := ak_ H
   clear H
   go_wp2
   repeat (go_quiet (fail); try go_wp2)
   go_meet
   case rel => exact ⟨_, (true), (by first | rfl | (simp; done) | (simp [*]; done)), H', ⟨by first | omega | exact Nat.le_refl _⟩, by repeat (first | exact Drawn0.refl _ | apply Drawn0.step)⟩
  rw [if_neg c4] at H
  have c4b0 : decide (a1 < 1) = false := decide_eq_false c4
  clear c4
  (first | rw [c4b0] | (simp only [i64_w, i32_w]; rw [c4b0]) | skip)
  have H' := ak_ H
  clear H
  go_wp2
  repeat (go_quiet (fail); try go_wp2)
  go_meet
  case rel => exact ⟨_, (decide (a1 > 8)), (by first | rfl | (simp; done) | (simp [*]; done)), H', ⟨by first | omega | exact Nat.le_refl _⟩, by repeat (first | exact Drawn0.refl _ | apply Drawn0.step)⟩
 case rest =>
  clear HC3
  try clear p2
  try clear c4
  try clear c4b0
  obtain ⟨kq, x9_2, rfl, HA, HJ2, ⟨mc2, rfl⟩⟩ := hcut
  cases kq with
  | zero => exact absurd HA.out (by simp [pack_TakeNumber.j0])
  | succ kj2 =>
   have H := HA.out
   clear HA
   simp only [pack_TakeNumber.j0] at H
   by_cases c5 : x9_2 = true
   ·subst c5
    have H1 : (some (0, (⟨#[]⟩ : ByteArray), 1)) = some (r1, r2, r3) := by rw [if_pos rfl] at H; exact H
    clear H
    have H := H1
    clear H1
    simp only [Option.some.injEq, Prod.mk.injEq] at H
    obtain ⟨rfl, rfl, rfl⟩ := H
    go_wp2
    repeat (go_quiet (fail); try go_wp2)
    go_ret3
    exact ⟨by first | rfl | (simp; done) | (simp [*]; done), by repeat (first | exact Drawn0.refl _ | apply Drawn0.step)⟩
   replace c5 := Bool.eq_false_iff.mpr c5
   subst c5
   have H1 : (if (a0.size : Int) < a1 then (some (0, (⟨#[]⟩ : ByteArray), 3)) else (pack_TakeNumber.l0 kj2 a0 a1 0 a1 0)) = some (r1, r2, r3) := by rw [if_neg (show ¬ (false = true) by decide)] at H; exact H
   clear H
   have H := H1
   clear H1
   by_cases c6 : (a0.size : Int) < a1
   ·rw [if_pos c6] at H
    have c6b0 : decide ((a0.size : Int) < a1) = true := decide_eq_true c6
    clear c6
    simp only [Option.some.injEq, Prod.mk.injEq] at H
    obtain ⟨rfl, rfl, rfl⟩ := H
    go_wp2
    repeat (go_quiet (fail); try go_wp2)
    go_ret3
    exact ⟨by first | rfl | (simp; done) | (simp [*]; done), by repeat (first | exact Drawn0.refl _ | apply Drawn0.step)⟩
   rw [if_neg c6] at H
   have c6b0 : decide ((a0.size : Int) < a1) = false := decide_eq_false c6
   clear c6
   have H' := ak_ H
   clear H
   go_wp2
   repeat (go_quiet (fail); try go_wp2)
   go_loopg [7, 22] kj2 (fun kq v7 v22 w' => ∃ (x7_2 : Int) (x22_2 : Int), v7 = .int .u64 x7_2 ∧ v22 = .int .i64 x22_2 ∧ Aside0 (pack_TakeNumber.l0 kq a0 a1 x7_2 a1 x22_2 = some (r1, r2, r3)) ∧ Aside0 (kq ≤ kj2) ∧ Drawn0 w w')
   case atStart => exact ⟨(0), (0), (by first | rfl | (simp; done) | (simp [*]; done)), (by first | rfl | (simp; done) | (simp [*]; done)), H', ⟨Nat.le_refl _⟩, by repeat (first | exact Drawn0.refl _ | apply Drawn0.step)⟩
   case round =>
    clear H'
    try clear c2
    try clear p2
    try clear c4
    try clear c4b0
    try clear c5
    try clear c6
    try clear c6b0
    try clear p2
    obtain ⟨x7_2, x22_2, rfl, rfl, HA, HK2, ⟨m2, rfl⟩⟩ := hrel
    cases gk with
    | zero => exact absurd HA.out (by simp [pack_TakeNumber.l0])
    | succ k2 =>
     have H := HA.out
     clear HA
     simp only [pack_TakeNumber.l0] at H
     by_cases c7 : x22_2 < a1
     ·rw [if_pos c7] at H
      have c7b0 : decide (x22_2 < a1) = true := decide_eq_true c7
      clear c7
      by_cases c8 : 0 ≤ x22_2
      ·rw [if_pos c8] at H
       have c8b0 : decide (0 ≤ x22_2) = true := decide_eq_true c8
       clear c8
       by_cases c9 : x22_2 < (a0.size : Int)
       ·rw [if_pos c9] at H
        have c9b0 : decide (x22_2 < (a0.size : Int)) = true := decide_eq_true c9
        clear c9
        have H' := ak_ H
        clear H
        have p10 : 0 ≤ (x22_2 : Int) := of_decide_eq_true (by first | (with_reducible assumption) | assumption)
        have q10 : x22_2 < (a0.size : Int) := of_decide_eq_true (by first | (with_reducible assumption) | assumption)
        have hx10 := bt_at a0 x22_2
        replace p10 := eq_true p10
        replace q10 := eq_true q10
        go_wp2
        repeat (go_quiet (fail); try go_wp2)
        go_roundg k2
        case measure => have := HJ2.out; have := HK2.out; omega
        case rel => exact ⟨(Go.bits .or .u64 (IntKind.u64.wrap (x7_2 * 256)) (IntKind.u64.wrap (bt a0 x22_2))), (wrap64 (x22_2 + 1)), (by first | rfl | (simp; done) | (simp [*]; done)), (by first | rfl | (simp; done) | (simp [*]; done)), H', ⟨by have := HJ2.out; have := HK2.out; omega⟩, by repeat (first | exact Drawn0.refl _ | apply Drawn0.step)⟩
       rw [if_neg c9] at H
       exact absurd H (by simp)
      rw [if_neg c8] at H
      exact absurd H (by simp)
     rw [if_neg c7] at H
     have c7b0 : decide (x22_2 < a1) = false := decide_eq_false c7
     clear c7
     by_cases c11 : 0 ≤ a1
     ·rw [if_pos c11] at H
      have c11b0 := eq_true c11
      have c11b1 : decide (0 ≤ a1) = true := decide_eq_true c11
      clear c11
      by_cases c12 : a1 ≤ (a0.size : Int)
      ·rw [if_pos c12] at H
       have c12b0 := eq_true c12
       have c12b1 : decide (a1 ≤ (a0.size : Int)) = true := decide_eq_true c12
       clear c12
       simp only [Option.some.injEq, Prod.mk.injEq] at H
       obtain ⟨rfl, rfl, rfl⟩ := H
       go_wp2
       repeat (go_quiet (fail); try go_wp2)
       go_ret3
       exact ⟨by first | rfl | (simp; done) | (simp [*]; done), by repeat (first | exact Drawn0.refl _ | apply Drawn0.step)⟩
      rw [if_neg c12] at H
      exact absurd H (by simp)
     rw [if_neg c11] at H
     exact absurd H (by simp)
def dirs_number.f (k : Nat) (a0 : ByteArray) : Option (Int) := (pack_TakeNumber.f k a0 4).bind fun bt173 => (if bt173.2.2 = 0 then (if bt173.2.1.toList = ([] : List UInt8) then (if bt173.1 ≤ 1 then (some 0) else (some ((bt173.1) % 4294967296))) else (some 0)) else (some 0))
theorem dirs_number.mono : ∀ a0 k, LeO (dirs_number.f k a0) (dirs_number.f (k + 1) a0) := by
 intro a0 k
 unfold dirs_number.f
 repeat' first
   | (with_reducible exact pack_TakeNumber.mono _ _ _)
   | (with_reducible exact LeO.refl _)
   | (with_reducible exact LeO.none _)
   | (with_reducible refine LeO.ite ?_ ?_)
   | (with_reducible refine LeO.bind ?_ (fun _ => ?_))
   | exact pack_TakeNumber.mono _ _ _
   | exact LeO.none _
   | refine LeO.ite ?_ ?_
   | refine LeO.bind ?_ (fun _ => ?_)
set_option maxHeartbeats 8000000 in
set_option maxRecDepth 100000 in
theorem dirs_number.calls (k : Nat) (a0 : ByteArray) (r : Int) (w : World) (h : dirs_number.f k a0 = some r) :
  Calls Tryz.prog 132 #[.string a0] w fun e w' => e = .returned (.int .u32 r) ∧ Drawn0 w w' := by
 have H : ((pack_TakeNumber.f k a0 4).bind fun bt173 => (if bt173.2.2 = 0 then (if bt173.2.1.toList = ([] : List UInt8) then (if bt173.1 ≤ 1 then (some 0) else (some ((bt173.1) % 4294967296))) else (some 0)) else (some 0))) = some r := h
 clear h
 replace H := Option.bind_eq_some_iff.mp H
 obtain ⟨⟨t173, t174, t175⟩, A20, H⟩ := H
 replace H : (if t175 = 0 then (if t174.toList = ([] : List UInt8) then (if t173 ≤ 1 then (some 0) else (some ((t173) % 4294967296))) else (some 0)) else (some 0)) = some r := H
 have A2 := ak_ A20
 clear A20
 by_cases c3 : t175 = 0
 ·rw [if_pos c3] at H
  have c3b0 : (t175 == 0) = true := beq_iff_eq.mpr c3
  have c3b1 : (t175 != 0) = false := bne_eq_false_iff_eq.mpr c3
  clear c3
  by_cases c4 : t174.toList = ([] : List UInt8)
  ·rw [if_pos c4] at H
   have c4b0 : (t174.toList == ([] : List UInt8)) = true := beq_iff_eq.mpr c4
   have c4b1 : (t174.toList != ([] : List UInt8)) = false := bne_eq_false_iff_eq.mpr c4
   clear c4
   by_cases c5 : t173 ≤ 1
   ·rw [if_pos c5] at H
    have c5b0 : decide (t173 ≤ 1) = true := decide_eq_true c5
    clear c5
    obtain rfl := Option.some.inj H
    go_enter Tryz.func132, Tryz.ntmps132
    go_wp2_with (first | ((with_reducible refine gate_callee (f := 60) rfl ?_); refine gl_ (some 8) Tryz.func60 #[.string a0, .int .i64 4] ?_; (with_reducible refine (pack_TakeNumber.calls k a0 4 t173 t174 t175 _ A2.out).mono ?_); rintro e w' ⟨rfl, ⟨nd, rfl⟩⟩; refine ⟨_, rfl, ?_⟩))
    go_ret
    exact ⟨by first | rfl | (simp; done) | (simp [*]; done), by repeat (first | exact Drawn0.refl _ | apply Drawn0.step)⟩
   rw [if_neg c5] at H
   have c5b0 : decide (t173 ≤ 1) = false := decide_eq_false c5
   clear c5
   obtain rfl := Option.some.inj H
   go_enter Tryz.func132, Tryz.ntmps132
   go_wp2_with (first | ((with_reducible refine gate_callee (f := 60) rfl ?_); refine gl_ (some 8) Tryz.func60 #[.string a0, .int .i64 4] ?_; (with_reducible refine (pack_TakeNumber.calls k a0 4 t173 t174 t175 _ A2.out).mono ?_); rintro e w' ⟨rfl, ⟨nd, rfl⟩⟩; refine ⟨_, rfl, ?_⟩))
   go_ret
   exact ⟨by first | rfl | (simp; done) | (simp [*]; done), by repeat (first | exact Drawn0.refl _ | apply Drawn0.step)⟩
  rw [if_neg c4] at H
  have c4b0 : (t174.toList == ([] : List UInt8)) = false := beq_eq_false_iff_ne.mpr c4
  have c4b1 : (t174.toList != ([] : List UInt8)) = true := bne_iff_ne.mpr c4
  obtain rfl := Option.some.inj H
  go_enter Tryz.func132, Tryz.ntmps132
  go_wp2_with (first | ((with_reducible refine gate_callee (f := 60) rfl ?_); refine gl_ (some 8) Tryz.func60 #[.string a0, .int .i64 4] ?_; (with_reducible refine (pack_TakeNumber.calls k a0 4 t173 t174 t175 _ A2.out).mono ?_); rintro e w' ⟨rfl, ⟨nd, rfl⟩⟩; refine ⟨_, rfl, ?_⟩))
  go_ret
  exact ⟨by first | rfl | (simp; done) | (simp [*]; done), by repeat (first | exact Drawn0.refl _ | apply Drawn0.step)⟩
 rw [if_neg c3] at H
 have c3b0 : (t175 == 0) = false := beq_eq_false_iff_ne.mpr c3
 have c3b1 : (t175 != 0) = true := bne_iff_ne.mpr c3
 obtain rfl := Option.some.inj H
 go_enter Tryz.func132, Tryz.ntmps132
 go_wp2_with (first | ((with_reducible refine gate_callee (f := 60) rfl ?_); refine gl_ (some 8) Tryz.func60 #[.string a0, .int .i64 4] ?_; (with_reducible refine (pack_TakeNumber.calls k a0 4 t173 t174 t175 _ A2.out).mono ?_); rintro e w' ⟨rfl, ⟨nd, rfl⟩⟩; refine ⟨_, rfl, ?_⟩))
 go_ret
 exact ⟨by first | rfl | (simp; done) | (simp [*]; done), by repeat (first | exact Drawn0.refl _ | apply Drawn0.step)⟩
end Go.Proofs.YtfkofbabeghgkaaGreat.Z
end

section
namespace Go.Proofs.YtfkofbabeghgkaaGreat.Z
attribute [local go_sem ↓] Go.wp_at_zero Go.wp_at_succ
theorem number_wf {k : Nat} {s : ByteArray} {t : Int} (h : dirs_number.f k s = some t) : 0 ≤ t ∧ t < 4294967296 := by
 unfold dirs_number.f at h
 obtain ⟨b, _, h⟩ := Option.bind_eq_some_iff.mp h
 split at h
 ·split at h
  ·split at h <;> (have := Option.some.inj h; omega)
  ·have := Option.some.inj h; omega
 ·have := Option.some.inj h; omega
def fitsF (k : Nat) (s : VS) (x : KItm) : Option Bool :=
 if x.f0 = 2 then (dirs_number.f k x.f4).bind fun t => some ((s.ino x.f1).isSome && (s.ino t).isSome && ((s.ino x.f1).getD zI).kd == 1)
 else if x.f0 = 3 then (if 0 ≤ x.f3 ∧ x.f3 < 4294967296 ∧ 0 ≤ ((s.ino x.f1).getD zI).sz ∧ ((s.ino x.f1).getD zI).sz < 4294967296 ∧ x.f4.size ≤ 65536 then
  some ((s.ino x.f1).isSome && ((s.ino x.f1).getD zI).kd == 2 && decide (0 ≤ (x.f4.size : Int) - 1) && decide ((x.f4.size : Int) - 1 < 128) && bt x.f4 ((x.f4.size : Int) - 1) != 0 && decide (x.f3 * 128 + ((x.f4.size : Int) - 1) < ((s.ino x.f1).getD zI).sz)) else none)
 else if x.f0 = 4 then some ((s.ino x.f1).isSome && decide ((x.f4.size : Int) ≤ 64)) else some (s.ino x.f1).isSome
theorem fitsF.mono (s : VS) (x : KItm) : ∀ k, LeO (fitsF k s x) (fitsF (k + 1) s x) := fun k => by
 unfold fitsF
 exact LeO.ite (LeO.bind (dirs_number.mono _ _) (fun _ => LeO.refl _)) (LeO.refl _)
set_option maxRecDepth 100000 in
set_option maxHeartbeats 6400000 in
theorem fits_calls (k : Nat) (g base : Nat) (it : Value) (d m sm : Int) (r : Bool) (s : VS) (x : KItm) (res : Bool) (w : World) (hV : VolR w g base it d m sm r s) (hx : 0 ≤ x.f1 ∧ x.f1 < 4294967296) (h : fitsF k s x = some res) :
  Calls Tryz.prog 134 #[.pointer (some ⟨g, 0, none⟩), .agg #[.int .u8 x.f0, .int .u32 x.f1, .string x.f2, .int .u32 x.f3, .string x.f4]] w fun e w' => e = .returned (.bool res) ∧ Below w.heap.size w w' := by
 obtain ⟨n, hn⟩ : ∃ n, n = (s.ino x.f1).getD zI := ⟨_, rfl⟩
 obtain ⟨b, hs⟩ : ∃ b, b = (s.ino x.f1).isSome := ⟨_, rfl⟩
 unfold fitsF at h
 rw [← hn, ← hs] at h
 have HH := ak_ h
 clear h
 have HV := ak_ hV
 have HX := ak_ hx
 have HN := ak_ hn
 have HS := ak_ hs
 clear hV hx hn hs
 go_enter Tryz.func134, Tryz.ntmps134
 go_wp2_with ((with_reducible refine gate_dst (N := 3) rfl ?_); refine bx_ (N := 3) (cs := #[.int .u8 x.f0, .int .u32 x.f1, .string x.f2, .int .u32 x.f3, .string x.f4]) (t := 178) ?_; intro gx hgx w1 hx1 hb1; have X1 := ak_ hx1; have V1 := ak_ (HV.out.below hb1); have B1 := ak_ hb1; have NG := ak_ hgx; clear hx1 hb1 hgx)
 obtain ⟨va, bi, bu, hG, hA, hI, hU, hbi, hbu, hne, hgb, hok⟩ := V1.out
 have GB := ak_ hG
 have MI := ak_ hI
 clear hA hU hI hbi hbu hne hgb hok
 have q6 : w1.cell? ⟨g, 6, none⟩ = some (.map (some bi)) := (blk_cell hG 6).trans rfl
 have x1 : w1.cell? ⟨gx, 1, none⟩ = some (.int .u32 x.f1) := (blk_cell X1.out 1).trans rfl
 have l1 : (Instr.lookup 148 (.map (some bi)) (.int .u32 x.f1) true).run Tryz.prog w1 = .ok (.tuple #[inoV n, .bool b]) w1 := lookB MI.out HX.out HN.out HS.out
 clear hG
 refine start_ (n := 14) (S := (fun w' => w'.cell? ⟨g, 6, none⟩ = some (.map (some bi)) ∧ w'.cell? ⟨gx, 1, none⟩ = some (.int .u32 x.f1) ∧ (Instr.lookup 148 (.map (some bi)) (.int .u32 x.f1) true).run Tryz.prog w' = .ok (.tuple #[.agg #[.int .u8 n.kd, .int .u16 n.md, .int .u32 n.ln, .int .u32 n.sz, .string n.tg], .bool b]) w')) (ds := [12]) #[false, false, false, false, false, false, false, false, false, false, false, false, false, false] (by kernel_rfl) rfl rfl ⟨q6, x1, (lookB (MI.out.move rfl : MapF Tryz.prog 63 w1.drew bi _ _) HX.out HN.out HS.out)⟩ (fun hHeld => ?_)
 clear q6 x1 l1
 refine pu_ 0 11 ?_
 refine pu_ 1 12 ?_
 refine pu_ 2 13 ?_
 refine tk3_ 3 14 ?_
 refine pu_ 4 15 ?_
 refine pu_ 5 16 ?_
 refine tk3_ 6 17 ?_
 refine tk3_ 7 18 ?_
 refine pu_ 8 10 ?_
 refine pu_ 9 19 ?_
 refine pu_ 10 20 ?_
 refine on_ 11 5 (fun K hK => ?_)
 refine box_step (N := 5) (cs := #[.int .u8 0, .int .u16 0, .int .u32 0, .int .u32 0, .string ⟨#[]⟩]) (t := 100) (by rfl) rfl (by first | (go_simp; done) | (go_simp; rfl)) ?_
 intro gn hgn w2 hx2 hb2
 have Z2 := ak_ hx2
 have B2 := ak_ (show Below w1.heap.size w1 w2 from (below_drew1 (Below.refl w1.heap.size w1)).trans hb2)
 have GN := ak_ (show w1.heap.size ≤ gn by rw [hgn]; exact Nat.le_refl _)
 clear hx2 hb2 hgn
 refine hK.out _ _ ⟨(blk_cell (blk_below GB.out B2.out) 6).trans rfl, (blk_cell (blk_below X1.out B2.out) 1).trans rfl, (lookB (MI.out.below B2.out) HX.out HN.out HS.out)⟩ (fun hHeld => ?_)
 clear hK K
 refine nm_ 5 ?_
 refine last_ (i := 12) (N := none) #[true, true, true, true, true, true, true, true, true, true, true, true, true, false] rfl rfl (by kernel_rfl) (by decide) (fun K hK => ?_)
 refine var_store_step (cs := #[.int .u8 n.kd, .int .u16 n.md, .int .u32 n.ln, .int .u32 n.sz, .string n.tg]) (n := 5) (by rfl) (.tmp 5) (.tmp 19) rfl rfl rfl rfl (by kernel_rfl) Z2.out rfl rfl rfl ?_
 intro w3 hx3 hb3
 have Z3 := ak_ hx3
 have B3 := ak_ (hb3 _ _ B2.out GN.out)
 refine hK.out _ _ ?_
 clear hK K hx3 hb3 Z2
 refine pu_ 13 6 ?_
 refine done_ (by kernel_rfl) ?_
 have X3 := ak_ (blk_below X1.out B3.out)
 have G3 := ak_ (blk_below GB.out B3.out)
 have M3 := ak_ (MI.out.below B3.out)
 have BE := ak_ (below_step B1.out B3.out)
 have h := HH.out
 clear hHeld GB MI X1 B1 HH B2 GN NG
 have k0 : w3.cell? ⟨gx, 0, none⟩ = some (.int .u8 x.f0) := (blk_cell X3.out 0).trans rfl
 by_cases hk2 : x.f0 = 2
 ·rw [if_pos hk2] at h
  have e2 : (x.f0 == 2) = true := beq_iff_eq.2 hk2
  obtain ⟨t, ht, h⟩ := Option.bind_eq_some_iff.mp h
  have htw := ak_ (number_wf ht)
  have HT := ak_ ht
  obtain ⟨n2, hn2⟩ : ∃ n2, n2 = (s.ino t).getD zI := ⟨_, rfl⟩
  obtain ⟨c, hc⟩ : ∃ c, c = (s.ino t).isSome := ⟨_, rfl⟩
  rw [← hc] at h
  have HR := Option.some.inj h
  have HN2 := ak_ hn2
  have HC2 := ak_ hc
  clear h ht hk2 hn2 hc
  have k4 : w3.cell? ⟨gx, 4, none⟩ = some (.string x.f4) := (blk_cell X3.out 4).trans rfl
  have q6 : w3.cell? ⟨g, 6, none⟩ = some (.map (some bi)) := (blk_cell G3.out 6).trans rfl
  go_wp2
  clear k0 e2
  refine start_ (n := 14) (S := (fun w' => w'.cell? ⟨g, 6, none⟩ = some (.map (some bi)) ∧ w'.cell? ⟨gx, 4, none⟩ = some (.string x.f4) ∧ (Instr.lookup 148 (.map (some bi)) (.int .u32 t) true).run Tryz.prog w' = .ok (.tuple #[.agg #[.int .u8 n2.kd, .int .u16 n2.md, .int .u32 n2.ln, .int .u32 n2.sz, .string n2.tg], .bool c]) w')) (ds := [12]) #[false, false, false, false, false, false, false, false, false, false, false, false, false, false] (by kernel_rfl) rfl rfl ⟨q6, k4, (lookB (M3.out.move rfl : MapF Tryz.prog 63 w3.drew bi _ _) htw.out HN2.out HC2.out)⟩ (fun hHeld => ?_)
  clear q6 k4
  refine pu_ 0 27 ?_
  refine pu_ 1 28 ?_
  refine pu_ 2 29 ?_
  refine tk3_ 3 30 ?_
  refine pu_ 4 31 ?_
  refine tk3_ 5 32 ?_
  refine two_ (i := 6) (j := 11) (Ni := some 33) (Nj := some 7) #[true, true, true, true, true, true, true, false, false, false, false, false, false, false] #[true, true, true, true, true, true, false, false, false, false, false, true, false, false] rfl rfl rfl rfl (by kernel_rfl) (by decide) (by decide) (fun K hK => ?_) (fun K hK => ?_)
  ·refine goes_ Tryz.func132 (by kernel_rfl) rfl #[.string x.f4] (by rfl) rfl rfl (by (try simp only [List.map_toArray, List.map_cons, List.map_nil]); first | done | rfl) ?_
   refine (dirs_number.calls k x.f4 t _ HT.out).mono ?_
   rintro e w4 ⟨rfl, hd⟩
   have B4 := ak_ (show Below w3.heap.size w3 w4 from below_then (show Aside0 (Below w3.heap.size w3 w3.drew) from ⟨below_drew1 (Below.refl _ _)⟩).out (show Aside0 (Below w3.heap.size w3 w3.drew) from ⟨below_drew1 (Below.refl _ _)⟩).out.size hd.below)
   clear hd
   refine ⟨_, rfl, ?_⟩
   refine hK.out _ _ ⟨(blk_cell (blk_below G3.out B4.out) 6).trans rfl, (blk_cell (blk_below X3.out B4.out) 4).trans rfl, (lookB (M3.out.below B4.out) htw.out HN2.out HC2.out)⟩ (fun hHeld => ?_)
   clear hK K
   refine nm_ 33 ?_
   refine tk3_ 7 34 ?_
   refine pu_ 8 26 ?_
   refine pu_ 9 35 ?_
   refine pu_ 10 36 ?_
   refine on_ 11 7 (fun K hK => ?_)
   refine box_step (N := 7) (cs := #[.int .u8 0, .int .u16 0, .int .u32 0, .int .u32 0, .string ⟨#[]⟩]) (t := 100) (by rfl) rfl (by first | (go_simp; done) | (go_simp; rfl)) ?_
   intro gm hgm w5 hx2 hb2
   have Z5 := ak_ hx2
   have B5 := ak_ (show Below w3.heap.size w3 w5 from below_then B4.out B4.out.size hb2)
   have GM := ak_ (show w3.heap.size ≤ gm by rw [hgm]; exact B4.out.size)
   clear hx2 hb2 hgm
   refine hK.out _ _ ⟨(blk_cell (blk_below G3.out B5.out) 6).trans rfl, (blk_cell (blk_below X3.out B5.out) 4).trans rfl, (lookB (M3.out.below B5.out) htw.out HN2.out HC2.out)⟩ (fun hHeld => ?_)
   clear hK K
   refine nm_ 7 ?_
   refine last_ (i := 12) (N := none) #[true, true, true, true, true, true, true, true, true, true, true, true, true, false] rfl rfl (by kernel_rfl) (by decide) (fun K hK => ?_)
   refine var_store_step (cs := #[.int .u8 n2.kd, .int .u16 n2.md, .int .u32 n2.ln, .int .u32 n2.sz, .string n2.tg]) (n := 5) (by rfl) (.tmp 7) (.tmp 35) rfl rfl rfl rfl (by kernel_rfl) (Z5.out) rfl rfl rfl ?_
   intro w6 hx3 hb3
   have B6 := ak_ (hb3 _ _ B5.out GM.out)
   refine hK.out _ _ ?_
   clear hK K hx3 hb3
   refine pu_ 13 8 ?_
   refine done_ (by kernel_rfl) ?_
   clear hHeld
   have Z9 := ak_ (blk_below Z3.out B6.out)
   have B9 := ak_ (below_step BE.out B6.out)
   have n0 : w6.cell? ⟨gn, 0, none⟩ = some (.int .u8 n.kd) := (blk_cell Z9.out 0).trans rfl
   cases b with
   | false =>
    obtain rfl : res = false := by rw [← HR]; rfl
    go_wp2
    go_ret
    exact ⟨rfl, B9.out⟩
   | true =>
    cases c with
    | false =>
     obtain rfl : res = false := by rw [← HR]; rfl
     go_wp2
     go_ret
     exact ⟨rfl, B9.out⟩
    | true =>
     obtain rfl : res = (n.kd == 1) := by rw [← HR]; rfl
     go_wp2
     go_ret
     exact ⟨rfl, B9.out⟩
  ·refine box_step (N := 7) (cs := #[.int .u8 0, .int .u16 0, .int .u32 0, .int .u32 0, .string ⟨#[]⟩]) (t := 100) (by rfl) rfl (by first | (go_simp; done) | (go_simp; rfl)) ?_
   intro gm hgm w4 hx2 hb2
   have Z4 := ak_ hx2
   have B4 := ak_ (show Below w3.heap.size w3 w4 from below_then (show Aside0 (Below w3.heap.size w3 w3.drew) from ⟨below_drew1 (Below.refl _ _)⟩).out (show Aside0 (Below w3.heap.size w3 w3.drew) from ⟨below_drew1 (Below.refl _ _)⟩).out.size hb2)
   have GM := ak_ (show w3.heap.size ≤ gm by rw [hgm]; exact (show Aside0 (Below w3.heap.size w3 w3.drew) from ⟨below_drew1 (Below.refl _ _)⟩).out.size)
   clear hx2 hb2 hgm
   refine hK.out _ _ ⟨(blk_cell (blk_below G3.out B4.out) 6).trans rfl, (blk_cell (blk_below X3.out B4.out) 4).trans rfl, (lookB (M3.out.below B4.out) htw.out HN2.out HC2.out)⟩ (fun hHeld => ?_)
   clear hK K
   refine nm_ 7 ?_
   refine on_ 6 33 (fun K hK => ?_)
   refine goes_ Tryz.func132 (by kernel_rfl) rfl #[.string x.f4] (by rfl) rfl rfl (by (try simp only [List.map_toArray, List.map_cons, List.map_nil]); first | done | rfl) ?_
   refine (dirs_number.calls k x.f4 t _ HT.out).mono ?_
   rintro e w5 ⟨rfl, hd⟩
   have BD5 := ak_ hd.below
   have B5 := ak_ (show Below w3.heap.size w3 w5 from below_then B4.out B4.out.size hd.below)
   clear hd
   refine ⟨_, rfl, ?_⟩
   have Z5 := ak_ (show w5.heap[gm]? = some (.cells #[.int .u8 0, .int .u16 0, .int .u32 0, .int .u32 0, .string ⟨#[]⟩] 100 (0, 0)) from (blk_below (w := w4) Z4.out BD5.out))
   refine hK.out _ _ ⟨(blk_cell (blk_below G3.out B5.out) 6).trans rfl, (blk_cell (blk_below X3.out B5.out) 4).trans rfl, (lookB (M3.out.below B5.out) htw.out HN2.out HC2.out)⟩ (fun hHeld => ?_)
   clear hK K
   refine nm_ 33 ?_
   refine tk3_ 7 34 ?_
   refine pu_ 8 26 ?_
   refine pu_ 9 35 ?_
   refine pu_ 10 36 ?_
   refine last_ (i := 12) (N := none) #[true, true, true, true, true, true, true, true, true, true, true, true, true, false] rfl rfl (by kernel_rfl) (by decide) (fun K hK => ?_)
   refine var_store_step (cs := #[.int .u8 n2.kd, .int .u16 n2.md, .int .u32 n2.ln, .int .u32 n2.sz, .string n2.tg]) (n := 5) (by rfl) (.tmp 7) (.tmp 35) rfl rfl rfl rfl (by kernel_rfl) (Z5.out) rfl rfl rfl ?_
   intro w6 hx3 hb3
   have B6 := ak_ (hb3 _ _ B5.out GM.out)
   refine hK.out _ _ ?_
   clear hK K hx3 hb3
   refine pu_ 13 8 ?_
   refine done_ (by kernel_rfl) ?_
   clear hHeld
   have Z9 := ak_ (blk_below Z3.out B6.out)
   have B9 := ak_ (below_step BE.out B6.out)
   have n0 : w6.cell? ⟨gn, 0, none⟩ = some (.int .u8 n.kd) := (blk_cell Z9.out 0).trans rfl
   cases b with
   | false =>
    obtain rfl : res = false := by rw [← HR]; rfl
    go_wp2
    go_ret
    exact ⟨rfl, B9.out⟩
   | true =>
    cases c with
    | false =>
     obtain rfl : res = false := by rw [← HR]; rfl
     go_wp2
     go_ret
     exact ⟨rfl, B9.out⟩
    | true =>
     obtain rfl : res = (n.kd == 1) := by rw [← HR]; rfl
     go_wp2
     go_ret
     exact ⟨rfl, B9.out⟩
 ·rw [if_neg hk2] at h
  have e2 : (x.f0 == 2) = false := beq_eq_false_iff_ne.2 hk2
  clear hk2
  by_cases hk3 : x.f0 = 3
  ·rw [if_pos hk3] at h
   have e3 : (x.f0 == 3) = true := beq_iff_eq.2 hk3
   split at h
   case isFalse => cases h
   case isTrue hq =>
   have HC := Option.some.inj h
   clear h hk3
   have x0_ : IntKind.i64.wrap ((x.f4.size : Int) - 1) = (x.f4.size : Int) - 1 := by rw [IntKind.wrap_i64]; omega
   obtain ⟨la, hla⟩ : ∃ la, la = (x.f4.size : Int) - 1 := ⟨_, rfl⟩
   rw [← hla] at HC
   have x0_ : IntKind.i64.wrap ((x.f4.size : Int) - 1) = la := x0_.trans hla.symm
   have y0_ : (x.f4.size : Int) - 1 = la := hla.symm
   have x1_ : IntKind.i64.wrap x.f3 = x.f3 := by rw [IntKind.wrap_i64]; omega
   have x2_ : IntKind.i64.wrap (x.f3 * 128) = x.f3 * 128 := by rw [IntKind.wrap_i64]; omega
   have x4_ : IntKind.i64.wrap n.sz = n.sz := by rw [IntKind.wrap_i64]; omega
   have hle : la < (x.f4.size : Int) := by omega
   have hla2 : la ≤ 65536 := by omega
   replace HC := ak_ HC
   clear hla
   have k3 : w3.cell? ⟨gx, 3, none⟩ = some (.int .u32 x.f3) := (blk_cell X3.out 3).trans rfl
   have k4 : w3.cell? ⟨gx, 4, none⟩ = some (.string x.f4) := (blk_cell X3.out 4).trans rfl
   have n0 : w3.cell? ⟨gn, 0, none⟩ = some (.int .u8 n.kd) := (blk_cell Z3.out 0).trans rfl
   have n3 : w3.cell? ⟨gn, 3, none⟩ = some (.int .u32 n.sz) := (blk_cell Z3.out 3).trans rfl
   cases b with
   | false =>
    obtain rfl : res = false := by rw [← HC.out]; rfl
    go_wp2
    go_ret
    exact ⟨rfl, BE.out⟩
   | true =>
    by_cases c1 : n.kd = 2
    case neg =>
     have z1 : (n.kd == 2) = false := beq_eq_false_iff_ne.2 c1
     obtain rfl : res = false := by rw [← HC.out, z1]; rfl
     clear c1
     go_wp2
     go_ret
     exact ⟨rfl, BE.out⟩
    have z1 : (n.kd == 2) = true := beq_iff_eq.2 c1
    clear c1
    by_cases c2 : 0 ≤ la
    case neg =>
     have z2 : decide (0 ≤ la) = false := decide_eq_false c2
     obtain rfl : res = false := by rw [← HC.out, z1, z2]; rfl
     clear c2
     go_wp2
     go_ret
     exact ⟨rfl, BE.out⟩
    have z2 : decide (0 ≤ la) = true := decide_eq_true c2
    have p0 : ((0 : Int) ≤ la) = True := eq_true c2
    have p1 : (la < (x.f4.size : Int)) = True := eq_true hle
    by_cases c3 : la < 128
    case neg =>
     have z3 : decide (la < 128) = false := decide_eq_false c3
     obtain rfl : res = false := by rw [← HC.out, z1, z2, z3]; rfl
     clear c3
     go_wp2
     go_ret
     exact ⟨rfl, BE.out⟩
    have z3 : decide (la < 128) = true := decide_eq_true c3
    have hbt := bt_at x.f4 la
    clear c3
    by_cases c4 : bt x.f4 la = 0
    case pos =>
     have z4 : (bt x.f4 la != 0) = false := bne_eq_false_iff_eq.2 c4
     obtain rfl : res = false := by rw [← HC.out, z1, z2, z3, z4]; rfl
     clear c4
     go_wp2
     go_ret
     exact ⟨rfl, BE.out⟩
    have z4 : (bt x.f4 la != 0) = true := bne_iff_ne.2 c4
    have x3_ : IntKind.i64.wrap (x.f3 * 128 + la) = x.f3 * 128 + la := by rw [IntKind.wrap_i64]; omega
    obtain rfl : res = decide (x.f3 * 128 + la < n.sz) := by rw [← HC.out, z1, z2, z3, z4]; simp
    clear c4
    go_wp2
    go_ret
    exact ⟨rfl, BE.out⟩
  ·rw [if_neg hk3] at h
   have e3 : (x.f0 == 3) = false := beq_eq_false_iff_ne.2 hk3
   clear hk3
   by_cases hk4 : x.f0 = 4
   ·rw [if_pos hk4] at h
    have e4 : (x.f0 == 4) = true := beq_iff_eq.2 hk4
    obtain rfl := Option.some.inj h
    clear h hk4
    have k4 : w3.cell? ⟨gx, 4, none⟩ = some (.string x.f4) := (blk_cell X3.out 4).trans rfl
    cases b with
    | false =>
     go_wp2
     go_ret
     exact ⟨rfl, BE.out⟩
    | true =>
     go_wp2
     go_ret
     exact ⟨rfl, BE.out⟩
   ·rw [if_neg hk4] at h
    have e4 : (x.f0 == 4) = false := beq_eq_false_iff_ne.2 hk4
    obtain rfl := Option.some.inj h
    clear h hk4
    go_wp2
    go_ret
    exact ⟨rfl, BE.out⟩
end Go.Proofs.YtfkofbabeghgkaaGreat.Z
end

section
namespace Go.Proofs.YtfkofbabeghgkaaGreat.Z
def rootedL (up : Int → Option (Int × Int)) : Nat → Int → Bool
  | 0, i => i == 1
  | n + 1, i => if i = 1 then true else rootedL up n ((up i).getD (0, 0)).2
theorem up_wf {s : VS} (h : s.Ok) (i : Int) : 0 ≤ ((s.up i).getD (0, 0)).2 ∧ ((s.up i).getD (0, 0)).2 < 4294967296 := by
  cases hq : s.up i with
  | none => exact ⟨by decide, by decide⟩
  | some p => exact h.1 i p hq
set_option maxRecDepth 100000 in
set_option maxHeartbeats 3200000 in
theorem rooted_calls (g base : Nat) (it : Value) (d m sm : Int) (r : Bool) (s : VS) (i : Int) (w : World) (hV : VolR w g base it d m sm r s) (hi : 0 ≤ i ∧ i < 4294967296) :
    Calls Tryz.prog 110 #[.pointer (some ⟨g, 0, none⟩), .int .u32 i] w fun e w' => e = .returned (.bool (rootedL s.up s.all.length i)) ∧ Below w.heap.size w w' := by
  obtain ⟨va, bi, bu, hG, hA, hI, hU, hbi, hbu, hne, hgb, hok⟩ := hV
  obtain ⟨A, c, rfl⟩ := Kd.R_slice hA
  have hl := hok.2.2.1
  have GB := ak_ hG
  have MU := ak_ hU
  have HI := ak_ hi
  have HL := ak_ hl
  have q5 : w.cell? ⟨g, 5, none⟩ = some (.slice A s.all.length c) := (blk_cell hG 5).trans rfl
  have HOK := ak_ hok
  clear hG hA hI hU hbi hbu hne hgb hok hi hl
  go_enter Tryz.func110, Tryz.ntmps110
  go_wp2
  clear q5
  go_loopw [1, 10] (fun vn vi wr => ∃ (x j : Int), vi = .int .i64 x ∧ vn = .int .u32 j ∧ Aside0 (0 ≤ x ∧ x ≤ s.all.length) ∧ Aside0 (0 ≤ j ∧ j < 4294967296) ∧ Aside0 (Below w.heap.size w wr) ∧ Aside0 (rootedL s.up (s.all.length - x.toNat) j = rootedL s.up s.all.length i)) (fun _ vi _ => s.all.length - (intOf vi).toNat)
  case atStart => exact ⟨0, i, rfl, rfl, ⟨by omega⟩, HI, ⟨Below.refl _ _⟩, ⟨rfl⟩⟩
  case round =>
    obtain ⟨x, j, rfl, rfl, HX, HJ, HB, HR⟩ := hrel
    obtain ⟨hx0, hx1⟩ := HX.out
    by_cases hlt : x < (s.all.length : Int)
    · have hlt2 : decide (x < (s.all.length : Int)) = true := decide_eq_true hlt
      have hR := HR.out
      rw [show s.all.length - x.toNat = (s.all.length - (x + 1).toNat) + 1 by omega, rootedL] at hR
      have G1 := ak_ (blk_below GB.out HB.out)
      have ew : wrap64 (x + 1) = x + 1 := by have := HL.out; unfold wrap64; omega
      have EW := ak_ ew
      have LT := ak_ hlt
      clear ew
      by_cases h1 : j = 1
      · rw [if_pos h1] at hR
        have e1 : (j == 1) = true := beq_iff_eq.2 h1
        have HR2 := ak_ hR
        clear h1 hx0 hx1 hlt hR
        go_wp2
        go_ret
        exact ⟨by rw [← HR2.out]; rfl, HB.out⟩
      · rw [if_neg h1] at hR
        have e1 : (j == 1) = false := beq_eq_false_iff_ne.2 h1
        obtain ⟨y, hy⟩ : ∃ y, y = (s.up j).getD (0, 0) := ⟨_, rfl⟩
        rw [← hy] at hR
        have lk := lookW (MU.out.below HB.out) HJ.out hy
        have hyw := ak_ (hy ▸ up_wf HOK.out j)
        have q7 : wr.cell? ⟨g, 7, none⟩ = some (.map (some bu)) := (blk_cell G1.out 7).trans rfl
        have HR2 := ak_ hR
        clear h1 hx0 hx1 hlt hR hy
        go_wp2_with ((with_reducible refine gate_dst (N := 20) rfl ?_); refine Kd.event_run (v := .int .u32 y.2) (w1 := wr) rfl ?hr ?_; (case hr => first | (go_simp; done) | (go_simp; rfl)))
        have hx := HX.out
        have hl := LT.out
        go_roundw
        case rel => exact ⟨x + 1, y.2, by rw [EW.out], rfl, ⟨by omega⟩, hyw, HB, HR2⟩
        case measure =>
          simp [EW.out, intOf]
          omega
    · have hge : decide (x < (s.all.length : Int)) = false := decide_eq_false hlt
      have hR := HR.out
      rw [show s.all.length - x.toNat = 0 by omega, rootedL] at hR
      have HR2 := ak_ hR
      clear hR hlt hx0 hx1
      go_wp2
      go_ret
      exact ⟨by rw [← HR2.out]; rfl, HB.out⟩
def misfitL (k : Nat) (s : VS) : List KItm → Option Bool
  | [] => some false
  | x :: r => (fitsF k s x).bind fun b => if b = true then misfitL k s r else some true
theorem misfitL.mono (s : VS) : ∀ (l : List KItm) (k : Nat), LeO (misfitL k s l) (misfitL (k + 1) s l)
  | [], k => LeO.refl _
  | x :: r, k => by
    unfold misfitL
    exact LeO.bind (fitsF.mono _ _ _) (fun _ => LeO.ite (misfitL.mono s r k) (LeO.refl _))
set_option maxRecDepth 100000 in
set_option maxHeartbeats 1600000 in
theorem misfits_calls (k : Nat) (g base : Nat) (it : Value) (d m sm : Int) (r : Bool) (s : VS) (x : KItm) (res : Bool) (w : World) (hV : VolR w g base it d m sm r s) (hx : 0 ≤ x.f1 ∧ x.f1 < 4294967296) (h : fitsF k s x = some res) :
    Calls Tryz.prog 109 #[.pointer (some ⟨g, 0, none⟩), .agg #[.int .u8 x.f0, .int .u32 x.f1, .string x.f2, .int .u32 x.f3, .string x.f4]] w fun e w' => e = .returned (.bool (!res)) ∧ Below w.heap.size w w' := by
  have HV := ak_ hV
  have HX := ak_ hx
  have H := ak_ h
  have hnot : ∀ (x : Bool) (w : World), (Op.unary .not (.bool x)).run Tryz.prog w = .ok (.bool (!x)) w := fun _ _ => rfl
  clear hV hx h
  go_enter Tryz.func109, Tryz.ntmps109
  go_wp2_with (first
    | ((with_reducible refine gate_dst (N := 3) rfl ?_); refine box_event ?hg (N := 3) ?hd (cs := #[.int .u8 x.f0, .int .u32 x.f1, .string x.f2, .int .u32 x.f3, .string x.f4]) (t := 178) ?hr ?_; (case hd => rfl); (case hg => rfl); (case hr => first | (go_simp; done) | (go_simp; rfl)); intro gx hgx w1 hx1 hb1; have X1 := ak_ hx1; have V1 := ak_ (HV.out.below hb1); have B1 := ak_ hb1; have k0 : w1.cell? ⟨gx, 0, none⟩ = some (.int .u8 x.f0) := (blk_cell X1.out 0).trans rfl; have k1 : w1.cell? ⟨gx, 1, none⟩ = some (.int .u32 x.f1) := (blk_cell X1.out 1).trans rfl; have k2 : w1.cell? ⟨gx, 2, none⟩ = some (.string x.f2) := (blk_cell X1.out 2).trans rfl; have k3 : w1.cell? ⟨gx, 3, none⟩ = some (.int .u32 x.f3) := (blk_cell X1.out 3).trans rfl; have k4 : w1.cell? ⟨gx, 4, none⟩ = some (.string x.f4) := (blk_cell X1.out 4).trans rfl; clear hx1 hb1 hgx)
    | (go_at_call 134; refine (fits_calls k g base it d m sm r s x res _ V1.out HX.out H.out).mono ?_; rintro e w2 ⟨rfl, h2⟩; have B2 := ak_ (below_step B1.out h2); clear h2))
  go_ret
  exact ⟨rfl, B2.out⟩
set_option maxRecDepth 100000 in
set_option maxHeartbeats 3200000 in
theorem kindex_calls (k : Nat) (A : Option Addr) (c : Nat) (g base : Nat) (it : Value) (d m sm : Int) (r : Bool) (s : VS) (res : Bool) (w : World) (hV : VolR w g base it d m sm r s) (hr0 : Kd.C kKept w A s.all.length s.all) (hc0 : s.all.length ≤ c) (h : misfitL k s s.all = some res) :
    Calls Tryz.prog 133 #[.slice A s.all.length c, .func (.func 109) #[.pointer (some ⟨g, 0, none⟩)] #[]] w fun e w' => ∃ i : Int, e = .returned (.int .i64 i) ∧ Aside0 ((0 ≤ i ↔ res = true) ∧ Below w.heap.size w w') := by
  have hmx := Kd.C_max hr0
  have hok := hV.ok
  have HOK := ak_ hok
  have HR := ak_ hr0
  have HB := ak_ hV
  have H0 := ak_ h
  have hl := hok.2.2.1
  clear hr0 hV h hc0 hok hmx
  have HL := ak_ hl
  clear hl
  go_enter Tryz.func133, Tryz.ntmps133
  go_wp2
  go_loopw [8] (fun i wr => ∃ x : Int, i = .int .i64 x ∧ Aside0 (0 ≤ x ∧ x ≤ s.all.length) ∧ Aside0 (Below w.heap.size w wr) ∧ Aside0 (misfitL k s (s.all.drop x.toNat) = some res)) (fun i _ => s.all.length - (intOf i).toNat)
  case atStart => exact ⟨0, rfl, ⟨by omega⟩, ⟨Below.refl _ _⟩, ⟨H0.out⟩⟩
  case round =>
    obtain ⟨x, rfl, HX, HBW, HF⟩ := hrel
    obtain ⟨hx0, hx1⟩ := HX.out
    by_cases hlt : x < s.all.length
    · obtain ⟨ad, hA, q0, q1, q2, q3, q4⟩ := at_Kept HR.out x hx0 hlt
      subst hA
      replace q0 := (HBW.out.cell (World.block_lt_of_cell? w _ q0)).trans q0
      replace q1 := (HBW.out.cell (World.block_lt_of_cell? w _ q1)).trans q1
      replace q2 := (HBW.out.cell (World.block_lt_of_cell? w _ q2)).trans q2
      replace q3 := (HBW.out.cell (World.block_lt_of_cell? w _ q3)).trans q3
      replace q4 := (HBW.out.cell (World.block_lt_of_cell? w _ q4)).trans q4
      have hlt2 : decide (x < (s.all.length : Int)) = true := decide_eq_true hlt
      have p0 := eq_true hx0
      have p1 := eq_true hlt
      obtain ⟨e, he⟩ : ∃ e, e = rd_Kept s.all x := ⟨_, rfl⟩
      have hF := HF.out
      have hd := drop_Kept hx0 hlt
      rw [hd, misfitL, ← he] at hF
      obtain ⟨b, hb, hF⟩ := Option.bind_eq_some_iff.mp hF
      rw [← he] at q0 q1 q2 q3 q4
      have hmem : e ∈ s.all := List.mem_of_mem_drop (by rw [hd, ← he]; exact List.mem_cons_self : e ∈ s.all.drop x.toNat)
      have HE := ak_ (HOK.out.2.1 e hmem)
      have HC := ak_ hb
      have ew : wrap64 (x + 1) = x + 1 := by have := HL.out; unfold wrap64; omega
      have EW := ak_ ew
      clear hb hd hx0 hx1 hlt he hmem ew
      cases b with
      | false =>
        rw [if_neg (by decide)] at hF
        have HG := ak_ hF
        clear hF
        go_wp2_with (go_at_call 109; refine (misfits_calls k g base it d m sm r s e false _ (HB.out.below HBW.out) HE.out HC.out).mono ?_; rintro e_ w1 ⟨rfl, h1⟩; have HB1 := ak_ h1; clear h1)
        go_ret
        have hr := Option.some.inj HG.out
        have hx := HX.out
        exact ⟨x, rfl, ⟨⟨fun _ => hr.symm, fun _ => hx.1⟩, below_step HBW.out HB1.out⟩⟩
      | true =>
        rw [if_pos rfl] at hF
        have HG := ak_ hF
        clear hF
        go_wp2_with (go_at_call 109; refine (misfits_calls k g base it d m sm r s e true _ (HB.out.below HBW.out) HE.out HC.out).mono ?_; rintro e_ w1 ⟨rfl, h1⟩; have HB1 := ak_ h1; clear h1)
        have hx := HX.out
        have hl : x < s.all.length := of_eq_true p1
        go_roundw
        case rel => exact ⟨x + 1, by rw [EW.out], ⟨by omega⟩, ⟨below_step HBW.out HB1.out⟩, HG⟩
        case measure =>
          simp [EW.out, intOf]
          omega
    · have hge : decide (x < (s.all.length : Int)) = false := decide_eq_false hlt
      go_wp2
      go_ret
      have hF := HF.out
      rw [List.drop_eq_nil_of_le (by omega), misfitL] at hF
      have hr := Option.some.inj hF
      refine ⟨-1, rfl, ⟨⟨fun h => absurd h (by decide), fun h => ?_⟩, HBW.out⟩⟩
      rw [← hr] at h
      cases h
set_option maxRecDepth 100000 in
theorem kcontains_calls (k : Nat) (A : Option Addr) (c : Nat) (g base : Nat) (it : Value) (d m sm : Int) (r : Bool) (s : VS) (res : Bool) (w : World) (hV : VolR w g base it d m sm r s) (hr0 : Kd.C kKept w A s.all.length s.all) (hc0 : s.all.length ≤ c) (h : misfitL k s s.all = some res) :
    Calls Tryz.prog 108 #[.slice A s.all.length c, .func (.func 109) #[.pointer (some ⟨g, 0, none⟩)] #[]] w fun e w' => e = .returned (.bool res) ∧ Below w.heap.size w w' := by
  have HC := ak_ (kindex_calls k A c g base it d m sm r s res w hV hr0 hc0 h)
  clear hV hr0 h hc0
  go_enter Tryz.func108, Tryz.ntmps108
  go_wp2_with (go_at_call 133; refine HC.out.mono ?_; rintro e_ w1 ⟨i, rfl, HI⟩)
  go_ret
  have hi := HI.out
  have hE : decide (0 ≤ i) = res := by rw [Bool.eq_iff_iff, decide_eq_true_eq]; exact hi.1
  exact ⟨congrArg (fun b => Ending.returned (.bool b)) hE, hi.2⟩
end Go.Proofs.YtfkofbabeghgkaaGreat.Z
end

section
namespace Go.Proofs
open Go.Shelf
def Tryz.lays103_ren : Go.Shelf.Ren := ⟨fun | 103 => 59 | 210 => 92 | 206 => 118 | n => n, fun | 9 => 9 | 4 => 4 | 24 => 112 | 3 => 3 | n => n, fun | n => n⟩
theorem Tryz.lays103 : Go.Proofs.Lays.n103 Tryz.prog Tryz.lays103_ren := {
  mixed := by kernel_rfl
  f103 := Tryz.func59.trans (congrArg some (by kernel_rfl))
  f206 := Tryz.func118.trans (congrArg some (by kernel_rfl))
  f210 := Tryz.func92.trans (congrArg some (by kernel_rfl))
  t3 := Tryz.underlying3
  a3 := Tryz.isAgg3
  z3 := Tryz.sizeOf3
  v3 := Tryz.zeroValue3
  t4 := Tryz.underlying4
  a4 := Tryz.isAgg4
  z4 := Tryz.sizeOf4
  v4 := Tryz.zeroValue4
  t9 := Tryz.underlying9
  a9 := Tryz.isAgg9
  z9 := Tryz.sizeOf9
  v9 := Tryz.zeroValue9
  t24 := Tryz.underlying112
  a24 := Tryz.isAgg112
  z24 := Tryz.sizeOf112
  v24 := Tryz.zeroValue112 }
open Go.RowKit in
theorem Tryz.strings_CutPrefix (s p : ByteArray) (w : World) :
    Calls Tryz.prog 59 #[.string s, .string p] w fun e w' => e = .returned (.tuple #[.string ⟨(Lib.trimPrefix s.data.toList p.data.toList).toArray⟩, .bool (Lib.hasPrefix s.data.toList p.data.toList)]) ∧ w' = w := Any.strings_CutPrefix Tryz.lays103 s p w
def Tryz.lays129_ren : Go.Shelf.Ren := ⟨fun | 129 => 82 | n => n, fun | 53 => 58 | 3 => 3 | 4 => 4 | 46 => 158 | 5 => 5 | 9 => 9 | n => n, fun | n => n⟩
theorem Tryz.lays129 : Go.Proofs.Lays.n129 Tryz.prog Tryz.lays129_ren := {
  mixed := by kernel_rfl
  f129 := Tryz.func82.trans (congrArg some (by kernel_rfl))
  t3 := Tryz.underlying3
  a3 := Tryz.isAgg3
  z3 := Tryz.sizeOf3
  v3 := Tryz.zeroValue3
  t4 := Tryz.underlying4
  a4 := Tryz.isAgg4
  z4 := Tryz.sizeOf4
  v4 := Tryz.zeroValue4
  t5 := Tryz.underlying5
  a5 := Tryz.isAgg5
  z5 := Tryz.sizeOf5
  v5 := Tryz.zeroValue5
  t9 := Tryz.underlying9
  a9 := Tryz.isAgg9
  z9 := Tryz.sizeOf9
  v9 := Tryz.zeroValue9
  t46 := Tryz.underlying158
  a46 := Tryz.isAgg158
  z46 := Tryz.sizeOf158
  v46 := Tryz.zeroValue158
  t53 := Tryz.underlying58
  a53 := Tryz.isAgg58
  z53 := Tryz.sizeOf58
  v53 := Tryz.zeroValue58 }
theorem Tryz.bits_Len64 (x : Int) (w : World) (h0 : 0 ≤ x) (h1 : x ≤ 18446744073709551615) :
    Calls Tryz.prog 82 #[.int .u64 x] w fun e w' => e = .returned (.int .i64 (Lib.bitLen x.toNat)) ∧ w' = w := Any.bits_Len64 Tryz.lays129 x w h0 h1
def Tryz.lays144_ren : Go.Shelf.Ren := ⟨fun | 144 => 125 | 143 => 139 | 219 => 146 | 217 => 155 | 225 => 156 | 224 => 157 | 267 => 158 | 266 => 166 | 314 => 167 | n => n, fun | 9 => 9 | 4 => 4 | 3 => 3 | 5 => 5 | 46 => 158 | 146 => 218 | 51 => 63 | n => n, fun | 1 => 0 | n => n⟩
theorem Tryz.lays144 : Go.Proofs.Lays.n144 Tryz.prog Tryz.lays144_ren := {
  mixed := by kernel_rfl
  f143 := Tryz.func139.trans (congrArg some (by kernel_rfl))
  f144 := Tryz.func125.trans (congrArg some (by kernel_rfl))
  f217 := Tryz.func155.trans (congrArg some (by kernel_rfl))
  f219 := Tryz.func146.trans (congrArg some (by kernel_rfl))
  f224 := Tryz.func157.trans (congrArg some (by kernel_rfl))
  f225 := Tryz.func156.trans (congrArg some (by kernel_rfl))
  f266 := Tryz.func166.trans (congrArg some (by kernel_rfl))
  f267 := Tryz.func158.trans (congrArg some (by kernel_rfl))
  f314 := Tryz.func167.trans (congrArg some (by kernel_rfl))
  t3 := Tryz.underlying3
  a3 := Tryz.isAgg3
  z3 := Tryz.sizeOf3
  v3 := Tryz.zeroValue3
  t4 := Tryz.underlying4
  a4 := Tryz.isAgg4
  z4 := Tryz.sizeOf4
  v4 := Tryz.zeroValue4
  t5 := Tryz.underlying5
  a5 := Tryz.isAgg5
  z5 := Tryz.sizeOf5
  v5 := Tryz.zeroValue5
  t9 := Tryz.underlying9
  a9 := Tryz.isAgg9
  z9 := Tryz.sizeOf9
  v9 := Tryz.zeroValue9
  t46 := Tryz.underlying158
  a46 := Tryz.isAgg158
  z46 := Tryz.sizeOf158
  v46 := Tryz.zeroValue158
  t51 := Tryz.underlying63
  a51 := Tryz.isAgg63
  z51 := Tryz.sizeOf63
  v51 := Tryz.zeroValue63
  t146 := Tryz.underlying218
  a146 := Tryz.isAgg218
  z146 := Tryz.sizeOf218
  v146 := Tryz.zeroValue218
  g1 := by kernel_rfl }
open Go.RowKit Go.Lib in
theorem Tryz.strings_Contains_one (s : ByteArray) (c : UInt8) (w : World) :
    Calls Tryz.prog 125 #[.string s, .string ⟨#[c]⟩] w fun e w' => e = .returned (.bool (decide (0 ≤ Lib.indexByte s.data.toList c))) ∧ w' = w := Any.strings_Contains_one Tryz.lays144 s c w
open Go.RowKit Go.Lib in
theorem Tryz.strings_Contains (s sub : ByteArray) (m : Int) (w : World) (hs : s.size < 4294967281) (hm : w.cell? ⟨0, 0, none⟩ = some (.int .i64 m)) :
    Calls Tryz.prog 125 #[.string s, .string sub] w fun e w' => e = .returned (.bool (Lib.contains s.data.toList sub.data.toList)) ∧ w' = w := Any.strings_Contains Tryz.lays144 s sub m w hs hm
end Go.Proofs
end

section
namespace Go.Proofs.YtfkofbabeghgkaaGreat.Z
def strings_Contains.f (a0 a1 : ByteArray) : Option Bool := if h : a1.size = 1 then some (decide (0 ≤ Lib.indexByte a0.data.toList (a1.data[0]'(by have : a1.data.size = 1 := h; omega)))) else none
theorem strings_Contains.calls (a0 a1 : ByteArray) (r : Bool) (w : World) (h : strings_Contains.f a0 a1 = some r) :
    Calls Tryz.prog 125 #[.string a0, .string a1] w fun e w' => e = .returned (.bool r) ∧ Drawn0 w w' := by
  unfold strings_Contains.f at h
  split at h
  case isFalse => cases h
  case isTrue hs =>
    obtain ⟨d⟩ := a1
    obtain ⟨l⟩ := d
    match l, hs with
    | [c], _ =>
      obtain rfl := Option.some.inj h
      exact (Tryz.strings_Contains_one a0 c w).mono fun e w' ⟨he, hw⟩ => ⟨he, hw ▸ Drawn0.refl _⟩
    | [], hs => exact absurd hs (by decide)
    | _ :: _ :: _, hs => exact absurd hs (by simp [ByteArray.size])
end Go.Proofs.YtfkofbabeghgkaaGreat.Z
end

section
namespace Go.Proofs.YtfkofbabeghgkaaGreat.Z
attribute [local go_sem] max2_int min2_int max_two min_two max_three min_three max_four min_four   -- for this text's walks alone
def path_Name.f (a0 : ByteArray) : Option (Bool) := if a0.toList = ([] : List UInt8) then (some false) else (if (a0.size : Int) ≤ 24 then ((strings_Contains.f a0 (⟨#[47]⟩ : ByteArray)).bind fun t105 => (if t105 = true then (some false) else ((strings_Contains.f a0 (⟨#[0]⟩ : ByteArray)).bind fun t106 => (if t106 = true then (some false) else (if a0.toList = ([46] : List UInt8) then (some false) else (some (a0.toList != ([46, 46] : List UInt8)))))))) else (some false))
set_option maxHeartbeats 8000000 in
set_option maxRecDepth 100000 in
theorem path_Name.calls (a0 : ByteArray) (r : Bool) (w : World) (h : path_Name.f a0 = some r) :
  Calls Tryz.prog 123 #[.string a0] w fun e w' => e = .returned (.bool r) ∧ Drawn0 w w' := by
 have H : (if a0.toList = ([] : List UInt8) then (some false) else (if (a0.size : Int) ≤ 24 then ((strings_Contains.f a0 (⟨#[47]⟩ : ByteArray)).bind fun t105 => (if t105 = true then (some false) else ((strings_Contains.f a0 (⟨#[0]⟩ : ByteArray)).bind fun t106 => (if t106 = true then (some false) else (if a0.toList = ([46] : List UInt8) then (some false) else (some (a0.toList != ([46, 46] : List UInt8)))))))) else (some false))) = some r := h
 clear h
 by_cases c2 : a0.toList = ([] : List UInt8)
 ·rw [if_pos c2] at H
  have c2b0 : (a0.toList == ([] : List UInt8)) = true := beq_iff_eq.mpr c2
  have c2b1 : (a0.toList != ([] : List UInt8)) = false := bne_eq_false_iff_eq.mpr c2
  clear c2
  obtain rfl := Option.some.inj H
  go_enter Tryz.func123, Tryz.ntmps123
  go_wp2
  go_ret
  exact ⟨by first | rfl | (simp; done) | (simp [*]; done), by repeat (first | exact Drawn0.refl _ | apply Drawn0.step)⟩
 rw [if_neg c2] at H
 have c2b0 : (a0.toList == ([] : List UInt8)) = false := beq_eq_false_iff_ne.mpr c2
 have c2b1 : (a0.toList != ([] : List UInt8)) = true := bne_iff_ne.mpr c2
 by_cases c3 : (a0.size : Int) ≤ 24
 ·rw [if_pos c3] at H
  have c3b0 : decide ((a0.size : Int) ≤ 24) = true := decide_eq_true c3
  have c3b1 : decide (a0.size ≤ 24) = true := decide_eq_true (by omega)
  clear c3
  replace H := Option.bind_eq_some_iff.mp H
  obtain ⟨t105, A40, H⟩ := H
  replace H : (if t105 = true then (some false) else ((strings_Contains.f a0 (⟨#[0]⟩ : ByteArray)).bind fun t106 => (if t106 = true then (some false) else (if a0.toList = ([46] : List UInt8) then (some false) else (some (a0.toList != ([46, 46] : List UInt8))))))) = some r := H
  have A4 := ak_ A40
  clear A40
  by_cases c5 : t105 = true
  ·subst c5
   have H1 : (some false) = some r := by rw [if_pos rfl] at H; exact H
   clear H
   have H := H1
   clear H1
   obtain rfl := Option.some.inj H
   go_enter Tryz.func123, Tryz.ntmps123
   go_wp2_with (first | (go_at_call 125; (with_reducible refine (strings_Contains.calls a0 (⟨#[47]⟩ : ByteArray) true _ A4.out).mono ?_); rintro e w' ⟨rfl, ⟨nd, rfl⟩⟩))
   go_ret
   exact ⟨by first | rfl | (simp; done) | (simp [*]; done), by repeat (first | exact Drawn0.refl _ | apply Drawn0.step)⟩
  replace c5 := Bool.eq_false_iff.mpr c5
  subst c5
  have H1 : ((strings_Contains.f a0 (⟨#[0]⟩ : ByteArray)).bind fun t106 => (if t106 = true then (some false) else (if a0.toList = ([46] : List UInt8) then (some false) else (some (a0.toList != ([46, 46] : List UInt8)))))) = some r := by rw [if_neg (show ¬ (false = true) by decide)] at H; exact H
  clear H
  have H := H1
  clear H1
  replace H := Option.bind_eq_some_iff.mp H
  obtain ⟨t106, A60, H⟩ := H
  replace H : (if t106 = true then (some false) else (if a0.toList = ([46] : List UInt8) then (some false) else (some (a0.toList != ([46, 46] : List UInt8))))) = some r := H
  have A6 := ak_ A60
  clear A60
  by_cases c7 : t106 = true
  ·subst c7
   have H1 : (some false) = some r := by rw [if_pos rfl] at H; exact H
   clear H
   have H := H1
   clear H1
   obtain rfl := Option.some.inj H
   go_enter Tryz.func123, Tryz.ntmps123
   go_wp2_with (first | (go_at_call 125; (with_reducible refine (strings_Contains.calls a0 (⟨#[47]⟩ : ByteArray) false _ A4.out).mono ?_); rintro e w' ⟨rfl, ⟨nd, rfl⟩⟩) | (go_at_call 125; (with_reducible refine (strings_Contains.calls a0 (⟨#[0]⟩ : ByteArray) true _ A6.out).mono ?_); rintro e w' ⟨rfl, ⟨nd, rfl⟩⟩))
   go_ret
   exact ⟨by first | rfl | (simp; done) | (simp [*]; done), by repeat (first | exact Drawn0.refl _ | apply Drawn0.step)⟩
  replace c7 := Bool.eq_false_iff.mpr c7
  subst c7
  have H1 : (if a0.toList = ([46] : List UInt8) then (some false) else (some (a0.toList != ([46, 46] : List UInt8)))) = some r := by rw [if_neg (show ¬ (false = true) by decide)] at H; exact H
  clear H
  have H := H1
  clear H1
  by_cases c8 : a0.toList = ([46] : List UInt8)
  ·rw [if_pos c8] at H
   have c8b0 : (a0.toList == ([46] : List UInt8)) = true := beq_iff_eq.mpr c8
   have c8b1 : (a0.toList != ([46] : List UInt8)) = false := bne_eq_false_iff_eq.mpr c8
   clear c8
   obtain rfl := Option.some.inj H
   go_enter Tryz.func123, Tryz.ntmps123
   go_wp2_with (first | (go_at_call 125; (with_reducible refine (strings_Contains.calls a0 (⟨#[47]⟩ : ByteArray) false _ A4.out).mono ?_); rintro e w' ⟨rfl, ⟨nd, rfl⟩⟩) | (go_at_call 125; (with_reducible refine (strings_Contains.calls a0 (⟨#[0]⟩ : ByteArray) false _ A6.out).mono ?_); rintro e w' ⟨rfl, ⟨nd, rfl⟩⟩))
   go_ret
   exact ⟨by first | rfl | (simp; done) | (simp [*]; done), by repeat (first | exact Drawn0.refl _ | apply Drawn0.step)⟩
  rw [if_neg c8] at H
  have c8b0 : (a0.toList == ([46] : List UInt8)) = false := beq_eq_false_iff_ne.mpr c8
  have c8b1 : (a0.toList != ([46] : List UInt8)) = true := bne_iff_ne.mpr c8
  obtain rfl := Option.some.inj H
  go_enter Tryz.func123, Tryz.ntmps123
  go_wp2_with (first | (go_at_call 125; (with_reducible refine (strings_Contains.calls a0 (⟨#[47]⟩ : ByteArray) false _ A4.out).mono ?_); rintro e w' ⟨rfl, ⟨nd, rfl⟩⟩) | (go_at_call 125; (with_reducible refine (strings_Contains.calls a0 (⟨#[0]⟩ : ByteArray) false _ A6.out).mono ?_); rintro e w' ⟨rfl, ⟨nd, rfl⟩⟩))
  go_ret
  exact ⟨by first | rfl | (simp; done) | (simp [*]; done), by repeat (first | exact Drawn0.refl _ | apply Drawn0.step)⟩
 rw [if_neg c3] at H
 have c3b0 : decide ((a0.size : Int) ≤ 24) = false := decide_eq_false c3
 have c3b1 : decide (a0.size ≤ 24) = false := decide_eq_false (by omega)
 clear c3
 obtain rfl := Option.some.inj H
 go_enter Tryz.func123, Tryz.ntmps123
 go_wp2
 go_ret
 exact ⟨by first | rfl | (simp; done) | (simp [*]; done), by repeat (first | exact Drawn0.refl _ | apply Drawn0.step)⟩
def inode_right.j0 : Nat → Bool → Int → Bool → Int → Int → ByteArray → Int → Option (Bool)
 | 0, _, _, _, _, _, _, _ => none
 | k + 1, x3, x8, x22, x108000, x108001, x108002, x108003 => if x22 = true then (if x3 = true then ((path_Name.f x108002).bind fun t108 => (if t108 = true then (some (x108003 == 0)) else (some false))) else (some false)) else (if x8 = 3 then (if x3 = true then (if x108002.toList = ([] : List UInt8) then (some (decide (x108003 < 512))) else (some false)) else (some false)) else (some false))
def inode_right.f (k : Nat) (a0_0 : Int) (a0_1 : Int) (a0_2 : ByteArray) (a0_3 : Int) : Option (Bool) := if a0_0 = 1 then (if a0_1 > 0 then (if a0_2.toList = ([] : List UInt8) then (some (a0_3 == 0)) else (some false)) else (some false)) else (if a0_0 = 2 then (inode_right.j0 k (decide (a0_1 > 0)) a0_0 (a0_0 == 2) a0_0 a0_1 a0_2 a0_3) else (inode_right.j0 k (decide (a0_1 > 0)) a0_0 (a0_0 == 4) a0_0 a0_1 a0_2 a0_3))
theorem inode_right.mono_l : ∀ k, (∀ y0 y1 y2 y3 y4 y5 y6, LeO (inode_right.j0 k y0 y1 y2 y3 y4 y5 y6) (inode_right.j0 (k + 1) y0 y1 y2 y3 y4 y5 y6))
 | 0 => fun _ _ _ _ _ _ _ r h => by simp [inode_right.j0] at h
 | k + 1 => by
  have ih0 := inode_right.mono_l k
  ·intro y0 y1 y2 y3 y4 y5 y6
   unfold inode_right.j0
   repeat' first
   | (with_reducible exact ih0 _ _ _ _ _ _ _)
   | (with_reducible exact LeO.refl _)
   | (with_reducible exact LeO.none _)
   | (with_reducible refine LeO.ite ?_ ?_)
   | (with_reducible refine LeO.bind ?_ (fun _ => ?_))
   | exact ih0 _ _ _ _ _ _ _
   | exact LeO.none _
   | refine LeO.ite ?_ ?_
   | refine LeO.bind ?_ (fun _ => ?_)
theorem inode_right.mono : ∀ a0 a1 a2 a3 k, LeO (inode_right.f k a0 a1 a2 a3) (inode_right.f (k + 1) a0 a1 a2 a3) := by
 intro a0 a1 a2 a3 k
 have ih0 := inode_right.mono_l k
 unfold inode_right.f
 repeat' first
   | (with_reducible exact ih0 _ _ _ _ _ _ _)
   | (with_reducible exact LeO.refl _)
   | (with_reducible exact LeO.none _)
   | (with_reducible refine LeO.ite ?_ ?_)
   | (with_reducible refine LeO.bind ?_ (fun _ => ?_))
   | exact ih0 _ _ _ _ _ _ _
   | exact LeO.none _
   | refine LeO.ite ?_ ?_
   | refine LeO.bind ?_ (fun _ => ?_)
set_option maxHeartbeats 8000000 in
set_option maxRecDepth 100000 in
theorem inode_right.calls (k : Nat) (a0_0 : Int) (a0_1 : Int) (a0_2 : ByteArray) (a0_3 : Int) (r : Bool) (w : World) (h : inode_right.f k a0_0 a0_1 a0_2 a0_3 = some r) :
  Calls Tryz.prog 101 #[.agg #[.int .u8 a0_0, .int .u32 a0_1, .string a0_2, .int .u32 a0_3]] w fun e w' => e = .returned (.bool r) ∧ Below w.heap.size w w' := by
 have hu106 := Tryz.underlying106
 have HB := ak_ (Below.refl w.heap.size w)
 have H : (if a0_0 = 1 then (if a0_1 > 0 then (if a0_2.toList = ([] : List UInt8) then (some (a0_3 == 0)) else (some false)) else (some false)) else (if a0_0 = 2 then (inode_right.j0 k (decide (a0_1 > 0)) a0_0 (a0_0 == 2) a0_0 a0_1 a0_2 a0_3) else (inode_right.j0 k (decide (a0_1 > 0)) a0_0 (a0_0 == 4) a0_0 a0_1 a0_2 a0_3))) = some r := h
 clear h
 by_cases c2 : a0_0 = 1
 ·rw [if_pos c2] at H
  have c2b0 : (a0_0 == 1) = true := beq_iff_eq.mpr c2
  have c2b1 : (a0_0 != 1) = false := bne_eq_false_iff_eq.mpr c2
  clear c2
  by_cases c3 : a0_1 > 0
  ·rw [if_pos c3] at H
   have c3b0 : decide (0 < a0_1) = true := decide_eq_true c3
   clear c3
   by_cases c4 : a0_2.toList = ([] : List UInt8)
   ·rw [if_pos c4] at H
    have c4b0 : (a0_2.toList == ([] : List UInt8)) = true := beq_iff_eq.mpr c4
    have c4b1 : (a0_2.toList != ([] : List UInt8)) = false := bne_eq_false_iff_eq.mpr c4
    clear c4
    obtain rfl := Option.some.inj H
    go_enter Tryz.func101, Tryz.ntmps101
    go_wp2_with (first | ((with_reducible refine gate_dst (N := 1) rfl ?_); refine bx_ (N := 1) (cs := #[.int .u8 a0_0, .int .u32 a0_1, .string a0_2, .int .u32 a0_3]) (t := 106) ?_; intro gb107 hg w5 hbox hb; have BK107 := ak_ (hbox); have GW107 := ge_ hg; have GE107 := ge_ hg; replace HB := hb_ hb; clear hb hbox hg; obtain ⟨hcz6_0, hcz6_1, hcz6_2, hcz6_3⟩ := cl4_ BK107; obtain ⟨hfz6_0, hfz6_1, hfz6_2, hfz6_3⟩ := fz4_ BK107))
    go_ret
    exact ⟨by first | rfl | (simp [errW_none, errW_some] <;> rfl) | (simp [*, errW_none, errW_some] <;> rfl), bel_⟩
   rw [if_neg c4] at H
   have c4b0 : (a0_2.toList == ([] : List UInt8)) = false := beq_eq_false_iff_ne.mpr c4
   have c4b1 : (a0_2.toList != ([] : List UInt8)) = true := bne_iff_ne.mpr c4
   obtain rfl := Option.some.inj H
   go_enter Tryz.func101, Tryz.ntmps101
   go_wp2_with (first | ((with_reducible refine gate_dst (N := 1) rfl ?_); refine bx_ (N := 1) (cs := #[.int .u8 a0_0, .int .u32 a0_1, .string a0_2, .int .u32 a0_3]) (t := 106) ?_; intro gb107 hg w7 hbox hb; have BK107 := ak_ (hbox); have GW107 := ge_ hg; have GE107 := ge_ hg; replace HB := hb_ hb; clear hb hbox hg; obtain ⟨hcz8_0, hcz8_1, hcz8_2, hcz8_3⟩ := cl4_ BK107; obtain ⟨hfz8_0, hfz8_1, hfz8_2, hfz8_3⟩ := fz4_ BK107))
   go_ret
   exact ⟨by first | rfl | (simp [errW_none, errW_some] <;> rfl) | (simp [*, errW_none, errW_some] <;> rfl), bel_⟩
  rw [if_neg c3] at H
  have c3b0 : decide (0 < a0_1) = false := decide_eq_false c3
  clear c3
  obtain rfl := Option.some.inj H
  go_enter Tryz.func101, Tryz.ntmps101
  go_wp2_with (first | ((with_reducible refine gate_dst (N := 1) rfl ?_); refine bx_ (N := 1) (cs := #[.int .u8 a0_0, .int .u32 a0_1, .string a0_2, .int .u32 a0_3]) (t := 106) ?_; intro gb107 hg w9 hbox hb; have BK107 := ak_ (hbox); have GW107 := ge_ hg; have GE107 := ge_ hg; replace HB := hb_ hb; clear hb hbox hg; obtain ⟨hcz10_0, hcz10_1, hcz10_2, hcz10_3⟩ := cl4_ BK107; obtain ⟨hfz10_0, hfz10_1, hfz10_2, hfz10_3⟩ := fz4_ BK107))
  go_ret
  exact ⟨by first | rfl | (simp [errW_none, errW_some] <;> rfl) | (simp [*, errW_none, errW_some] <;> rfl), bel_⟩
 rw [if_neg c2] at H
 have c2b0 : (a0_0 == 1) = false := beq_eq_false_iff_ne.mpr c2
 have c2b1 : (a0_0 != 1) = true := bne_iff_ne.mpr c2
 have HC11 := ak_ H
 clear H
 go_enter Tryz.func101, Tryz.ntmps101
 go_upto_if 22 with (first | ((with_reducible refine gate_dst (N := 1) rfl ?_); refine bx_ (N := 1) (cs := #[.int .u8 a0_0, .int .u32 a0_1, .string a0_2, .int .u32 a0_3]) (t := 106) ?_; intro gb107 hg w12 hbox hb; have n0_ := ak_ (below_step bel_ hb); have n1_ := ak_ (hbox); have n2_ := ak_ ((by rw [hg]; exact (below_size bel_) : w.heap.size ≤ gb107)); have n3_ := ak_ ((by rw [hg]; exact (below_size bel_) : w.heap.size ≤ gb107)); clear HB; have HB := n0_; have BK107 := n1_; have GW107 := n2_; have GE107 := n3_; clear n0_ n1_ n2_ n3_; clear hb hbox hg; have hcz13_0 : w12.cell? ⟨gb107, 0, none⟩ = some (.int .u8 a0_0) := (blk_cell BK107.out 0).trans rfl; have hcz13_1 : w12.cell? ⟨gb107, 1, none⟩ = some (.int .u32 a0_1) := (blk_cell BK107.out 1).trans rfl; have hcz13_2 : w12.cell? ⟨gb107, 2, none⟩ = some (.string a0_2) := (blk_cell BK107.out 2).trans rfl; have hcz13_3 : w12.cell? ⟨gb107, 3, none⟩ = some (.int .u32 a0_3) := (blk_cell BK107.out 3).trans rfl; have hfz13_0 := blk_frozen BK107.out 0; have hfz13_1 := blk_frozen BK107.out 1; have hfz13_2 := blk_frozen BK107.out 2; have hfz13_3 := blk_frozen BK107.out 3))
 (try simp only [Act.put, List.setIfInBounds_toArray, List.set_cons_zero, List.set_cons_succ])
 go_cut [22] (fun v22 wc => ∃ (kq : Nat) (x22_10 : Bool), v22 = .bool x22_10 ∧ Aside0 (inode_right.j0 kq (decide (a0_1 > 0)) a0_0 x22_10 a0_0 a0_1 a0_2 a0_3 = some r) ∧ Aside0 (kq ≤ k) ∧ Aside0 (wc.heap[gb107]? = some (.cells #[.int .u8 a0_0, .int .u32 a0_1, .string a0_2, .int .u32 a0_3] 106 (0, 0))) ∧ Aside0 (Below w.heap.size w wc))
 case first =>
  have H := HC11.out
  clear HC11
  by_cases c14 : a0_0 = 2
  ·rw [if_pos c14] at H
   have c14b0 : (a0_0 == 2) = true := beq_iff_eq.mpr c14
   have c14b1 : (a0_0 != 2) = false := bne_eq_false_iff_eq.mpr c14
   clear c14
   (first | rw [c14b0] | (simp only [i64_w, i32_w]; rw [c14b0]) | skip)
   have H' := ak_ H
   clear H
   go_wp2
   go_meet
   case rel => exact ⟨_, ((a0_0 == 2)), (by first | rfl | (simp; done) | (simp [*]; done)), H', ⟨by first | omega | exact Nat.le_refl _⟩, ⟨bk_ BK107⟩, ⟨bel_⟩⟩
  rw [if_neg c14] at H
  have c14b0 : (a0_0 == 2) = false := beq_eq_false_iff_ne.mpr c14
  have c14b1 : (a0_0 != 2) = true := bne_iff_ne.mpr c14
  (first | rw [c14b0] | (simp only [i64_w, i32_w]; rw [c14b0]) | skip)
  have H' := ak_ H
  clear H
  go_wp2
  go_meet
  case rel => exact ⟨_, ((a0_0 == 4)), (by first | rfl | (simp; done) | (simp [*]; done)), H', ⟨by first | omega | exact Nat.le_refl _⟩, ⟨bk_ BK107⟩, ⟨bel_⟩⟩
 case rest =>
  clear HC11
  try clear c1
  try clear c2
  try clear c2b0
  try clear c2b1
  try clear p2
  try clear c3
  try clear c3b0
  try clear c4
  try clear c4b0
  try clear c4b1
  try clear c10
  try clear c14
  try clear c14b0
  try clear c14b1
  try clear hcz10_0
  try clear hcz10_1
  try clear hcz10_2
  try clear hcz10_3
  try clear hcz13_0
  try clear hcz13_1
  try clear hcz13_2
  try clear hcz13_3
  try clear hcz6_0
  try clear hcz6_1
  try clear hcz6_2
  try clear hcz6_3
  try clear hcz8_0
  try clear hcz8_1
  try clear hcz8_2
  try clear hcz8_3
  try clear hfz10_0
  try clear hfz10_1
  try clear hfz10_2
  try clear hfz10_3
  try clear hfz13_0
  try clear hfz13_1
  try clear hfz13_2
  try clear hfz13_3
  try clear hfz6_0
  try clear hfz6_1
  try clear hfz6_2
  try clear hfz6_3
  try clear hfz8_0
  try clear hfz8_1
  try clear hfz8_2
  try clear hfz8_3
  obtain ⟨kq, x22_10, rfl, HA, HJ10, BK107, HB⟩ := hcut
  cases kq with
  | zero => exact absurd HA.out (by simp [inode_right.j0])
  | succ kj10 =>
   have H := HA.out
   clear HA
   simp only [inode_right.j0] at H
   by_cases c15 : x22_10 = true
   ·subst c15
    have H1 : (if (decide (a0_1 > 0)) = true then ((path_Name.f a0_2).bind fun t108 => (if t108 = true then (some (a0_3 == 0)) else (some false))) else (some false)) = some r := by rw [if_pos rfl] at H; exact H
    clear H
    have H := H1
    clear H1
    by_cases c16 : (decide (a0_1 > 0)) = true
    ·rw [if_pos c16] at H
     have c16b0 : (decide (a0_1 > 0)) = true := c16
     clear c16
     replace H := Option.bind_eq_some_iff.mp H
     obtain ⟨t108, A170, H⟩ := H
     replace H : (if t108 = true then (some (a0_3 == 0)) else (some false)) = some r := H
     have A17 := ak_ A170
     clear A170
     by_cases c18 : t108 = true
     ·subst c18
      have H1 : (some (a0_3 == 0)) = some r := by rw [if_pos rfl] at H; exact H
      clear H
      have H := H1
      clear H1
      obtain rfl := Option.some.inj H
      obtain ⟨hcz19_0, hcz19_1, hcz19_2, hcz19_3⟩ := cl4_ BK107
      obtain ⟨hfz19_0, hfz19_1, hfz19_2, hfz19_3⟩ := fz4_ BK107
      go_wp2_with (first | (go_at_call 123; (with_reducible refine (path_Name.calls a0_2 true _ A17.out).mono ?_); rintro e w' ⟨rfl, ⟨nd, rfl⟩⟩))
      go_ret
      exact ⟨by first | rfl | (simp [errW_none, errW_some] <;> rfl) | (simp [*, errW_none, errW_some] <;> rfl), bel_⟩
     replace c18 := Bool.eq_false_iff.mpr c18
     subst c18
     have H1 : (some false) = some r := by rw [if_neg (show ¬ (false = true) by decide)] at H; exact H
     clear H
     have H := H1
     clear H1
     obtain rfl := Option.some.inj H
     obtain ⟨hcz20_0, hcz20_1, hcz20_2, hcz20_3⟩ := cl4_ BK107
     obtain ⟨hfz20_0, hfz20_1, hfz20_2, hfz20_3⟩ := fz4_ BK107
     go_wp2_with (first | (go_at_call 123; (with_reducible refine (path_Name.calls a0_2 false _ A17.out).mono ?_); rintro e w' ⟨rfl, ⟨nd, rfl⟩⟩))
     go_ret
     exact ⟨by first | rfl | (simp [errW_none, errW_some] <;> rfl) | (simp [*, errW_none, errW_some] <;> rfl), bel_⟩
    rw [if_neg c16] at H
    have c16b0 : (decide (a0_1 > 0)) = false := by simpa using c16
    clear c16
    obtain rfl := Option.some.inj H
    go_wp2
    go_ret
    exact ⟨by first | rfl | (simp [errW_none, errW_some] <;> rfl) | (simp [*, errW_none, errW_some] <;> rfl), bel_⟩
   replace c15 := Bool.eq_false_iff.mpr c15
   subst c15
   have H1 : (if a0_0 = 3 then (if (decide (a0_1 > 0)) = true then (if a0_2.toList = ([] : List UInt8) then (some (decide (a0_3 < 512))) else (some false)) else (some false)) else (some false)) = some r := by rw [if_neg (show ¬ (false = true) by decide)] at H; exact H
   clear H
   have H := H1
   clear H1
   by_cases c21 : a0_0 = 3
   ·rw [if_pos c21] at H
    have c21b0 : (a0_0 == 3) = true := beq_iff_eq.mpr c21
    have c21b1 : (a0_0 != 3) = false := bne_eq_false_iff_eq.mpr c21
    clear c21
    by_cases c22 : (decide (a0_1 > 0)) = true
    ·rw [if_pos c22] at H
     have c22b0 : (decide (a0_1 > 0)) = true := c22
     clear c22
     by_cases c23 : a0_2.toList = ([] : List UInt8)
     ·rw [if_pos c23] at H
      have c23b0 : (a0_2.toList == ([] : List UInt8)) = true := beq_iff_eq.mpr c23
      have c23b1 : (a0_2.toList != ([] : List UInt8)) = false := bne_eq_false_iff_eq.mpr c23
      clear c23
      obtain rfl := Option.some.inj H
      obtain ⟨hcz24_0, hcz24_1, hcz24_2, hcz24_3⟩ := cl4_ BK107
      obtain ⟨hfz24_0, hfz24_1, hfz24_2, hfz24_3⟩ := fz4_ BK107
      go_wp2
      go_ret
      exact ⟨by first | rfl | (simp [errW_none, errW_some] <;> rfl) | (simp [*, errW_none, errW_some] <;> rfl), bel_⟩
     rw [if_neg c23] at H
     have c23b0 : (a0_2.toList == ([] : List UInt8)) = false := beq_eq_false_iff_ne.mpr c23
     have c23b1 : (a0_2.toList != ([] : List UInt8)) = true := bne_iff_ne.mpr c23
     obtain rfl := Option.some.inj H
     obtain ⟨hcz25_0, hcz25_1, hcz25_2, hcz25_3⟩ := cl4_ BK107
     obtain ⟨hfz25_0, hfz25_1, hfz25_2, hfz25_3⟩ := fz4_ BK107
     go_wp2
     go_ret
     exact ⟨by first | rfl | (simp [errW_none, errW_some] <;> rfl) | (simp [*, errW_none, errW_some] <;> rfl), bel_⟩
    rw [if_neg c22] at H
    have c22b0 : (decide (a0_1 > 0)) = false := by simpa using c22
    clear c22
    obtain rfl := Option.some.inj H
    go_wp2
    go_ret
    exact ⟨by first | rfl | (simp [errW_none, errW_some] <;> rfl) | (simp [*, errW_none, errW_some] <;> rfl), bel_⟩
   rw [if_neg c21] at H
   have c21b0 : (a0_0 == 3) = false := beq_eq_false_iff_ne.mpr c21
   have c21b1 : (a0_0 != 3) = true := bne_iff_ne.mpr c21
   obtain rfl := Option.some.inj H
   go_wp2
   go_ret
   exact ⟨by first | rfl | (simp [errW_none, errW_some] <;> rfl) | (simp [*, errW_none, errW_some] <;> rfl), bel_⟩
end Go.Proofs.YtfkofbabeghgkaaGreat.Z
end

section
namespace Go.Proofs.YtfkofbabeghgkaaGreat.Z
def bits_Len64.f (a0 : Int) : Option Int := if 0 ≤ a0 ∧ a0 ≤ 18446744073709551615 then some (Lib.bitLen a0.toNat : Int) else none
theorem bits_Len64.calls (a0 : Int) (r : Int) (w : World) (h : bits_Len64.f a0 = some r) :
    Calls Tryz.prog 82 #[.int .u64 a0] w fun e w' => e = .returned (.int .i64 r) ∧ Drawn0 w w' := by
  unfold bits_Len64.f at h
  split at h
  case isFalse => cases h
  case isTrue hs =>
    obtain rfl := Option.some.inj h
    exact (Tryz.bits_Len64 a0 w hs.1 hs.2).mono fun e w' ⟨he, hw⟩ => ⟨he, hw ▸ Drawn0.refl _⟩
end Go.Proofs.YtfkofbabeghgkaaGreat.Z
end

section
namespace Go.Proofs.YtfkofbabeghgkaaGreat.Z
attribute [local go_sem] max2_int min2_int max_two min_two max_three min_three max_four min_four   -- for this text's walks alone
mutual
def pack_Number.j0 : Nat → Int → Int → Bool → Option (ByteArray × Int)
 | 0, _, _, _ => none
 | k + 1, x0, x1, x20 => if x20 = true then (some ((⟨#[]⟩ : ByteArray), 1)) else (if 0 ≤ x1 then (if (x1 : Int).toNat ≤ 281474976710656 then ((some (List.replicate (x1 : Int).toNat 0 : List Int)).bind fun y110 => (pack_Number.l0 k x0 x1 y110 (y110.length : Int) 0)) else (none)) else (none))
def pack_Number.l0 : Nat → Int → Int → List Int → Int → Int → Option (ByteArray × Int)
 | 0, _, _, _, _, _ => none
 | k + 1, x0, x1, x6, x24, x25 => if x25 < x24 then (if 0 ≤ (wrap64 (8 * x25)) then (if 0 ≤ (wrap64 ((wrap64 (x1 - 1)) - x25)) then (if (wrap64 ((wrap64 (x1 - 1)) - x25)) < (x6.length : Int) then (pack_Number.l0 k x0 x1 (x6.set ((wrap64 ((wrap64 (x1 - 1)) - x25)) : Int).toNat ((shr .u64 x0 (wrap64 (8 * x25))) % 256)) x24 (wrap64 (x25 + 1))) else (none)) else (none)) else (none)) else (some (strOfNums x6, 0))
end
def pack_Number.f (k : Nat) (a0 : Int) (a1 : Int) : Option (ByteArray × Int) := if a1 < 1 then (pack_Number.j0 k a0 a1 true) else (if a1 > 8 then (pack_Number.j0 k a0 a1 true) else ((bits_Len64.f a0).bind fun t109 => (pack_Number.j0 k a0 a1 (decide (t109 > (wrap64 (8 * a1)))))))
theorem pack_Number.mono_l : ∀ k, (∀ y0 y1 y2, LeO (pack_Number.j0 k y0 y1 y2) (pack_Number.j0 (k + 1) y0 y1 y2)) ∧ (∀ y0 y1 y2 y3 y4, LeO (pack_Number.l0 k y0 y1 y2 y3 y4) (pack_Number.l0 (k + 1) y0 y1 y2 y3 y4))
 | 0 => ⟨fun _ _ _ r h => by simp [pack_Number.j0] at h, fun _ _ _ _ _ r h => by simp [pack_Number.l0] at h⟩
 | k + 1 => by
  obtain ⟨ih0, ih1⟩ := pack_Number.mono_l k
  refine ⟨?_, ?_⟩
  ·intro y0 y1 y2
   unfold pack_Number.j0
   repeat' first
   | (with_reducible exact ih0 _ _ _)
   | (with_reducible exact ih1 _ _ _ _ _)
   | (with_reducible exact LeO.refl _)
   | (with_reducible exact LeO.none _)
   | (with_reducible refine LeO.ite ?_ ?_)
   | (with_reducible refine LeO.bind ?_ (fun _ => ?_))
   | exact ih0 _ _ _
   | exact ih1 _ _ _ _ _
   | exact LeO.none _
   | refine LeO.ite ?_ ?_
   | refine LeO.bind ?_ (fun _ => ?_)
  intro y0 y1 y2 y3 y4
  unfold pack_Number.l0
  repeat' first
  | (with_reducible exact ih0 _ _ _)
  | (with_reducible exact ih1 _ _ _ _ _)
  | (with_reducible exact LeO.refl _)
  | (with_reducible exact LeO.none _)
  | (with_reducible refine LeO.ite ?_ ?_)
  | (with_reducible refine LeO.bind ?_ (fun _ => ?_))
  | exact ih0 _ _ _
  | exact ih1 _ _ _ _ _
  | exact LeO.none _
  | refine LeO.ite ?_ ?_
  | refine LeO.bind ?_ (fun _ => ?_)
theorem pack_Number.mono : ∀ a0 a1 k, LeO (pack_Number.f k a0 a1) (pack_Number.f (k + 1) a0 a1) := by
 intro a0 a1 k
 obtain ⟨ih0, ih1⟩ := pack_Number.mono_l k
 unfold pack_Number.f
 repeat' first
   | (with_reducible exact ih0 _ _ _)
   | (with_reducible exact ih1 _ _ _ _ _)
   | (with_reducible exact LeO.refl _)
   | (with_reducible exact LeO.none _)
   | (with_reducible refine LeO.ite ?_ ?_)
   | (with_reducible refine LeO.bind ?_ (fun _ => ?_))
   | exact ih0 _ _ _
   | exact ih1 _ _ _ _ _
   | exact LeO.none _
   | refine LeO.ite ?_ ?_
   | refine LeO.bind ?_ (fun _ => ?_)
set_option maxHeartbeats 8000000 in
set_option maxRecDepth 100000 in
theorem pack_Number.calls (k : Nat) (a0 : Int) (a1 : Int) (r1 : ByteArray) (r2 : Int) (w : World) (h : pack_Number.f k a0 a1 = some (r1, r2)) :
  Calls Tryz.prog 50 #[.int .u64 a0, .int .i64 a1] w fun e w' => e = .returned (.tuple #[.string r1, .int .i64 r2]) ∧ Below w.heap.size w w' := by
 have HB := ak_ (Below.refl w.heap.size w)
 have H : (if a1 < 1 then (pack_Number.j0 k a0 a1 true) else (if a1 > 8 then (pack_Number.j0 k a0 a1 true) else ((bits_Len64.f a0).bind fun t109 => (pack_Number.j0 k a0 a1 (decide (t109 > (wrap64 (8 * a1)))))))) = some (r1, r2) := h
 clear h
 have HC3 := ak_ H
 clear H
 go_enter Tryz.func50, Tryz.ntmps50
 go_upto_region 1 with (fail)
 go_cut [20] (fun v20 wc => ∃ (kq : Nat) (x20_2 : Bool), v20 = .bool x20_2 ∧ Aside0 (pack_Number.j0 kq a0 a1 x20_2 = some (r1, r2)) ∧ Aside0 (kq ≤ k) ∧ Aside0 (Below w.heap.size w wc))
 case first =>
  have H := HC3.out
  clear HC3
  by_cases c4 : a1 < 1
  ·rw [if_pos c4] at H
   have c4b0 : decide (a1 < 1) = true := decide_eq_true c4
   clear c4
   (first | rw [c4b0] | (simp only [i64_w, i32_w]; rw [c4b0]) | skip)
   have H' := ak_ H
   clear H
   go_wp2
   go_meet
   case rel => exact ⟨_, (true), (by first | rfl | (simp; done) | (simp [*]; done)), H', ⟨by first | omega | exact Nat.le_refl _⟩, ⟨bel_⟩⟩
  rw [if_neg c4] at H
  have c4b0 : decide (a1 < 1) = false := decide_eq_false c4
  clear c4
  (first | rw [c4b0] | (simp only [i64_w, i32_w]; rw [c4b0]) | skip)
  by_cases c5 : a1 > 8
  ·rw [if_pos c5] at H
   have c5b0 : decide (8 < a1) = true := decide_eq_true c5
   clear c5
   have H' := ak_ H
   clear H
   go_wp2
   go_meet
   case rel => exact ⟨_, (true), (by first | rfl | (simp; done) | (simp [*]; done)), H', ⟨by first | omega | exact Nat.le_refl _⟩, ⟨bel_⟩⟩
  rw [if_neg c5] at H
  have c5b0 : decide (8 < a1) = false := decide_eq_false c5
  clear c5
  replace H := Option.bind_eq_some_iff.mp H
  obtain ⟨t109, A60, H⟩ := H
  replace H : (pack_Number.j0 k a0 a1 (decide (t109 > (wrap64 (8 * a1))))) = some (r1, r2) := H
  have A6 := ak_ A60
  clear A60
  have H' := ak_ H
  clear H
  go_wp2_with (first | (go_at_call 82; (with_reducible refine (bits_Len64.calls a0 t109 _ A6.out).mono ?_); rintro e w' ⟨rfl, ⟨nd, rfl⟩⟩))
  go_meet
  case rel => exact ⟨_, (decide (t109 > (wrap64 (8 * a1)))), (by first | rfl | (simp; done) | (simp [*]; done)), H', ⟨by first | omega | exact Nat.le_refl _⟩, ⟨bel_⟩⟩
 case rest =>
  clear HC3
  try clear p2
  try clear c4
  try clear c4b0
  try clear c5
  try clear c5b0
  try clear p6
  obtain ⟨kq, x20_2, rfl, HA, HJ2, HB⟩ := hcut
  cases kq with
  | zero => exact absurd HA.out (by simp [pack_Number.j0])
  | succ kj2 =>
   have H := HA.out
   clear HA
   simp only [pack_Number.j0] at H
   by_cases c7 : x20_2 = true
   ·subst c7
    have H1 : (some ((⟨#[]⟩ : ByteArray), 1)) = some (r1, r2) := by rw [if_pos rfl] at H; exact H
    clear H
    have H := H1
    clear H1
    simp only [Option.some.injEq, Prod.mk.injEq] at H
    obtain ⟨rfl, rfl⟩ := H
    go_wp2
    go_ret2
    exact ⟨by first | rfl | (simp [errW_none, errW_some] <;> rfl) | (simp [*, errW_none, errW_some] <;> rfl), bel_⟩
   replace c7 := Bool.eq_false_iff.mpr c7
   subst c7
   have H1 : (if 0 ≤ a1 then (if (a1 : Int).toNat ≤ 281474976710656 then ((some (List.replicate (a1 : Int).toNat 0 : List Int)).bind fun y110 => (pack_Number.l0 kj2 a0 a1 y110 (y110.length : Int) 0)) else (none)) else (none)) = some (r1, r2) := by rw [if_neg (show ¬ (false = true) by decide)] at H; exact H
   clear H
   have H := H1
   clear H1
   by_cases c8 : 0 ≤ a1
   ·rw [if_pos c8] at H
    have c8b0 := eq_true c8
    have c8b1 : decide (0 ≤ a1) = true := decide_eq_true c8
    clear c8
    by_cases c9 : (a1 : Int).toNat ≤ 281474976710656
    ·rw [if_pos c9] at H
     have c9b0 := eq_true c9
     have c9b1 : decide ((a1 : Int).toNat ≤ 281474976710656) = true := decide_eq_true c9
     (try simp only [Int.toNat_natCast] at c9b1)
     clear c9
     obtain ⟨y110, hy110⟩ : ∃ y_ : List Int, y_ = (List.replicate (a1 : Int).toNat 0) := ⟨_, rfl⟩
     replace H : (pack_Number.l0 kj2 a0 a1 y110 (y110.length : Int) 0) = some (r1, r2) := by first | (rw [hy110]; with_reducible exact H) | (have H2_ := (Option.bind_some _ _).symm.trans H; rw [hy110]; with_reducible exact H2_) | (have H2_ := (Option.bind_some _ _).symm.trans H; with_reducible exact H2_) | with_reducible exact H | (rw [hy110]; exact H) | exact H
     have Ny110 := ak_ hy110
     clear hy110
     have H' := ak_ H
     clear H
     go_wp2_with (first | ((with_reducible refine gate_dst (N := 22) rfl ?_); refine Kd.R_make (Kd.int .u8) _ 5 rfl (N := 22) rfl 35 _ _ rfl a1 rfl rfl Tryz.underlying35 (.int .u8 0) 1 info5 rfl (by decide) (by omega) 0 (ok := fun _ => True) (okp := fun _ => True) rfl (fun _ hk => hk) trivial (of_decide_eq_true (by first | (with_reducible assumption) | assumption)) (Nat.le_trans (Nat.mul_le_mul_right _ (of_decide_eq_true (by first | (with_reducible assumption) | assumption) : a1.toNat ≤ 281474976710656)) (by omega)) (Below.refl _ _) (Nat.le_refl _) ?_; intro v111 w10 ho11 hb hg_ hnew_; clear hg_ hnew_; (first | rw [← Ny110.out] at ho11 | (simp only [Int.reduceToNat] at ho11; rw [← Ny110.out] at ho11)); have HO112 := rl_ ho11; replace HB := hb_ hb; clear hb ho11; obtain ⟨Ao12, co12, eo12⟩ := Kd.R_slice HO112.out; subst eo12))
     go_loopg [25] kj2 (fun kq v25 w' => ∃ (x6_2 : List Int) (x25_2 : Int), v25 = .int .i64 x25_2 ∧ Aside0 (pack_Number.l0 kq a0 a1 x6_2 (y110.length : Int) x25_2 = some (r1, r2)) ∧ Aside0 (kq ≤ kj2) ∧ Aside0 (Kd.R (Kd.int .u8) 5 w' w.heap.size (fun _ => True) (.slice Ao12 y110.length co12) x6_2) ∧ Aside0 (Below w.heap.size w w'))
     case atStart => exact ⟨(y110), (0), (by first | rfl | (simp; done) | (simp [*]; done)), H', ⟨Nat.le_refl _⟩, ⟨ra_ HO112⟩, ⟨bel_⟩⟩
     case round =>
      clear H'
      try clear p2
      try clear c4
      try clear c4b0
      try clear c5
      try clear c5b0
      try clear p6
      try clear c7
      try clear c8
      try clear c8b0
      try clear c8b1
      try clear c9
      try clear c9b0
      try clear c9b1
      try clear p2
      try clear p6
      obtain ⟨x6_2, x25_2, rfl, HA, HK2, HO_6, HB⟩ := hrel
      have hl6_2 := (Kd.R_reads' HO_6.out).1
      rw [hl6_2] at HO_6
      (try simp only [hl6_2])
      cases gk with
      | zero => exact absurd HA.out (by simp [pack_Number.l0])
      | succ k2 =>
       have H := HA.out
       clear HA
       simp only [pack_Number.l0] at H
       by_cases c13 : x25_2 < (y110.length : Int)
       ·rw [if_pos c13] at H
        have c13b0 : decide (x25_2 < (y110.length : Int)) = true := decide_eq_true c13
        try (have c13b0y := c13b0; simp only [hl6_2] at c13b0y)
        clear c13
        obtain ⟨ji14, hji14⟩ : ∃ j_ : Int, (wrap64 (8 * x25_2)) = j_ := ⟨_, rfl⟩
        replace H : (if 0 ≤ (ji14) then (if 0 ≤ (wrap64 ((wrap64 (a1 - 1)) - x25_2)) then (if (wrap64 ((wrap64 (a1 - 1)) - x25_2)) < (x6_2.length : Int) then (pack_Number.l0 k2 a0 a1 (x6_2.set ((wrap64 ((wrap64 (a1 - 1)) - x25_2)) : Int).toNat ((shr .u64 a0 (ji14)) % 256)) (y110.length : Int) (wrap64 (x25_2 + 1))) else (none)) else (none)) else (none)) = some (r1, r2) := by first | (rw [hji14] at H; exact H) | (simp only [hji14] at H ⊢; exact H)
        have hji14w : (IntKind.i64.wrap (8 * x25_2)) = ji14 := (i64_w _).trans hji14
        by_cases c15 : 0 ≤ (ji14)
        ·rw [if_pos c15] at H
         have c15b0 := eq_true c15
         have c15b1 : decide (0 ≤ (ji14)) = true := decide_eq_true c15
         clear c15
         obtain ⟨ji16, hji16⟩ : ∃ j_ : Int, (shr .u64 a0 (ji14)) = j_ := ⟨_, rfl⟩
         replace H : (if 0 ≤ (wrap64 ((wrap64 (a1 - 1)) - x25_2)) then (if (wrap64 ((wrap64 (a1 - 1)) - x25_2)) < (x6_2.length : Int) then (pack_Number.l0 k2 a0 a1 (x6_2.set ((wrap64 ((wrap64 (a1 - 1)) - x25_2)) : Int).toNat ((ji16) % 256)) (y110.length : Int) (wrap64 (x25_2 + 1))) else (none)) else (none)) = some (r1, r2) := by first | (rw [hji16] at H; exact H) | (simp only [hji16] at H ⊢; exact H)
         have hji16_ : (a0 / 2 ^ min (ji14).toNat 64) = ji16 := hji16
         have hji16z : (ji14) ≤ 64 → (a0 / 2 ^ (ji14).toNat) = ji16 := shr_small hji16
         obtain ⟨ji17, hji17⟩ : ∃ j_ : Int, (wrap64 ((wrap64 (a1 - 1)) - x25_2)) = j_ := ⟨_, rfl⟩
         replace H : (if 0 ≤ (ji17) then (if (ji17) < (x6_2.length : Int) then (pack_Number.l0 k2 a0 a1 (x6_2.set ((ji17) : Int).toNat ((ji16) % 256)) (y110.length : Int) (wrap64 (x25_2 + 1))) else (none)) else (none)) = some (r1, r2) := by first | (rw [hji17] at H; exact H) | (simp only [hji17] at H ⊢; exact H)
         have hji17w : (IntKind.i64.wrap ((wrap64 (a1 - 1)) - x25_2)) = ji17 := (i64_w _).trans hji17
         by_cases c18 : 0 ≤ (ji17)
         ·rw [if_pos c18] at H
          have c18b0 : decide (0 ≤ (ji17)) = true := decide_eq_true c18
          clear c18
          by_cases c19 : (ji17) < (x6_2.length : Int)
          ·rw [if_pos c19] at H
           have c19b0 : decide ((ji17) < (x6_2.length : Int)) = true := decide_eq_true c19
           try (have c19b0y := c19b0; simp only [hl6_2] at c19b0y)
           clear c19
           obtain ⟨y113, hy113⟩ : ∃ y_ : List Int, y_ = (x6_2.set ((ji17) : Int).toNat ((ji16) % 256)) := ⟨_, rfl⟩
           replace H : (pack_Number.l0 k2 a0 a1 y113 (y110.length : Int) (wrap64 (x25_2 + 1))) = some (r1, r2) := by first | (rw [hy113]; with_reducible exact H) | (have H2_ := (Option.bind_some _ _).symm.trans H; rw [hy113]; with_reducible exact H2_) | (have H2_ := (Option.bind_some _ _).symm.trans H; with_reducible exact H2_) | with_reducible exact H | (rw [hy113]; exact H) | exact H
           have Ny113 := ak_ hy113
           clear hy113
           have H' := ak_ H
           clear H
           have p20 : 0 ≤ ((ji17) : Int) := of_decide_eq_true (by first | (with_reducible assumption) | assumption)
           have q20 : ((ji17) : Int) < ((x6_2.length : Int) : Int) := of_decide_eq_true (by first | (with_reducible assumption) | assumption)
           obtain ⟨go20, co20, eo20, gb20, gl20, cl20, HG20⟩ := Kd.R_form HO_6.out (by omega)
           (first | cases eo20 | (injection eo20 with ea_ en_ ec_; (first | subst ea_ | (injection ea_ with ea_; subst ea_)); subst ec_; clear en_))
           have GB20 := ak_ gb20
           have GG20 := ak_ HG20
           clear gb20 gl20 HG20
           obtain ⟨hx20_0, hf20_0⟩ := Kd.R_celln 0 HO_6.out ((ji17) : Int) p20 q20
           replace p20 := eq_true p20
           replace q20 := eq_true q20
           have HP21 := Kd.R_putg HO_6.out ((ji17) : Int) ((ji16) % 256)
           go_wp2_with (first | ((with_reducible refine gate_store (t := 5) (p := 38) rfl ?_); refine store_event (t := 5) (p := 38) (v := ?vo_w22) (w1 := (wr.setCell ⟨go20, ((ji17) : Int).toNat, none⟩ (.int .u8 ((ji16) % 256)))) ?hg ?ho ?hn ?hr ?_; (case ho => rfl); (case hg => rfl); (case hn => rfl); (case hr => first | (go_simp; done) | (go_simp; rfl)); intro w22 hw; have hg : wr.grownBy w22 (some go20) := (by rw [hw]; exact HP21.2); have hp_ : Kd.R (Kd.int .u8) 5 w22 w.heap.size (fun _ => True) (.slice (some ⟨go20, 0, none⟩) x6_2.length co12) y113 := (by rw [hw, Ny113.out]; exact HP21.1); clear HP21; replace HO_6 := ak_ (hp_); replace HB := ak_ ((by rw [hw]; exact below_set (HB.out) GB20.out : Below w.heap.size w w22)); clear hg hw hp_))
           (try simp only [← hl6_2])
           go_roundg k2
           case measure => have := HJ2.out; have := HK2.out; omega
           case rel => exact ⟨(y113), (wrap64 (x25_2 + 1)), (by first | rfl | (simp; done) | (simp [*]; done)), H', ⟨by have := HJ2.out; have := HK2.out; omega⟩, ⟨by (try simp only [hl6_2]); (with_reducible repeat (first | apply Kd.R_alloc | apply Kd.R_drewN | apply Kd.R_drew)); exact HO_6.out⟩, ⟨bel_⟩⟩
          rw [if_neg c19] at H
          exact absurd H (by simp)
         rw [if_neg c18] at H
         exact absurd H (by simp)
        rw [if_neg c15] at H
        exact absurd H (by simp)
       rw [if_neg c13] at H
       have c13b0 : decide (x25_2 < (y110.length : Int)) = false := decide_eq_false c13
       try (have c13b0y := c13b0; simp only [hl6_2] at c13b0y)
       clear c13
       simp only [Option.some.injEq, Prod.mk.injEq] at H
       obtain ⟨rfl, rfl⟩ := H
       have hcv23 := own_string (P := Tryz.prog) Tryz.underlying35 Tryz.underlying5 Tryz.underlying9 (Kd.own_of_R HO_6.out)
       go_wp2
       go_ret2
       exact ⟨by first | rfl | (simp [errW_none, errW_some] <;> rfl) | (simp [*, errW_none, errW_some] <;> rfl), bel_⟩
    rw [if_neg c9] at H
    exact absurd H (by simp)
   rw [if_neg c8] at H
   exact absurd H (by simp)
def inode_number.f (k : Nat) (a0 : Int) (a1 : Int) : Option (ByteArray) := (pack_Number.f k a0 a1).bind fun bt114 => (some bt114.1)
theorem inode_number.mono : ∀ a0 a1 k, LeO (inode_number.f k a0 a1) (inode_number.f (k + 1) a0 a1) := by
 intro a0 a1 k
 unfold inode_number.f
 repeat' first
   | (with_reducible exact pack_Number.mono _ _ _)
   | (with_reducible exact LeO.refl _)
   | (with_reducible exact LeO.none _)
   | (with_reducible refine LeO.ite ?_ ?_)
   | (with_reducible refine LeO.bind ?_ (fun _ => ?_))
   | exact pack_Number.mono _ _ _
   | exact LeO.none _
   | refine LeO.ite ?_ ?_
   | refine LeO.bind ?_ (fun _ => ?_)
set_option maxHeartbeats 8000000 in
set_option maxRecDepth 100000 in
theorem inode_number.calls (k : Nat) (a0 : Int) (a1 : Int) (r : ByteArray) (w : World) (h : inode_number.f k a0 a1 = some r) :
  Calls Tryz.prog 103 #[.int .u64 a0, .int .i64 a1] w fun e w' => e = .returned (.string r) ∧ Below w.heap.size w w' := by
 have HB := ak_ (Below.refl w.heap.size w)
 have H : ((pack_Number.f k a0 a1).bind fun bt114 => (some bt114.1)) = some r := h
 clear h
 replace H := Option.bind_eq_some_iff.mp H
 obtain ⟨⟨t114, t115⟩, A30, H⟩ := H
 replace H : (some t114) = some r := H
 have A3 := ak_ A30
 clear A30
 obtain rfl := Option.some.inj H
 go_enter Tryz.func103, Tryz.ntmps103
 go_wp2_with (first | ((with_reducible refine gate_callee (f := 50) rfl ?_); refine gl_ (some 10) Tryz.func50 #[.int .u64 a0, .int .i64 a1] ?_; (with_reducible refine (pack_Number.calls k a0 a1 t114 t115 _ A3.out).mono ?_); rintro e w4 ⟨rfl, hb⟩; refine ⟨_, rfl, ?_⟩; replace HB := hb_ hb; (try clear hb); (try clear hb2); (try clear hk); (try clear hi)))
 go_ret
 exact ⟨by first | rfl | (simp [errW_none, errW_some] <;> rfl) | (simp [*, errW_none, errW_some] <;> rfl), bel_⟩
end Go.Proofs.YtfkofbabeghgkaaGreat.Z
end

section
namespace Go.Proofs.YtfkofbabeghgkaaGreat.Z
attribute [local go_sem ↓] Go.wp_at_zero Go.wp_at_succ
theorem disable (w : World) : (callFunc 147 #[]).run Tryz.prog w = .ok (.value (.tuple #[])) w := run_call_mark0 Tryz.func147 (by kernel_rfl) (by kernel_rfl) (by kernel_rfl) .disable (by kernel_rfl) w
theorem enable (w : World) : (callFunc 149 #[]).run Tryz.prog w = .ok (.value (.tuple #[])) w := run_call_mark0 Tryz.func149 (by kernel_rfl) (by kernel_rfl) (by kernel_rfl) .enable (by kernel_rfl) w
theorem acquire (a : Addr) (w : World) : (callFunc 150 #[.pointer (some a)]).run Tryz.prog w = .ok (.value (.tuple #[])) w := run_call_marked Tryz.func150 (by kernel_rfl) (by kernel_rfl) (by kernel_rfl) .acquire (by kernel_rfl) a w
theorem releaseMerge (a : Addr) (w : World) : (callFunc 152 #[.pointer (some a)]).run Tryz.prog w = .ok (.value (.tuple #[])) w := run_call_marked Tryz.func152 (by kernel_rfl) (by kernel_rfl) (by kernel_rfl) .releaseMerge (by kernel_rfl) a w
def lets (d s c0 c1 c2 c3 c4 : Int) (m : Int := 0) : Obj := .cells #[.int .u32 d, .int .i32 m, .int .u32 s, .int .u8 c0, .int .u8 c1, .int .u8 c2, .int .u8 c3, .int .u8 c4] 189 (0, 0)
theorem store_deferred (g : Nat) (s c0 c1 c2 c3 c4 m d : Int) (u : FrameMode) (w : World) (hb : w.heap[g]? = some (lets d s c0 c1 c2 c3 c4 m)) :
    CallsD Tryz.prog 129 #[.pointer (some ⟨g, 0, none⟩), .bool true] u w fun e u' w' => u' = u ∧ (e = .returned (.tuple #[]) ∧ Step g w w' (lets 1 s c0 c1 c2 c3 c4 m)) := by
  have hc' : w.drew.cell? ⟨g, 0, none⟩ = some (.int .u32 d) := (blk_cell (blk_drew hb) 0).trans rfl
  have hz' : w.drew.frozen? ⟨g, 0, none⟩ = false := blk_frozen (blk_drew hb) 0
  have hst := run_call_store (P := Tryz.prog) Tryz.func142 (by kernel_rfl) (by kernel_rfl) (by kernel_rfl) (by kernel_rfl) (k := .u32) (y := 1) hc' hz'
  have HS : Aside0 (Step g w (w.setCell ⟨g, 0, none⟩ (.int .u32 1)).drew (lets 1 s c0 c1 c2 c3 c4 m)) := ⟨((Step.refl hb).set 0 _ rfl).drew⟩
  clear hb
  go_enter_d Tryz.func129, Tryz.ntmps129
  go_wp2
  go_region_calls
  all_goals (go_end0; first | exact ⟨rfl, rfl, HS.out⟩ | exact ⟨rfl, HS.out⟩ | exact HS.out)
set_option maxRecDepth 100000 in
set_option maxHeartbeats 1600000 in
theorem unlock_deferred (g : Nat) (s c0 c1 c2 c3 c4 d : Int) (u : FrameMode) (w : World) (hb : w.heap[g]? = some (lets d s c0 c1 c2 c3 c4 1)) :
    CallsD Tryz.prog 128 #[.pointer (some ⟨g, 1, none⟩)] u w fun e u' w' => u' = u ∧ (e = .returned (.tuple #[]) ∧ Step g w w' (lets d s c0 c1 c2 c3 c4)) := by
  have hc : w.cell? ⟨g, 1, none⟩ = some (.int .i32 1) := (blk_cell hb 1).trans rfl
  have hz : w.frozen? ⟨g, 1, none⟩ = false := blk_frozen hb 1
  have HS : Aside0 (Step g w (w.setCell ⟨g, 1, none⟩ (.int .i32 0)) (lets d s c0 c1 c2 c3 c4)) := ⟨(Step.refl hb).set 1 _ rfl⟩
  clear hb
  have hd := disable
  have he := enable
  have hr := releaseMerge
  have hadd := run_call_add (P := Tryz.prog) Tryz.func153 (by kernel_rfl) (by kernel_rfl) (by kernel_rfl) .i32 (by kernel_rfl) (y := -1) (s := 0) hc hz (by simp [go_sem]; rfl)
  have hcv := run_convert_to_unsafe (P := Tryz.prog) (src := 207) (dst := 154) Tryz.underlying207 Tryz.underlying154 (by kernel_rfl) hc
  go_enter_d Tryz.func128, Tryz.ntmps128
  go_wp2
  go_end0
  go_wp2
  go_end0
  first | exact ⟨rfl, rfl, HS.out⟩ | exact ⟨rfl, HS.out⟩ | exact HS.out
set_option maxRecDepth 100000 in
set_option maxHeartbeats 1600000 in
theorem lock_free (g : Nat) (s c0 c1 c2 c3 c4 d : Int) (w : World) (hb : w.heap[g]? = some (lets d s c0 c1 c2 c3 c4)) :
    Calls Tryz.prog 127 #[.pointer (some ⟨g, 1, none⟩)] w fun e w' => e = .returned (.tuple #[]) ∧ Step g w w' (lets d s c0 c1 c2 c3 c4 1) := by
  have hc : w.cell? ⟨g, 1, none⟩ = some (.int .i32 0) := (blk_cell hb 1).trans rfl
  have hz : w.frozen? ⟨g, 1, none⟩ = false := blk_frozen hb 1
  have HS : Aside0 (Step g w (w.setCell ⟨g, 1, none⟩ (.int .i32 1)) (lets d s c0 c1 c2 c3 c4 1)) := ⟨(Step.refl hb).set 1 _ rfl⟩
  clear hb
  have hd := disable
  have he := enable
  have ha := acquire
  have hcas := run_call_cas_hit (P := Tryz.prog) Tryz.func148 (by kernel_rfl) (by kernel_rfl) (by kernel_rfl) .i32 (by kernel_rfl) (y := 1) hc hz
  have hc' : (w.setCell ⟨g, 1, none⟩ (.int .i32 1)).cell? ⟨g, 1, none⟩ = some (.int .i32 1) := World.cell?_setCell_same w ⟨g, 1, none⟩ _ hc
  have hcv := run_convert_to_unsafe (P := Tryz.prog) (src := 207) (dst := 154) Tryz.underlying207 Tryz.underlying154 (by kernel_rfl) hc'
  go_enter Tryz.func127, Tryz.ntmps127
  go_wp2
  first | go_end0 | (simp only [Exit.inBlock, Exit.then]; refine bodyPost_ret (results_none rfl _ _ _) rfl ?_) | refine bodyPost_ret (results_none rfl _ _ _) rfl ?_
  go_wp2
  go_end0
  exact ⟨rfl, HS.out⟩
set_option maxRecDepth 100000 in
set_option maxHeartbeats 1600000 in
theorem laid (g : Nat) (pl : Addr) (w : World) (hpg : ¬ pl.block = g) (hp : w.cell? pl = some (.pointer (some ⟨g, 0, none⟩))) (d s c0 c1 c2 c3 c4 m : Int) (hb : w.heap[g]? = some (lets d s c0 c1 c2 c3 c4 m)) :
    Calls Tryz.prog 138 #[.pointer (some pl)] w fun e w' => e = .returned (.tuple #[]) ∧ Step g w w' (lets d s c0 105 100 99 120 m) := by
  have hfar : ∀ (W : World) (j : Nat) (v : Value), (W.setCell ⟨g, j, none⟩ v).cell? pl = W.cell? pl := fun W j v => World.cell?_setCell_other W ⟨g, j, none⟩ pl v (fun h => hpg (by rw [← h]))
  have h4 : w.cell? ⟨g, 4, none⟩ = some (.int .u8 c1) := (blk_cell hb 4).trans rfl
  have h5 : w.cell? ⟨g, 5, none⟩ = some (.int .u8 c2) := (blk_cell hb 5).trans rfl
  have h6 : w.cell? ⟨g, 6, none⟩ = some (.int .u8 c3) := (blk_cell hb 6).trans rfl
  have h7 : w.cell? ⟨g, 7, none⟩ = some (.int .u8 c4) := (blk_cell hb 7).trans rfl
  have f4 : w.frozen? ⟨g, 4, none⟩ = false := blk_frozen hb 4
  have f5 : w.frozen? ⟨g, 5, none⟩ = false := blk_frozen hb 5
  have f6 : w.frozen? ⟨g, 6, none⟩ = false := blk_frozen hb 6
  have f7 : w.frozen? ⟨g, 7, none⟩ = false := blk_frozen hb 7
  have HS : Aside0 (Step g w ((((w.setCell ⟨g, 4, none⟩ (.int .u8 105)).setCell ⟨g, 5, none⟩ (.int .u8 100)).setCell ⟨g, 6, none⟩ (.int .u8 99)).setCell ⟨g, 7, none⟩ (.int .u8 120)).drew (lets d s c0 105 100 99 120 m)) := ⟨(((((Step.refl hb).set 4 _ rfl).set 5 _ rfl).set 6 _ rfl).set 7 _ rfl).drew⟩
  clear hb
  go_enter Tryz.func138, Tryz.ntmps138
  go_wp2
  go_region_held3 (fun w' => w'.cell? pl = some (.pointer (some ⟨g, 0, none⟩))) (go_keep) (fail)
  all_goals (go_end0; exact ⟨rfl, HS.out⟩)
theorem loads_one (a : Addr) (d : Int) (w : World) (h : w.cell? a = some (.int .u32 d)) : Calls Tryz.prog 105 #[.pointer (some a)] w fun e w' => e = .returned (.bool (d != 0)) ∧ w' = w := by
  have hl := run_call_load (P := Tryz.prog) Tryz.func126 (by kernel_rfl) (by kernel_rfl) (by kernel_rfl) .u32 (by kernel_rfl) h
  go_enter Tryz.func105, Tryz.ntmps105
  go_wp2
  go_ret
  exact ⟨rfl, rfl⟩
set_option maxRecDepth 100000 in
set_option maxHeartbeats 3200000 in
theorem slow (g : Nat) (pl : Addr) (w : World) (hpg : ¬ pl.block = g) (hp : w.cell? pl = some (.pointer (some ⟨g, 0, none⟩))) (s c0 c1 c2 c3 c4 : Int) (hb : w.heap[g]? = some (lets 0 s c0 c1 c2 c3 c4)) :
    Calls Tryz.prog 106 #[.pointer (some ⟨g, 0, none⟩), .func (.func 138) #[] #[.pointer (some pl)]] w fun e w' => e = .returned (.tuple #[]) ∧ Step g w w' (lets 1 s c0 105 100 99 120) := by
  have hnot : ∀ (x : Bool) (w : World), (Op.unary .not (.bool x)).run Tryz.prog w = .ok (.bool (!x)) w := fun _ _ => rfl
  have HB := ak_ hb
  have HP := ak_ hp
  clear hp hb
  go_enter_defers Tryz.func106, Tryz.ntmps106
  go_wp2_with (go_at_call 127; refine (lock_free g s c0 c1 c2 c3 c4 0 _ HB.out).mono ?_; rintro e w1 ⟨rfl, h1⟩; have S1 := ak_ h1; clear h1)
  have HP1 : Aside0 (w1.cell? pl = some (.pointer (some ⟨g, 0, none⟩))) := ⟨keep_cell S1.out.2.1 HP.out hpg⟩
  go_wp2_with (first | (go_at_call 105; refine (loads_one ⟨g, 0, none⟩ 0 _ ((blk_cell S1.out.1 0).trans rfl)).mono ?_; rintro e w' ⟨rfl, rfl⟩) | (go_at_call 138; refine (laid g pl _ hpg HP1.out 0 s c0 c1 c2 c3 c4 1 S1.out.1).mono ?_; rintro e w2 ⟨rfl, h2⟩; have S2 := ak_ h2; clear h2))
  refine leaves_cons (f := 129) (args := #[.pointer (some ⟨g, 0, none⟩), .bool true]) (by simp) (by simp [go_sem]) ?_
  refine (store_deferred g s c0 105 100 99 120 1 0 .returning _ S2.out.1).mono ?_
  rintro e u' w3 ⟨rfl, rfl, S3⟩
  refine leaves_cons (f := 128) (args := #[.pointer (some ⟨g, 1, none⟩)]) (by simp [settle]) (by simp [go_sem]) ?_
  refine (unlock_deferred g s c0 105 100 99 120 1 _ _ S3.1).mono ?_
  rintro e u' w4 ⟨rfl, rfl, S4⟩
  have S5 : Aside0 (Step g w w4 (lets 1 s c0 105 100 99 120)) := ⟨((S1.out.trans S2.out).trans S3).trans S4⟩
  clear S1 S2 S3 S4 HB HP HP1
  have S6 := S5.out
  simp [Leaves, settle, results, Tryz.results106, S6]
set_option maxRecDepth 100000 in
set_option maxHeartbeats 1600000 in
theorem do_first (g : Nat) (pl : Addr) (w : World) (hpg : ¬ pl.block = g) (hp : w.cell? pl = some (.pointer (some ⟨g, 0, none⟩))) (s c0 c1 c2 c3 c4 : Int) (hb : w.heap[g]? = some (lets 0 s c0 c1 c2 c3 c4)) :
    Calls Tryz.prog 79 #[.pointer (some ⟨g, 0, none⟩), .func (.func 138) #[] #[.pointer (some pl)]] w fun e w' => e = .returned (.tuple #[]) ∧ Step g w w' (lets 1 s c0 105 100 99 120) := by
  have hnot : ∀ (x : Bool) (w : World), (Op.unary .not (.bool x)).run Tryz.prog w = .ok (.bool (!x)) w := fun _ _ => rfl
  have HB := ak_ hb
  have HP := ak_ hp
  clear hb hp
  go_enter Tryz.func79, Tryz.ntmps79
  go_wp2_with (first | (go_at_call 105; refine (loads_one ⟨g, 0, none⟩ 0 _ ((blk_cell HB.out 0).trans rfl)).mono ?_; rintro e w' ⟨rfl, rfl⟩) | (go_at_call 106; refine (slow g pl _ hpg HP.out s c0 c1 c2 c3 c4 HB.out).mono ?_; rintro e w1 ⟨rfl, h1⟩; have S1 := ak_ h1; clear h1))
  go_end0
  exact ⟨rfl, S1.out⟩
theorem do_done (a : Addr) (d : Int) (hd : ¬ d = 0) (fv : Value) (w : World) (h0 : w.cell? a = some (.int .u32 d)) :
    Calls Tryz.prog 79 #[.pointer (some a), fv] w fun e w' => e = .returned (.tuple #[]) ∧ w' = w := by
  have hnot : ∀ (x : Bool) (w : World), (Op.unary .not (.bool x)).run Tryz.prog w = .ok (.bool (!x)) w := fun _ _ => rfl
  have hd' : (d != 0) = true := by simp [hd]
  have hd2 : (!(d != 0)) = false := by simp [hd]
  have H0 := ak_ h0
  clear h0
  go_enter Tryz.func79, Tryz.ntmps79
  go_wp2_with (go_at_call 105; refine (loads_one a d _ H0.out).mono ?_; rintro e w' ⟨rfl, rfl⟩; try rw [hd'])
  go_end0
  exact ⟨rfl, rfl⟩
theorem do_any (g : Nat) (pl : Addr) (w : World) (hpg : ¬ pl.block = g) (hp : w.cell? pl = some (.pointer (some ⟨g, 0, none⟩))) (d s c0 c1 c2 c3 c4 : Int) (hb : w.heap[g]? = some (lets d s c0 c1 c2 c3 c4)) (hd : d = 0 ∨ d = 1 ∧ c1 = 105 ∧ c2 = 100 ∧ c3 = 99 ∧ c4 = 120) :
    Calls Tryz.prog 79 #[.pointer (some ⟨g, 0, none⟩), .func (.func 138) #[] #[.pointer (some pl)]] w fun e w' => e = .returned (.tuple #[]) ∧ Step g w w' (lets 1 s c0 105 100 99 120) := by
  rcases hd with rfl | ⟨rfl, rfl, rfl, rfl, rfl⟩
  · exact do_first g pl w hpg hp s c0 c1 c2 c3 c4 hb
  · refine (do_done ⟨g, 0, none⟩ 1 (by decide) _ w ((blk_cell hb 0).trans rfl)).mono ?_
    rintro e w' ⟨rfl, rfl⟩
    exact ⟨rfl, Step.refl hb⟩
def letterOf (k : Int) : Int := if k = 1 then 105 else if k = 2 then 100 else if k = 3 then 99 else if k = 4 then 120 else 0
set_option maxRecDepth 100000 in
set_option maxHeartbeats 1600000 in
theorem letter (g : Nat) (k : Int) (hk0 : 0 ≤ k) (w : World) (d s c1 c2 c3 c4 : Int) (hb : w.heap[g]? = some (lets d s 0 c1 c2 c3 c4)) (hd : d = 0 ∨ d = 1 ∧ c1 = 105 ∧ c2 = 100 ∧ c3 = 99 ∧ c4 = 120) :
    Calls Tryz.prog 124 #[.pointer (some ⟨g, 0, none⟩), .int .u8 k] w fun e w' => e = .returned (.int .u8 (letterOf k)) ∧
      (w'.heap[g]? = some (lets 1 s 0 105 100 99 120) ∧ KeepBut w w' g none ∧ ∀ B, B ≤ g → B ≤ w.heap.size → Below B w w') := by
  have hmf : ∀ (fn : Fn) (first cap : Array Value) (w : World), (Instr.makeFunc fn first cap).run Tryz.prog w = .ok (.func fn first cap) w := fun _ _ _ _ => rfl
  have hlt := blk_lt hb
  have ka := (KeepBut.refl w g none).trans (KeepBut.of_grown (World.grownBy_alloc w (.cells #[.pointer (some ⟨g, 0, none⟩)] 200) none) g) (.inl rfl)
  have HD := ak_ (do_any g ⟨w.heap.size, 0, none⟩ (w.alloc (.cells #[.pointer (some ⟨g, 0, none⟩)] 200)) (by simp; omega) (by simp) d s 0 c1 c2 c3 c4 (blk_alloc hb _) hd)
  have HA : Aside0 (∀ B, B ≤ w.heap.size → Below B w (w.alloc (.cells #[.pointer (some ⟨g, 0, none⟩)] 200))) := ⟨fun B h => (Below.refl B w).alloc h _⟩
  have KA := ak_ ka
  have HLT := ak_ hlt
  have hp0 : (w.alloc (.cells #[.pointer (some ⟨g, 0, none⟩)] 200)).cell? ⟨w.heap.size, 0, none⟩ = some (.pointer (some ⟨g, 0, none⟩)) := by simp
  have HP0 := ak_ hp0
  clear hb ka hd hp0 hlt
  by_cases h5 : k < 5
  · have hl : ∀ w' : World, w'.heap[g]? = some (lets 1 s 0 105 100 99 120) → w'.cell? ⟨g, 3 + k.toNat, none⟩ = some (.int .u8 (letterOf k)) := by
      intro w' h
      have : k = 0 ∨ k = 1 ∨ k = 2 ∨ k = 3 ∨ k = 4 := by omega
      rcases this with rfl | rfl | rfl | rfl | rfl <;> exact (blk_cell h _).trans rfl
    have HL := ak_ hl
    clear hl
    go_enter Tryz.func124, Tryz.ntmps124
    go_wp2_with (go_at_call 79; refine HD.out.mono ?_; rintro e w1 ⟨rfl, ⟨hb1, hk1, hB1⟩⟩; have hq := HL.out w1 hb1; have hp1 : w1.cell? ⟨w.heap.size, 0, none⟩ = some (.pointer (some ⟨g, 0, none⟩)) := keep_cell hk1 HP0.out (by have := HLT.out; simp; omega); have HB1 := ak_ hb1; have HK1 := ak_ hk1; have HBB := ak_ hB1; clear hb1 hk1 hB1)
    go_ret
    exact ⟨rfl, HB1.out, KA.out.trans HK1.out (.inl rfl), fun B h h2 => (HA.out B h2).trans (HBB.out B h)⟩
  · have hge : 5 ≤ k := by omega
    have h0 : letterOf k = 0 := by unfold letterOf; repeat' (first | rw [if_neg (by omega)] | rfl)
    rw [h0]
    go_enter Tryz.func124, Tryz.ntmps124
    go_wp2_with (go_at_call 79; refine HD.out.mono ?_; rintro e w1 ⟨rfl, ⟨hb1, hk1, hB1⟩⟩; have HB1 := ak_ hb1; have HK1 := ak_ hk1; have HBB := ak_ hB1; clear hb1 hk1 hB1)
    go_ret
    exact ⟨rfl, HB1.out, KA.out.trans HK1.out (.inl rfl), fun B h h2 => (HA.out B h2).trans (HBB.out B h)⟩
end Go.Proofs.YtfkofbabeghgkaaGreat.Z
end

section
namespace Go.Proofs.YtfkofbabeghgkaaGreat.Z
attribute [local go_sem ↓] Go.wp_at_zero Go.wp_at_succ
def letterB (k : Int) : ByteArray := if k = 1 then ⟨#[105]⟩ else if k = 2 then ⟨#[100]⟩ else if k = 3 then ⟨#[99]⟩ else if k = 4 then ⟨#[120]⟩ else ⟨#[]⟩
def inode_Prefix.f (k : Nat) (a0 a1 : Int) : Option ByteArray := if 0 ≤ a0 then if letterOf a0 = 0 then some ⟨#[]⟩ else (inode_number.f k (IntKind.u64.wrap a1) 4).bind fun t => if 1 + t.size ≤ 9223372036854775807 then some (letterB a0 ++ t) else none else none
theorem inode_Prefix.mono : ∀ a0 a1 k, LeO (inode_Prefix.f k a0 a1) (inode_Prefix.f (k + 1) a0 a1) := by
  intro a0 a1 k
  unfold inode_Prefix.f
  repeat' first
      | (with_reducible exact inode_number.mono _ _ _)
      | (with_reducible exact LeO.refl _)
      | (with_reducible exact LeO.none _)
      | (with_reducible refine LeO.ite ?_ ?_)
      | (with_reducible refine LeO.bind ?_ (fun _ => ?_))
theorem conv_one (W : World) (g : Nat) (c : Int) (h : W.cell? ⟨g, 0, none⟩ = some (.int .u8 c)) :
    (convert 35 9 (.slice (some ⟨g, 0, none⟩) 1 1)).run Tryz.prog W = .ok (.string ⟨#[UInt8.ofNat c.toNat]⟩) W := by
  have hc : ∀ i, i < 1 → W.cell? ⟨g, 0 + i, none⟩ = some (.int .u8 ([c].getD i 0)) := by
    intro i hi
    match i, hi with
    | 0, _ => exact h
  exact run_convert_bytes_arg (P := Tryz.prog) W 35 5 Tryz.underlying35 Tryz.underlying5 g 0 1 1 [c] rfl hc 9 Tryz.underlying9
set_option maxRecDepth 100000 in
set_option maxHeartbeats 1600000 in
theorem prefix_of (k : Nat) (a0 a1 c : Int) (C : ByteArray) (hC : letterOf a0 = c) (h0 : 0 ≤ a0) (hcC : C = ⟨#[UInt8.ofNat c.toNat]⟩) (hc0 : ¬ c = 0) (t : ByteArray) (ht : inode_number.f k (IntKind.u64.wrap a1) 4 = some t) (hs : 1 + t.size ≤ 9223372036854775807) (w : World) :
    Calls Tryz.prog 102 #[.int .u8 a0, .int .u32 a1] w fun e w' => e = .returned (.string (C ++ t)) ∧ Below w.heap.size w w' := by
  have HL := ak_ (letter w.heap.size a0 h0 (w.alloc (lets 0 0 0 0 0 0 0)) 0 0 0 0 0 0 (blk_new w _) (.inl rfl))
  have HB0 : Aside0 (Below w.heap.size w (w.alloc (lets 0 0 0 0 0 0 0))) := ⟨below_alloc (Below.refl _ _) _⟩
  rw [hC] at HL
  clear hC
  have HT := ak_ ht
  clear ht
  subst hcC
  have s1 : (9223372036854775807 < 1 + t.size) = False := eq_false (by omega)
  have s2 : decide (9223372036854775807 < 1 + t.size) = false := decide_eq_false (by omega)
  have s3 : decide (1 + t.size ≤ 9223372036854775807) = true := decide_eq_true hs
  have e1 : (c == 0) = false := by simp [hc0]
  have hcv : ∀ (W : World) (g : Nat), W.cell? ⟨g, 0, none⟩ = some (.int .u8 c) → (convert 35 9 (.slice (some ⟨g, 0, none⟩) 1 1)).run Tryz.prog W = .ok (.string ⟨#[UInt8.ofNat c.toNat]⟩) W := fun W g h => conv_one W g c h
  go_enter Tryz.func102, Tryz.ntmps102
  go_wp2_with (go_at_call 124; refine HL.out.mono ?_; rintro e w1 ⟨rfl, ⟨hb1, hk1, hB1⟩⟩; have HB1 : Aside0 (Below w.heap.size w w1) := ⟨HB0.out.trans (hB1 _ (Nat.le_refl _) (by simp))⟩; clear hb1 hk1 hB1)
  go_region_with ((go_at_call 103; refine (inode_number.calls k _ 4 t _ HT.out).mono ?_; rintro e w2 ⟨rfl, hb⟩; have hcx := hb.cell (p := ⟨w1.heap.size, 0, none⟩); (try simp at hcx); have HBB := ak_ hb; clear hb))
  all_goals
    go_wp2
    go_ret
    exact ⟨rfl, by repeat (first | with_reducible exact HB1.out | with_reducible apply below_alloc | with_reducible apply below_drew1 | (refine below_step ?_ HBB.out))⟩
set_option maxRecDepth 100000 in
theorem prefix_none (a0 a1 : Int) (hC : letterOf a0 = 0) (h0 : 0 ≤ a0) (w : World) :
    Calls Tryz.prog 102 #[.int .u8 a0, .int .u32 a1] w fun e w' => e = .returned (.string ⟨#[]⟩) ∧ Below w.heap.size w w' := by
  have HL := ak_ (letter w.heap.size a0 h0 (w.alloc (lets 0 0 0 0 0 0 0)) 0 0 0 0 0 0 (blk_new w _) (.inl rfl))
  have HB0 : Aside0 (Below w.heap.size w (w.alloc (lets 0 0 0 0 0 0 0))) := ⟨below_alloc (Below.refl _ _) _⟩
  rw [hC] at HL
  clear hC
  go_enter Tryz.func102, Tryz.ntmps102
  go_wp2_with (go_at_call 124; refine HL.out.mono ?_; rintro e w1 ⟨rfl, ⟨hb1, hk1, hB1⟩⟩; have HB1 : Aside0 (Below w.heap.size w w1) := ⟨HB0.out.trans (hB1 _ (Nat.le_refl _) (by simp))⟩; clear hb1 hk1 hB1)
  go_ret
  exact ⟨rfl, HB1.out⟩
theorem inode_Prefix.calls (k : Nat) (a0 a1 : Int) (r : ByteArray) (w : World) (h : inode_Prefix.f k a0 a1 = some r) :
    Calls Tryz.prog 102 #[.int .u8 a0, .int .u32 a1] w fun e w' => e = .returned (.string r) ∧ Below w.heap.size w w' := by
  unfold inode_Prefix.f at h
  by_cases h0 : 0 ≤ a0
  · rw [if_pos h0] at h
    by_cases hC : letterOf a0 = 0
    · rw [if_pos hC] at h
      obtain rfl := Option.some.inj h
      exact prefix_none a0 a1 hC h0 w
    · rw [if_neg hC] at h
      obtain ⟨t, ht, h⟩ := Option.bind_eq_some_iff.mp h
      split at h
      case isFalse => cases h
      case isTrue hs =>
        obtain rfl := Option.some.inj h
        refine prefix_of k a0 a1 _ (letterB a0) rfl h0 ?_ hC t ht hs w
        unfold letterOf at hC ⊢
        unfold letterB
        repeat' (first | rfl | split | (exfalso; omega))
        all_goals first | rfl | (exfalso; simp_all)
  · rw [if_neg h0] at h
    cases h
end Go.Proofs.YtfkofbabeghgkaaGreat.Z
end

section
namespace Go.Proofs.YtfkofbabeghgkaaGreat.Z
attribute [local go_sem] max2_int min2_int max_two min_two max_three min_three max_four min_four   -- for this text's walks alone
def inode_Key.f (k : Nat) (a0_0 : Int) (a0_1 : Int) (a0_2 : ByteArray) (a0_3 : Int) : Option (ByteArray × Int) := (inode_right.f k a0_0 a0_1 a0_2 a0_3).bind fun t117 => (if t117 = true then ((inode_Prefix.f k a0_0 a0_1).bind fun t118 => (if a0_0 = 3 then ((inode_number.f k (IntKind.u64.wrap (a0_3)) 4).bind fun t119 => (if t118.size + t119.size ≤ 9223372036854775807 then (some (t118 ++ t119, 0)) else (none))) else (if t118.size + a0_2.size ≤ 9223372036854775807 then (some (t118 ++ a0_2, 0)) else (none)))) else (some ((⟨#[]⟩ : ByteArray), 4)))
theorem inode_Key.mono : ∀ a0 a1 a2 a3 k, LeO (inode_Key.f k a0 a1 a2 a3) (inode_Key.f (k + 1) a0 a1 a2 a3) := by
 intro a0 a1 a2 a3 k
 unfold inode_Key.f
 repeat' first
   | (with_reducible exact inode_Prefix.mono _ _ _)
   | (with_reducible exact inode_number.mono _ _ _)
   | (with_reducible exact inode_right.mono _ _ _ _ _)
   | (with_reducible exact LeO.refl _)
   | (with_reducible exact LeO.none _)
   | (with_reducible refine LeO.ite ?_ ?_)
   | (with_reducible refine LeO.bind ?_ (fun _ => ?_))
   | exact inode_Prefix.mono _ _ _
   | exact inode_number.mono _ _ _
   | exact inode_right.mono _ _ _ _ _
   | exact LeO.none _
   | refine LeO.ite ?_ ?_
   | refine LeO.bind ?_ (fun _ => ?_)
set_option maxHeartbeats 8000000 in
set_option maxRecDepth 100000 in
theorem inode_Key.calls (k : Nat) (a0_0 : Int) (a0_1 : Int) (a0_2 : ByteArray) (a0_3 : Int) (r1 : ByteArray) (r2 : Int) (w : World) (h : inode_Key.f k a0_0 a0_1 a0_2 a0_3 = some (r1, r2)) :
  Calls Tryz.prog 77 #[.agg #[.int .u8 a0_0, .int .u32 a0_1, .string a0_2, .int .u32 a0_3]] w fun e w' => e = .returned (.tuple #[.string r1, .int .i64 r2]) ∧ Below w.heap.size w w' := by
 have hu106 := Tryz.underlying106
 have HB := ak_ (Below.refl w.heap.size w)
 have H : ((inode_right.f k a0_0 a0_1 a0_2 a0_3).bind fun t117 => (if t117 = true then ((inode_Prefix.f k a0_0 a0_1).bind fun t118 => (if a0_0 = 3 then ((inode_number.f k (IntKind.u64.wrap (a0_3)) 4).bind fun t119 => (if t118.size + t119.size ≤ 9223372036854775807 then (some (t118 ++ t119, 0)) else (none))) else (if t118.size + a0_2.size ≤ 9223372036854775807 then (some (t118 ++ a0_2, 0)) else (none)))) else (some ((⟨#[]⟩ : ByteArray), 4)))) = some (r1, r2) := h
 clear h
 replace H := Option.bind_eq_some_iff.mp H
 obtain ⟨t117, A20, H⟩ := H
 replace H : (if t117 = true then ((inode_Prefix.f k a0_0 a0_1).bind fun t118 => (if a0_0 = 3 then ((inode_number.f k (IntKind.u64.wrap (a0_3)) 4).bind fun t119 => (if t118.size + t119.size ≤ 9223372036854775807 then (some (t118 ++ t119, 0)) else (none))) else (if t118.size + a0_2.size ≤ 9223372036854775807 then (some (t118 ++ a0_2, 0)) else (none)))) else (some ((⟨#[]⟩ : ByteArray), 4))) = some (r1, r2) := H
 have A2 := ak_ A20
 clear A20
 by_cases c3 : t117 = true
 ·subst c3
  have H1 : ((inode_Prefix.f k a0_0 a0_1).bind fun t118 => (if a0_0 = 3 then ((inode_number.f k (IntKind.u64.wrap (a0_3)) 4).bind fun t119 => (if t118.size + t119.size ≤ 9223372036854775807 then (some (t118 ++ t119, 0)) else (none))) else (if t118.size + a0_2.size ≤ 9223372036854775807 then (some (t118 ++ a0_2, 0)) else (none)))) = some (r1, r2) := by rw [if_pos rfl] at H; exact H
  clear H
  have H := H1
  clear H1
  replace H := Option.bind_eq_some_iff.mp H
  obtain ⟨t118, A40, H⟩ := H
  replace H : (if a0_0 = 3 then ((inode_number.f k (IntKind.u64.wrap (a0_3)) 4).bind fun t119 => (if t118.size + t119.size ≤ 9223372036854775807 then (some (t118 ++ t119, 0)) else (none))) else (if t118.size + a0_2.size ≤ 9223372036854775807 then (some (t118 ++ a0_2, 0)) else (none))) = some (r1, r2) := H
  have A4 := ak_ A40
  clear A40
  by_cases c5 : a0_0 = 3
  ·rw [if_pos c5] at H
   have c5b0 : (a0_0 == 3) = true := beq_iff_eq.mpr c5
   have c5b1 : (a0_0 != 3) = false := bne_eq_false_iff_eq.mpr c5
   clear c5
   replace H := Option.bind_eq_some_iff.mp H
   obtain ⟨t119, A60, H⟩ := H
   replace H : (if t118.size + t119.size ≤ 9223372036854775807 then (some (t118 ++ t119, 0)) else (none)) = some (r1, r2) := H
   have A6 := ak_ A60
   clear A60
   by_cases c7 : t118.size + t119.size ≤ 9223372036854775807
   ·rw [if_pos c7] at H
    have c7b0 := eq_true c7
    have c7b1 : decide (t118.size + t119.size ≤ 9223372036854775807) = true := decide_eq_true c7
    try have c7b2 : (9223372036854775807 < t118.size + t119.size) = False := eq_false (Nat.not_lt.2 c7)
    simp only [Option.some.injEq, Prod.mk.injEq] at H
    obtain ⟨rfl, rfl⟩ := H
    go_enter Tryz.func77, Tryz.ntmps77
    go_wp2_with (first | ((with_reducible refine gate_dst (N := 1) rfl ?_); refine bx_ (N := 1) (cs := #[.int .u8 a0_0, .int .u32 a0_1, .string a0_2, .int .u32 a0_3]) (t := 106) ?_; intro gb116 hg w8 hbox hb; have BK116 := ak_ (hbox); have GW116 := ge_ hg; have GE116 := ge_ hg; replace HB := hb_ hb; clear hb hbox hg; obtain ⟨hcz9_0, hcz9_1, hcz9_2, hcz9_3⟩ := cl4_ BK116; obtain ⟨hfz9_0, hfz9_1, hfz9_2, hfz9_3⟩ := fz4_ BK116) | ((with_reducible refine gate_callee (f := 101) rfl ?_); refine gl_ (some 6) Tryz.func101 #[.agg #[.int .u8 a0_0, .int .u32 a0_1, .string a0_2, .int .u32 a0_3]] ?_; (with_reducible refine (inode_right.calls k a0_0 a0_1 a0_2 a0_3 true _ A2.out).mono ?_); rintro e w10 ⟨rfl, hb⟩; refine ⟨_, rfl, ?_⟩; replace BK116 := kb_ BK116 hb; replace HB := hb_ hb; (try clear hb); (try clear hb2); (try clear hk); (try clear hi); obtain ⟨hcz11_0, hcz11_1, hcz11_2, hcz11_3⟩ := cl4_ BK116; obtain ⟨hfz11_0, hfz11_1, hfz11_2, hfz11_3⟩ := fz4_ BK116) | ((with_reducible refine gate_callee (f := 102) rfl ?_); refine gl_ (some 12) Tryz.func102 #[.int .u8 a0_0, .int .u32 a0_1] ?_; (with_reducible refine (inode_Prefix.calls k a0_0 a0_1 t118 _ A4.out).mono ?_); rintro e w12 ⟨rfl, hb⟩; refine ⟨_, rfl, ?_⟩; replace BK116 := kb_ BK116 hb; replace HB := hb_ hb; (try clear hb); (try clear hb2); (try clear hk); (try clear hi); obtain ⟨hcz13_0, hcz13_1, hcz13_2, hcz13_3⟩ := cl4_ BK116; obtain ⟨hfz13_0, hfz13_1, hfz13_2, hfz13_3⟩ := fz4_ BK116) | ((with_reducible refine gate_callee (f := 103) rfl ?_); refine goesL_ (some 20) rfl rfl Tryz.func103 (by kernel_rfl) rfl #[.int .u64 (IntKind.u64.wrap (a0_3)), .int .i64 4] rfl (by (try simp only [List.map_toArray, List.map_cons, List.map_nil]); first | done | rfl | (rw [show IntKind.u64.wrap (a0_3) = (a0_3) from IntWalk.u64_in _ (by simp only [decide_eq_false_iff_not, decide_eq_true_eq] at *; omega)]; rfl) | (simp only [List.length_drop, List.length_take]; rfl)) ?_; (with_reducible refine (inode_number.calls k (IntKind.u64.wrap (a0_3)) 4 t119 _ A6.out).mono ?_); rintro e w14 ⟨rfl, hb⟩; refine ⟨_, rfl, ?_⟩; replace BK116 := kb_ BK116 hb; replace HB := hb_ hb; (try clear hb); (try clear hb2); (try clear hk); (try clear hi)))
    go_ret2
    exact ⟨by first | rfl | (simp [errW_none, errW_some] <;> rfl) | (simp [*, errW_none, errW_some] <;> rfl), bel_⟩
   rw [if_neg c7] at H
   exact absurd H (by simp)
  rw [if_neg c5] at H
  have c5b0 : (a0_0 == 3) = false := beq_eq_false_iff_ne.mpr c5
  have c5b1 : (a0_0 != 3) = true := bne_iff_ne.mpr c5
  by_cases c15 : t118.size + a0_2.size ≤ 9223372036854775807
  ·rw [if_pos c15] at H
   have c15b0 := eq_true c15
   have c15b1 : decide (t118.size + a0_2.size ≤ 9223372036854775807) = true := decide_eq_true c15
   try have c15b2 : (9223372036854775807 < t118.size + a0_2.size) = False := eq_false (Nat.not_lt.2 c15)
   simp only [Option.some.injEq, Prod.mk.injEq] at H
   obtain ⟨rfl, rfl⟩ := H
   go_enter Tryz.func77, Tryz.ntmps77
   go_wp2_with (first | ((with_reducible refine gate_dst (N := 1) rfl ?_); refine bx_ (N := 1) (cs := #[.int .u8 a0_0, .int .u32 a0_1, .string a0_2, .int .u32 a0_3]) (t := 106) ?_; intro gb116 hg w16 hbox hb; have BK116 := ak_ (hbox); have GW116 := ge_ hg; have GE116 := ge_ hg; replace HB := hb_ hb; clear hb hbox hg; obtain ⟨hcz17_0, hcz17_1, hcz17_2, hcz17_3⟩ := cl4_ BK116; obtain ⟨hfz17_0, hfz17_1, hfz17_2, hfz17_3⟩ := fz4_ BK116) | ((with_reducible refine gate_callee (f := 101) rfl ?_); refine gl_ (some 6) Tryz.func101 #[.agg #[.int .u8 a0_0, .int .u32 a0_1, .string a0_2, .int .u32 a0_3]] ?_; (with_reducible refine (inode_right.calls k a0_0 a0_1 a0_2 a0_3 true _ A2.out).mono ?_); rintro e w18 ⟨rfl, hb⟩; refine ⟨_, rfl, ?_⟩; replace BK116 := kb_ BK116 hb; replace HB := hb_ hb; (try clear hb); (try clear hb2); (try clear hk); (try clear hi); obtain ⟨hcz19_0, hcz19_1, hcz19_2, hcz19_3⟩ := cl4_ BK116; obtain ⟨hfz19_0, hfz19_1, hfz19_2, hfz19_3⟩ := fz4_ BK116) | ((with_reducible refine gate_callee (f := 102) rfl ?_); refine gl_ (some 12) Tryz.func102 #[.int .u8 a0_0, .int .u32 a0_1] ?_; (with_reducible refine (inode_Prefix.calls k a0_0 a0_1 t118 _ A4.out).mono ?_); rintro e w20 ⟨rfl, hb⟩; refine ⟨_, rfl, ?_⟩; replace BK116 := kb_ BK116 hb; replace HB := hb_ hb; (try clear hb); (try clear hb2); (try clear hk); (try clear hi); obtain ⟨hcz21_0, hcz21_1, hcz21_2, hcz21_3⟩ := cl4_ BK116; obtain ⟨hfz21_0, hfz21_1, hfz21_2, hfz21_3⟩ := fz4_ BK116))
   go_ret2
   exact ⟨by first | rfl | (simp [errW_none, errW_some] <;> rfl) | (simp [*, errW_none, errW_some] <;> rfl), bel_⟩
  rw [if_neg c15] at H
  exact absurd H (by simp)
 replace c3 := Bool.eq_false_iff.mpr c3
 subst c3
 have H1 : (some ((⟨#[]⟩ : ByteArray), 4)) = some (r1, r2) := by rw [if_neg (show ¬ (false = true) by decide)] at H; exact H
 clear H
 have H := H1
 clear H1
 simp only [Option.some.injEq, Prod.mk.injEq] at H
 obtain ⟨rfl, rfl⟩ := H
 go_enter Tryz.func77, Tryz.ntmps77
 go_wp2_with (first | ((with_reducible refine gate_dst (N := 1) rfl ?_); refine bx_ (N := 1) (cs := #[.int .u8 a0_0, .int .u32 a0_1, .string a0_2, .int .u32 a0_3]) (t := 106) ?_; intro gb116 hg w22 hbox hb; have BK116 := ak_ (hbox); have GW116 := ge_ hg; have GE116 := ge_ hg; replace HB := hb_ hb; clear hb hbox hg; obtain ⟨hcz23_0, hcz23_1, hcz23_2, hcz23_3⟩ := cl4_ BK116; obtain ⟨hfz23_0, hfz23_1, hfz23_2, hfz23_3⟩ := fz4_ BK116) | ((with_reducible refine gate_callee (f := 101) rfl ?_); refine gl_ (some 6) Tryz.func101 #[.agg #[.int .u8 a0_0, .int .u32 a0_1, .string a0_2, .int .u32 a0_3]] ?_; (with_reducible refine (inode_right.calls k a0_0 a0_1 a0_2 a0_3 false _ A2.out).mono ?_); rintro e w24 ⟨rfl, hb⟩; refine ⟨_, rfl, ?_⟩; replace BK116 := kb_ BK116 hb; replace HB := hb_ hb; (try clear hb); (try clear hb2); (try clear hk); (try clear hi)))
 go_ret2
 exact ⟨by first | rfl | (simp [errW_none, errW_some] <;> rfl) | (simp [*, errW_none, errW_some] <;> rfl), bel_⟩
def IsS206 (w0 W : World) (g : Nat) (f0 : ByteArray) (f1 : Bool) : Prop := W.heap[g]? = some (.cells #[.string f0, .bool f1] 206 (0, 0)) ∧ w0.heap.size ≤ g
theorem IsS206.grown {w0 W : World} {g : Nat} {f0 : ByteArray} {f1 : Bool} {W1 : World} {row : Option Nat} (h : IsS206 w0 W g f0 f1) (hw : W.grownBy W1 row) (hne : some g ≠ row) : IsS206 w0 W1 g f0 f1 := by
 obtain ⟨hb, hg⟩ := h
 exact ⟨blk_grown hb hw hne, hg⟩
theorem IsS206.kept {w0 W : World} {g : Nat} {f0 : ByteArray} {f1 : Bool} {W1 : World} {S : Nat → Prop} (h : IsS206 w0 W g f0 f1) (hk : Kept W W1 S) (hne : ¬ S g) : IsS206 w0 W1 g f0 f1 := by
 obtain ⟨hb, hg⟩ := h
 exact ⟨blk_kept hb hk hne, hg⟩
theorem IsS206.below {w0 W : World} {g : Nat} {f0 : ByteArray} {f1 : Bool} {W1 : World} (h : IsS206 w0 W g f0 f1) (hw : Below W.heap.size W W1) : IsS206 w0 W1 g f0 f1 := h.grown (grown_of_below hw none) (by simp)
theorem IsS206.alloc {w0 W : World} {g : Nat} {f0 : ByteArray} {f1 : Bool} (h : IsS206 w0 W g f0 f1) (o : Obj) : IsS206 w0 (W.alloc o) g f0 f1 := h.below (below_alloc (Below.refl _ _) o)
theorem IsS206.drewN {w0 W : World} {g : Nat} {f0 : ByteArray} {f1 : Bool} (h : IsS206 w0 W g f0 f1) (m : Nat) : IsS206 w0 (W.drewN m) g f0 f1 := h
theorem IsS206.drew {w0 W : World} {g : Nat} {f0 : ByteArray} {f1 : Bool} (h : IsS206 w0 W g f0 f1) : IsS206 w0 W.drew g f0 f1 := h
theorem IsS206.at_ {w0 W : World} {g : Nat} {f0 : ByteArray} {f1 : Bool} {w' : World} {m : Nat} (hq : W.drewN m = w') (h : IsS206 w0 W g f0 f1) : IsS206 w0 w' g f0 f1 := by subst hq; exact IsS206.drewN h m
theorem IsS206.apart {w0 W : World} {g : Nat} {f0 : ByteArray} {f1 : Bool} {α : Type} {d : Kd α} {e : Nat} {base : Nat} {ok : Nat → Prop} {v : Value} {xs : List α} (h : IsS206 w0 W g f0 f1) (ho : d.R e W base ok v xs) (ht : ∀ q, q ∈ e :: d.E → q ≠ 206) : d.R e W base (fun k => ok k ∧ k ≠ g) v xs := by
 obtain ⟨hb, hg⟩ := h
 exact Kd.R_types ho hb ht
theorem IsS206.own_ne {w0 W : World} {g : Nat} {f0 : ByteArray} {f1 : Bool} {α : Type} {d : Kd α} {e : Nat} {base : Nat} {ok : Nat → Prop} {v : Value} {xs : List α} (h : IsS206 w0 W g f0 f1) (ho : d.R e W base ok v xs) (ht : e ≠ 206) : some g ≠ v.ownBlock := by
 obtain ⟨hb, hg⟩ := h
 exact Kd.R_ne ho hb ht
theorem IsS206.lt {w0 W : World} {g : Nat} {f0 : ByteArray} {f1 : Bool} (h : IsS206 w0 W g f0 f1) : g < W.heap.size := by
 obtain ⟨hb, hg⟩ := h
 exact blk_lt hb
theorem IsS206.ge {w0 W : World} {g : Nat} {f0 : ByteArray} {f1 : Bool} (h : IsS206 w0 W g f0 f1) : w0.heap.size ≤ g := by
 obtain ⟨hb, hg⟩ := h
 exact hg
theorem IsS206.far {w0 W : World} {g : Nat} {f0 : ByteArray} {f1 : Bool} {p : Addr} (h : IsS206 w0 W g f0 f1) (hne : g ≠ p.block) (u : Value) : IsS206 w0 (W.setCell p u) g f0 f1 := by
 obtain ⟨hb, hg⟩ := h
 exact ⟨blk_far hb hne u, hg⟩
theorem cellS206_0 {W : World} {g : Nat} {f0 : ByteArray} {f1 : Bool} (h : W.heap[g]? = some (.cells #[.string f0, .bool f1] 206 (0, 0))) : W.cell? ⟨g, 0, none⟩ = some (.string f0) := (blk_cell h 0).trans rfl
theorem IsS206.set_0 {w0 W : World} {g : Nat} {f0 : ByteArray} {f1 : Bool} (h : IsS206 w0 W g f0 f1) (x : ByteArray) : IsS206 w0 (W.setCell ⟨g, 0, none⟩ (.string x)) g x f1 := by
 obtain ⟨hb, hg⟩ := h
 exact ⟨by simpa using blk_set hb 0 (.string x), hg⟩
theorem cellS206_1 {W : World} {g : Nat} {f0 : ByteArray} {f1 : Bool} (h : W.heap[g]? = some (.cells #[.string f0, .bool f1] 206 (0, 0))) : W.cell? ⟨g, 1, none⟩ = some (.bool f1) := (blk_cell h 1).trans rfl
theorem IsS206.set_1 {w0 W : World} {g : Nat} {f0 : ByteArray} {f1 : Bool} (h : IsS206 w0 W g f0 f1) (x : Bool) : IsS206 w0 (W.setCell ⟨g, 1, none⟩ (.bool x)) g f0 x := by
 obtain ⟨hb, hg⟩ := h
 exact ⟨by simpa using blk_set hb 1 (.bool x), hg⟩
theorem IsS206.new (w0 W : World) (f0 : ByteArray) (f1 : Bool) (hB : Below w0.heap.size w0 W) : IsS206 w0 (W.alloc (.cells #[.string f0, .bool f1] 206)) W.heap.size f0 f1 := ⟨by simpa using heap_alloc_new W _, hB.size⟩
def inode_taker_number.f (k : Nat) (s0_0 : ByteArray) (s0_1 : Bool) (a1 : Int) : Option (Int × ByteArray × Bool) := (pack_TakeNumber.f k s0_0 a1).bind fun bt120 => (if s0_1 = true then (some (bt120.1, bt120.2.1, true)) else (some (bt120.1, bt120.2.1, (bt120.2.2 != 0))))
theorem inode_taker_number.mono : ∀ a0 a1 a2 k, LeO (inode_taker_number.f k a0 a1 a2) (inode_taker_number.f (k + 1) a0 a1 a2) := by
 intro a0 a1 a2 k
 unfold inode_taker_number.f
 repeat' first
   | (with_reducible exact pack_TakeNumber.mono _ _ _)
   | (with_reducible exact LeO.refl _)
   | (with_reducible exact LeO.none _)
   | (with_reducible refine LeO.ite ?_ ?_)
   | (with_reducible refine LeO.bind ?_ (fun _ => ?_))
   | exact pack_TakeNumber.mono _ _ _
   | exact LeO.none _
   | refine LeO.ite ?_ ?_
   | refine LeO.bind ?_ (fun _ => ?_)
set_option maxHeartbeats 8000000 in
set_option maxRecDepth 100000 in
theorem inode_taker_number.calls (k : Nat) (g : Nat) (s0_0 : ByteArray) (s0_1 : Bool) (a1 : Int) (r1 : Int) (r2 : ByteArray) (r3 : Bool) (w0 w : World) (hI : IsS206 w0 w g s0_0 s0_1) (hB : Below w0.heap.size w0 w) (h : inode_taker_number.f k s0_0 s0_1 a1 = some (r1, r2, r3)) :
  Calls Tryz.prog 144 #[.pointer (some ⟨g, 0, none⟩), .int .i64 a1] w fun e w' => e = .returned (.int .u64 r1) ∧ IsS206 w0 w' g r2 r3 ∧ Below w0.heap.size w0 w' ∧ KeepBut w w' g none := by
 have HI0 := ak_ hI
 have HK := ak_ (KeepBut.refl w g none)
 have HL := ak_ hB.size
 clear hI
 have HW0 := ak_ hB.size
 have HB := ak_ hB
 clear hB
 have H : ((pack_TakeNumber.f k s0_0 a1).bind fun bt120 => (if s0_1 = true then (some (bt120.1, bt120.2.1, true)) else (some (bt120.1, bt120.2.1, (bt120.2.2 != 0))))) = some (r1, r2, r3) := h
 clear h
 replace H := Option.bind_eq_some_iff.mp H
 obtain ⟨⟨t120, t121, t122⟩, A30, H⟩ := H
 replace H : (if s0_1 = true then (some (t120, t121, true)) else (some (t120, t121, (t122 != 0)))) = some (r1, r2, r3) := H
 have A3 := ak_ A30
 clear A30
 by_cases c4 : s0_1 = true
 ·subst c4
  have H1 : (some (t120, t121, true)) = some (r1, r2, r3) := by rw [if_pos rfl] at H; exact H
  clear H
  have H := H1
  clear H1
  simp only [Option.some.injEq, Prod.mk.injEq] at H
  obtain ⟨rfl, rfl, rfl⟩ := H
  obtain ⟨HGz5, hgz5⟩ := HI0.out
  have hcz5_0 := cellS206_0 HGz5
  have hcz5_1 := cellS206_1 HGz5
  have hfz5_0 := blk_frozen HGz5 0
  have hfz5_1 := blk_frozen HGz5 1
  clear HGz5 hgz5
  go_enter Tryz.func144, Tryz.ntmps144
  go_wp2_with (first | ((with_reducible refine gate_callee (f := 60) rfl ?_); refine gl_ (some 14) Tryz.func60 #[.string s0_0, .int .i64 a1] ?_; (with_reducible refine (pack_TakeNumber.calls k s0_0 a1 t120 t121 t122 _ A3.out).mono ?_); rintro e w' ⟨rfl, ⟨nd, rfl⟩⟩; refine ⟨_, rfl, ?_⟩))
  go_ret
  exact ⟨by first | rfl | (simp [errW_none, errW_some] <;> rfl) | (simp [*, errW_none, errW_some] <;> rfl), by repeat (first | (with_reducible first | exact HI0.out | apply IsS206.alloc | apply IsS206.drewN | apply IsS206.drew | apply IsS206.set_0 | apply IsS206.set_1) | exact HI0.out), by repeat (first | (with_reducible first | exact HB.out | apply below_alloc | apply pw_below_drewN | apply below_drew1 | refine below_set ?_ (IsS206.ge HI0.out)) | exact HB.out), by repeat (first | (with_reducible first | exact HK.out | apply KeepBut.set_ | apply keep_drewN | apply keep_drew | apply keep_alloc) | exact HK.out)⟩
 replace c4 := Bool.eq_false_iff.mpr c4
 subst c4
 have H1 : (some (t120, t121, (t122 != 0))) = some (r1, r2, r3) := by rw [if_neg (show ¬ (false = true) by decide)] at H; exact H
 clear H
 have H := H1
 clear H1
 simp only [Option.some.injEq, Prod.mk.injEq] at H
 obtain ⟨rfl, rfl, rfl⟩ := H
 obtain ⟨HGz6, hgz6⟩ := HI0.out
 have hcz6_0 := cellS206_0 HGz6
 have hcz6_1 := cellS206_1 HGz6
 have hfz6_0 := blk_frozen HGz6 0
 have hfz6_1 := blk_frozen HGz6 1
 clear HGz6 hgz6
 go_enter Tryz.func144, Tryz.ntmps144
 go_wp2_with (first | ((with_reducible refine gate_callee (f := 60) rfl ?_); refine gl_ (some 14) Tryz.func60 #[.string s0_0, .int .i64 a1] ?_; (with_reducible refine (pack_TakeNumber.calls k s0_0 a1 t120 t121 t122 _ A3.out).mono ?_); rintro e w' ⟨rfl, ⟨nd, rfl⟩⟩; refine ⟨_, rfl, ?_⟩))
 go_ret
 exact ⟨by first | rfl | (simp [errW_none, errW_some] <;> rfl) | (simp [*, errW_none, errW_some] <;> rfl), by repeat (first | (with_reducible first | exact HI0.out | apply IsS206.alloc | apply IsS206.drewN | apply IsS206.drew | apply IsS206.set_0 | apply IsS206.set_1) | exact HI0.out), by repeat (first | (with_reducible first | exact HB.out | apply below_alloc | apply pw_below_drewN | apply below_drew1 | refine below_set ?_ (IsS206.ge HI0.out)) | exact HB.out), by repeat (first | (with_reducible first | exact HK.out | apply KeepBut.set_ | apply keep_drewN | apply keep_drew | apply keep_alloc) | exact HK.out)⟩
def IsS189 (w0 W : World) (g : Nat) (f0 : Int) (f1 : Int) (f2 : Int) (f3 : Int) (f4 : Int) (f5 : Int) (f6 : Int) (f7 : Int) : Prop := W.heap[g]? = some (.cells #[.int .u32 f0, .int .i32 f1, .int .u32 f2, .int .u8 f3, .int .u8 f4, .int .u8 f5, .int .u8 f6, .int .u8 f7] 189 (0, 0)) ∧ w0.heap.size ≤ g
theorem IsS189.grown {w0 W : World} {g : Nat} {f0 : Int} {f1 : Int} {f2 : Int} {f3 : Int} {f4 : Int} {f5 : Int} {f6 : Int} {f7 : Int} {W1 : World} {row : Option Nat} (h : IsS189 w0 W g f0 f1 f2 f3 f4 f5 f6 f7) (hw : W.grownBy W1 row) (hne : some g ≠ row) : IsS189 w0 W1 g f0 f1 f2 f3 f4 f5 f6 f7 := by
  obtain ⟨hb, hg⟩ := h
  exact ⟨blk_grown hb hw hne, hg⟩
theorem IsS189.kept {w0 W : World} {g : Nat} {f0 : Int} {f1 : Int} {f2 : Int} {f3 : Int} {f4 : Int} {f5 : Int} {f6 : Int} {f7 : Int} {W1 : World} {S : Nat → Prop} (h : IsS189 w0 W g f0 f1 f2 f3 f4 f5 f6 f7) (hk : Kept W W1 S) (hne : ¬ S g) : IsS189 w0 W1 g f0 f1 f2 f3 f4 f5 f6 f7 := by
  obtain ⟨hb, hg⟩ := h
  exact ⟨blk_kept hb hk hne, hg⟩
theorem IsS189.below {w0 W : World} {g : Nat} {f0 : Int} {f1 : Int} {f2 : Int} {f3 : Int} {f4 : Int} {f5 : Int} {f6 : Int} {f7 : Int} {W1 : World} (h : IsS189 w0 W g f0 f1 f2 f3 f4 f5 f6 f7) (hw : Below W.heap.size W W1) : IsS189 w0 W1 g f0 f1 f2 f3 f4 f5 f6 f7 := h.grown (grown_of_below hw none) (by simp)
theorem IsS189.alloc {w0 W : World} {g : Nat} {f0 : Int} {f1 : Int} {f2 : Int} {f3 : Int} {f4 : Int} {f5 : Int} {f6 : Int} {f7 : Int} (h : IsS189 w0 W g f0 f1 f2 f3 f4 f5 f6 f7) (o : Obj) : IsS189 w0 (W.alloc o) g f0 f1 f2 f3 f4 f5 f6 f7 := h.below (below_alloc (Below.refl _ _) o)
theorem IsS189.drewN {w0 W : World} {g : Nat} {f0 : Int} {f1 : Int} {f2 : Int} {f3 : Int} {f4 : Int} {f5 : Int} {f6 : Int} {f7 : Int} (h : IsS189 w0 W g f0 f1 f2 f3 f4 f5 f6 f7) (m : Nat) : IsS189 w0 (W.drewN m) g f0 f1 f2 f3 f4 f5 f6 f7 := h
theorem IsS189.drew {w0 W : World} {g : Nat} {f0 : Int} {f1 : Int} {f2 : Int} {f3 : Int} {f4 : Int} {f5 : Int} {f6 : Int} {f7 : Int} (h : IsS189 w0 W g f0 f1 f2 f3 f4 f5 f6 f7) : IsS189 w0 W.drew g f0 f1 f2 f3 f4 f5 f6 f7 := h
theorem IsS189.at_ {w0 W : World} {g : Nat} {f0 : Int} {f1 : Int} {f2 : Int} {f3 : Int} {f4 : Int} {f5 : Int} {f6 : Int} {f7 : Int} {w' : World} {m : Nat} (hq : W.drewN m = w') (h : IsS189 w0 W g f0 f1 f2 f3 f4 f5 f6 f7) : IsS189 w0 w' g f0 f1 f2 f3 f4 f5 f6 f7 := by subst hq; exact IsS189.drewN h m
theorem IsS189.apart {w0 W : World} {g : Nat} {f0 : Int} {f1 : Int} {f2 : Int} {f3 : Int} {f4 : Int} {f5 : Int} {f6 : Int} {f7 : Int} {α : Type} {d : Kd α} {e : Nat} {base : Nat} {ok : Nat → Prop} {v : Value} {xs : List α} (h : IsS189 w0 W g f0 f1 f2 f3 f4 f5 f6 f7) (ho : d.R e W base ok v xs) (ht : ∀ q, q ∈ e :: d.E → q ≠ 189) : d.R e W base (fun k => ok k ∧ k ≠ g) v xs := by
  obtain ⟨hb, hg⟩ := h
  exact Kd.R_types ho hb ht
theorem IsS189.own_ne {w0 W : World} {g : Nat} {f0 : Int} {f1 : Int} {f2 : Int} {f3 : Int} {f4 : Int} {f5 : Int} {f6 : Int} {f7 : Int} {α : Type} {d : Kd α} {e : Nat} {base : Nat} {ok : Nat → Prop} {v : Value} {xs : List α} (h : IsS189 w0 W g f0 f1 f2 f3 f4 f5 f6 f7) (ho : d.R e W base ok v xs) (ht : e ≠ 189) : some g ≠ v.ownBlock := by
  obtain ⟨hb, hg⟩ := h
  exact Kd.R_ne ho hb ht
theorem IsS189.lt {w0 W : World} {g : Nat} {f0 : Int} {f1 : Int} {f2 : Int} {f3 : Int} {f4 : Int} {f5 : Int} {f6 : Int} {f7 : Int} (h : IsS189 w0 W g f0 f1 f2 f3 f4 f5 f6 f7) : g < W.heap.size := by
  obtain ⟨hb, hg⟩ := h
  exact blk_lt hb
theorem IsS189.ge {w0 W : World} {g : Nat} {f0 : Int} {f1 : Int} {f2 : Int} {f3 : Int} {f4 : Int} {f5 : Int} {f6 : Int} {f7 : Int} (h : IsS189 w0 W g f0 f1 f2 f3 f4 f5 f6 f7) : w0.heap.size ≤ g := by
  obtain ⟨hb, hg⟩ := h
  exact hg
theorem IsS189.far {w0 W : World} {g : Nat} {f0 : Int} {f1 : Int} {f2 : Int} {f3 : Int} {f4 : Int} {f5 : Int} {f6 : Int} {f7 : Int} {p : Addr} (h : IsS189 w0 W g f0 f1 f2 f3 f4 f5 f6 f7) (hne : g ≠ p.block) (u : Value) : IsS189 w0 (W.setCell p u) g f0 f1 f2 f3 f4 f5 f6 f7 := by
  obtain ⟨hb, hg⟩ := h
  exact ⟨blk_far hb hne u, hg⟩
theorem IsS189.set_0 {w0 W : World} {g : Nat} {f0 : Int} {f1 : Int} {f2 : Int} {f3 : Int} {f4 : Int} {f5 : Int} {f6 : Int} {f7 : Int} (h : IsS189 w0 W g f0 f1 f2 f3 f4 f5 f6 f7) (x : Int) : IsS189 w0 (W.setCell ⟨g, 0, none⟩ (.int .u32 x)) g x f1 f2 f3 f4 f5 f6 f7 := by
  obtain ⟨hb, hg⟩ := h
  exact ⟨by simpa using blk_set hb 0 (.int .u32 x), hg⟩
theorem IsS189.set_1 {w0 W : World} {g : Nat} {f0 : Int} {f1 : Int} {f2 : Int} {f3 : Int} {f4 : Int} {f5 : Int} {f6 : Int} {f7 : Int} (h : IsS189 w0 W g f0 f1 f2 f3 f4 f5 f6 f7) (x : Int) : IsS189 w0 (W.setCell ⟨g, 1, none⟩ (.int .i32 x)) g f0 x f2 f3 f4 f5 f6 f7 := by
  obtain ⟨hb, hg⟩ := h
  exact ⟨by simpa using blk_set hb 1 (.int .i32 x), hg⟩
theorem IsS189.new (w0 W : World) (f0 : Int) (f1 : Int) (f2 : Int) (f3 : Int) (f4 : Int) (f5 : Int) (f6 : Int) (f7 : Int) (hB : Below w0.heap.size w0 W) : IsS189 w0 (W.alloc (.cells #[.int .u32 f0, .int .i32 f1, .int .u32 f2, .int .u8 f3, .int .u8 f4, .int .u8 f5, .int .u8 f6, .int .u8 f7] 189)) W.heap.size f0 f1 f2 f3 f4 f5 f6 f7 := ⟨by simpa using heap_alloc_new W _, hB.size⟩
end Go.Proofs.YtfkofbabeghgkaaGreat.Z
end

section
namespace Go.Proofs.YtfkofbabeghgkaaGreat.Z
def inode_letters_letter.f (d m s c0 c1 c2 c3 c4 k : Int) : Option (Int × Int × Int × Int × Int × Int × Int × Int × Int) :=
  if 0 ≤ k ∧ m = 0 ∧ c0 = 0 ∧ (d = 0 ∨ d = 1 ∧ c1 = 105 ∧ c2 = 100 ∧ c3 = 99 ∧ c4 = 120) then some (letterOf k, 1, 0, s, 0, 105, 100, 99, 120) else none
theorem inode_letters_letter.calls (g : Nat) (d m s c0 c1 c2 c3 c4 k : Int) (r1 r2 r3 r4 r5 r6 r7 r8 r9 : Int) (w0 w : World) (hI : IsS189 w0 w g d m s c0 c1 c2 c3 c4) (hB : Below w0.heap.size w0 w)
    (h : inode_letters_letter.f d m s c0 c1 c2 c3 c4 k = some (r1, r2, r3, r4, r5, r6, r7, r8, r9)) :
    Calls Tryz.prog 124 #[.pointer (some ⟨g, 0, none⟩), .int .u8 k] w fun e w' => e = .returned (.int .u8 r1) ∧ IsS189 w0 w' g r2 r3 r4 r5 r6 r7 r8 r9 ∧ Below w0.heap.size w0 w' ∧ KeepBut w w' g none := by
  unfold inode_letters_letter.f at h
  split at h
  case isFalse => cases h
  case isTrue hs =>
    obtain ⟨hk, rfl, rfl, hd⟩ := hs
    simp only [Option.some.injEq, Prod.mk.injEq] at h
    obtain ⟨rfl, rfl, rfl, rfl, rfl, rfl, rfl, rfl, rfl⟩ := h
    obtain ⟨hb, hg⟩ := hI
    refine (letter g k hk w d s c1 c2 c3 c4 hb hd).mono ?_
    rintro e w' ⟨he, h1, h2, h3⟩
    exact ⟨he, ⟨h1, hg⟩, hB.trans (h3 _ hg hB.size), h2⟩
end Go.Proofs.YtfkofbabeghgkaaGreat.Z
end
