/- This session's own texts, laid together (a part that several claims share). -/
import Derived.Test.YtcphflfjhkeooaaDoorProg
import Derived.Below
import Derived.Deep.Draws
import Derived.Deep.AppendLies
import Derived.Maps.AppendAt
import Derived.OwnWalk
import Derived.Laws.BytesArg
import Derived.Laws.MakeOwn
import Derived.Laws.OwnMore
import Derived.Deep.OwnRows
import Derived.Tactics
import Derived.Lib.ConvBytes
import Derived.Laws.Slices
import Derived.WalkKit
import Derived.KernelRfl
import Derived.RowKit3
import Derived.Deep.LoopGhost
import Derived.Deep.QuietTactic
import Derived.BigQuiet
import Derived.WideLaws
import Derived.Deep.DeepCutAuto
import Derived.Deep.CutBlock
import Derived.Deep.RegionHeld3
import Derived.Laws.Rows
import Derived.Lib.AppendStr
import Derived.ArgAppend
import Derived.Laws.IdiomCopy
import Derived.OrdersHeld
import Derived.Laws.BitsLemmas
import Derived.RowKit
import Derived.Test.YtcphflfjhkeooaaDoorWWords
import Derived.Test.YtcphflfjhkeooaaDoorWLast
import Derived.Test.YtcphflfjhkeooaaDoorWTab
import Derived.Test.YtcphflfjhkeooaaDoorWQPut
import Derived.Test.YtcphflfjhkeooaaDoorWApart
import Derived.Test.YtcphflfjhkeooaaDoorWArr
import Derived.Test.YtcphflfjhkeooaaDoorWZeros
import Derived.Test.YtcphflfjhkeooaaDoorWFoot
import Derived.Test.YtcphflfjhkeooaaDoorWKept
import Derived.Test.YtcphflfjhkeooaaDoorWShare
import Derived.Test.YtcphflfjhkeooaaDoorWN
import Derived.Test.YtcphflfjhkeooaaDoorWEqStruct
import Derived.Test.YtcphflfjhkeooaaDoorWRepsOne
import Derived.Test.YtcphflfjhkeooaaDoorWGuard
import Derived.Test.YtcphflfjhkeooaaDoorWNEv
import Derived.Test.YtcphflfjhkeooaaDoorWMore
import Derived.WalkMore
import Derived.LoopTactic
import Derived.Lib.IndexLaws
import Derived.Lib.SmallJoins
import Derived.Lib.Join
import Derived.Lib.SliceRun
import Derived.Lib.AppendZeros
import Derived.Lib.Overlaps
import Derived.Deep.AppendSrc
import Derived.Deep.RegionLaw
import Derived.WalkSpells
import Derived.IntWalk
import Derived.Deep.DeepFit
import Derived.Shelf.RegionOpenPlain
import Derived.Lib.AppendZerosOnto
import Derived.Laws.NewBlocks
import Derived.Deep.DrawnRows
import Derived.RangeFuncNested
import Derived.RangeFuncBound
import Derived.RangeFuncCalls
import Derived.RangeFuncLeaves
import Derived.Shelf.Abstract
import Derived.Shelf.RegionOpen
import Derived.OwnWalkIn
import Derived.TacticsInMore
import Derived.LoopNIn
import Derived.LoopIn
import Derived.Laws.LoneSync
section
-- Printed by a program of this session (mp.py) out of the translation.
namespace Go.Proofs.YtcphflfjhkeooaaDoor.Z
open Go.RowKit Go.Proofs.YtcphflfjhkeooaaDoorW.PrintWords Go.Proofs.YtcphflfjhkeooaaDoorW.PrintLast Go.Proofs.YtcphflfjhkeooaaDoorW.PrintMore
attribute [local go_sem] max2_int min2_int max_two min_two max_three min_three max_four min_four   -- for this text's walks alone
set_option linter.unusedVariables false
set_option linter.unusedSimpArgs false



def errW : Option Int → Value
  | none => .nilIface
  | some c => .iface 0 (.int .i64 c)
theorem errW_none : errW none = .nilIface := rfl
theorem errW_some (c : Int) : errW (some c) = .iface 0 (.int .i64 c) := rfl

theorem info4 : (Tryd.prog.info? 4).map (fun i => (i.zero, i.size, i.bytes)) = some (some (.bool false), 1, 1) := by kernel_rfl
theorem info39 : (Tryd.prog.info? 39).map (fun i => (i.zero, i.size, i.bytes)) = some (some (.agg #[(.int .u32 0), (.string ⟨#[]⟩)]), 2, 24) := by kernel_rfl
-- the values' own types
/-! #### struct type 39 -/
structure S39 where
  f0 : Int
  f1 : ByteArray
def z39 : S39 := ⟨(0 : Int), (⟨#[]⟩ : ByteArray)⟩
def k39 : Kd S39 := Kd.iso (Kd.pair (Kd.int .u32) Kd.string) (fun x : S39 => (x.f0, x.f1))
theorem k39_open {w : World} {x : S39} {cs : List Value} (h : k39.K w x cs) : cs = [.int .u32 x.f0, .string x.f1] := by
  obtain ⟨_, _, rfl, rfl, rfl⟩ := h
  exact rfl
theorem k39_openM {w : World} {base : Nat} {ok : Nat → Prop} {x : S39} {cs : List Value} (h : k39.M w base ok x cs) : cs = [.int .u32 x.f0, .string x.f1] := by
  obtain ⟨_, _, rfl, rfl, rfl⟩ := h
  exact rfl
theorem k39_mk (w : World) (x : S39)  : k39.K w x [.int .u32 x.f0, .string x.f1] := ⟨[.int .u32 x.f0], [.string x.f1], rfl, rfl, rfl⟩
theorem k39_mkM (w : World) (base : Nat) (ok : Nat → Prop) (x : S39)  : k39.M w base ok x [.int .u32 x.f0, .string x.f1] := ⟨[.int .u32 x.f0], [.string x.f1], rfl, rfl, rfl⟩
theorem k39_mkF (W : World) (ok : Nat → Prop) (x : S39) : Kd.FK k39 W ok x [.int .u32 x.f0, .string x.f1] := fun W2 _ => k39_mk W2 x
def rd_T39 (xs : List S39) (i : Int) : S39 := xs.getD i.toNat z39
theorem at_T39 {w : World} {A : Option Addr} {n : Nat} {xs : List S39} (h : Kd.C k39 w A n xs) (i : Int) (h0 : 0 ≤ i) (h1 : i < n) : ∃ ad , A = some ad ∧ w.cell? (ad.add (i.toNat * 2)) = some (.int .u32 (rd_T39 xs i).f0) ∧ w.cell? ⟨(ad.add (i.toNat * 2)).block, (ad.add (i.toNat * 2)).off + 1, none⟩ = some (.string (rd_T39 xs i).f1) := by
  obtain ⟨ad, c, e, _, hK, hc0⟩ := Kd.C_get h z39 i h0 h1
  have hc : ∀ j u, c[j]? = some u → w.cell? (ad.add (i.toNat * 2 + j)) = some u := hc0
  obtain rfl := k39_open hK
  exact ⟨ad, e, hc 0 _ rfl, by rw [← add_field _ _ 1 (by omega)]; exact hc 1 _ rfl⟩

def rd_L3 (xs : List (List S39)) (i : Int) : (List S39) := xs.getD i.toNat ([] : List S39)
theorem at_L3 {w : World} {A : Option Addr} {n : Nat} {xs : List (List S39)} (h : Kd.C (Kd.slice 39 k39) w A n xs) (i : Int) (h0 : 0 ≤ i) (h1 : i < n) : ∃ ad A0 c0, A = some ad ∧ w.cell? (ad.add i.toNat) = some (.slice A0 (rd_L3 xs i).length c0) ∧ (rd_L3 xs i).length ≤ c0 ∧ k39.C w A0 (rd_L3 xs i).length (rd_L3 xs i) := by
  obtain ⟨ad, c, e, _, hK, hc0⟩ := Kd.C_get h ([] : List S39) i h0 h1
  have hc : ∀ j u, c[j]? = some u → w.cell? (ad.add (i.toNat * 1 + j)) = some u := hc0
  obtain ⟨A0, c0, rfl, l0, g0⟩ := hK
  exact ⟨ad, A0, c0, e, by have hq := hc 0 _ rfl; rwa [Nat.mul_one, Nat.add_zero] at hq, l0, g0⟩

/-! #### struct type 25 -/
structure S25 where
  f0 : Int
  f1 : (List S39)
  f2 : (List S39)
  f3 : Bool
  f4 : Int
def z25 : S25 := ⟨(0 : Int), ([] : List S39), ([] : List S39), false, (0 : Int)⟩
def k25 : Kd S25 := Kd.iso (Kd.pair (Kd.int .u32) (Kd.pair (Kd.slice 39 k39) (Kd.pair (Kd.slice 39 k39) (Kd.pair Kd.bool (Kd.int .i64))))) (fun x : S25 => (x.f0, x.f1, x.f2, x.f3, x.f4))
theorem k25_open {w : World} {x : S25} {cs : List Value} (h : k25.K w x cs) : ∃ A1 c1 A2 c2, cs = [.int .u32 x.f0, .slice A1 x.f1.length c1, .slice A2 x.f2.length c2, .bool x.f3, .int .i64 x.f4] ∧ x.f1.length ≤ c1 ∧ k39.C w A1 x.f1.length x.f1 ∧ x.f2.length ≤ c2 ∧ k39.C w A2 x.f2.length x.f2 := by
  obtain ⟨_, _, rfl, rfl, ⟨_, _, rfl, ⟨A1, c1, rfl, l1, g1⟩, ⟨_, _, rfl, ⟨A2, c2, rfl, l2, g2⟩, ⟨_, _, rfl, rfl, rfl⟩⟩⟩⟩ := h
  exact ⟨A1, c1, A2, c2, rfl, l1, g1, l2, g2⟩
theorem k25_openM {w : World} {base : Nat} {ok : Nat → Prop} {x : S25} {cs : List Value} (h : k25.M w base ok x cs) : ∃ v1 v2, cs = [.int .u32 x.f0, v1, v2, .bool x.f3, .int .i64 x.f4] ∧ k39.R 39 w base ok v1 x.f1 ∧ k39.R 39 w base ok v2 x.f2 := by
  obtain ⟨_, _, rfl, rfl, ⟨_, _, rfl, ⟨v1, rfl, g1⟩, ⟨_, _, rfl, ⟨v2, rfl, g2⟩, ⟨_, _, rfl, rfl, rfl⟩⟩⟩⟩ := h
  exact ⟨v1, v2, rfl, g1, g2⟩
theorem k25_mk (w : World) (x : S25) {A1 : Option Addr} {c1 : Nat} (l1 : x.f1.length ≤ c1) (g1 : k39.C w A1 x.f1.length x.f1) {A2 : Option Addr} {c2 : Nat} (l2 : x.f2.length ≤ c2) (g2 : k39.C w A2 x.f2.length x.f2) : k25.K w x [.int .u32 x.f0, .slice A1 x.f1.length c1, .slice A2 x.f2.length c2, .bool x.f3, .int .i64 x.f4] := ⟨[.int .u32 x.f0], [.slice A1 x.f1.length c1, .slice A2 x.f2.length c2, .bool x.f3, .int .i64 x.f4], rfl, rfl, ⟨[.slice A1 x.f1.length c1], [.slice A2 x.f2.length c2, .bool x.f3, .int .i64 x.f4], rfl, ⟨A1, c1, rfl, l1, g1⟩, ⟨[.slice A2 x.f2.length c2], [.bool x.f3, .int .i64 x.f4], rfl, ⟨A2, c2, rfl, l2, g2⟩, ⟨[.bool x.f3], [.int .i64 x.f4], rfl, rfl, rfl⟩⟩⟩⟩
theorem k25_mkM (w : World) (base : Nat) (ok : Nat → Prop) (x : S25) {v1 : Value} (g1 : k39.R 39 w base ok v1 x.f1) {v2 : Value} (g2 : k39.R 39 w base ok v2 x.f2) : k25.M w base ok x [.int .u32 x.f0, v1, v2, .bool x.f3, .int .i64 x.f4] := ⟨[.int .u32 x.f0], [v1, v2, .bool x.f3, .int .i64 x.f4], rfl, rfl, ⟨[v1], [v2, .bool x.f3, .int .i64 x.f4], rfl, ⟨v1, rfl, g1⟩, ⟨[v2], [.bool x.f3, .int .i64 x.f4], rfl, ⟨v2, rfl, g2⟩, ⟨[.bool x.f3], [.int .i64 x.f4], rfl, rfl, rfl⟩⟩⟩⟩
theorem k25_openF {W : World} {ok : Nat → Prop} {x : S25} {cs : List Value} (h : Kd.FK k25 W ok x cs) : ∃ A1 c1 A2 c2, cs = [.int .u32 x.f0, .slice A1 x.f1.length c1, .slice A2 x.f2.length c2, .bool x.f3, .int .i64 x.f4] ∧ x.f1.length ≤ c1 ∧ Kd.F k39 W ok A1 x.f1.length x.f1 ∧ x.f2.length ≤ c2 ∧ Kd.F k39 W ok A2 x.f2.length x.f2 := by
  obtain ⟨A1, c1, A2, c2, rfl, l1, _, l2, _⟩ := k25_open (Kd.FK_now h)
  exact ⟨A1, c1, A2, c2, rfl, l1, (fun W' hW => by obtain ⟨A1_, c1_, A2_, c2_, he, l1_, g1_, l2_, g2_⟩ := k25_open (h W' hW); injection (Option.some.inj (show some (Value.slice A1 x.f1.length c1) = some (Value.slice A1_ x.f1.length c1_) from congrArg (fun l => l[1]?) he)) with ha_ _ _; rw [ha_]; exact g1_), l2, (fun W' hW => by obtain ⟨A1_, c1_, A2_, c2_, he, l1_, g1_, l2_, g2_⟩ := k25_open (h W' hW); injection (Option.some.inj (show some (Value.slice A2 x.f2.length c2) = some (Value.slice A2_ x.f2.length c2_) from congrArg (fun l => l[2]?) he)) with ha_ _ _; rw [ha_]; exact g2_)⟩
theorem k25_mkF (W : World) (ok : Nat → Prop) (x : S25) {A1 : Option Addr} {c1 : Nat} (l1 : x.f1.length ≤ c1) (g1 : Kd.F k39 W ok A1 x.f1.length x.f1) {A2 : Option Addr} {c2 : Nat} (l2 : x.f2.length ≤ c2) (g2 : Kd.F k39 W ok A2 x.f2.length x.f2) : Kd.FK k25 W ok x [.int .u32 x.f0, .slice A1 x.f1.length c1, .slice A2 x.f2.length c2, .bool x.f3, .int .i64 x.f4] := fun W2 hW => k25_mk W2 x l1 (g1 W2 hW) l2 (g2 W2 hW)
def rd_T25 (xs : List S25) (i : Int) : S25 := xs.getD i.toNat z25
theorem at_T25 {w : World} {A : Option Addr} {n : Nat} {xs : List S25} (h : Kd.C k25 w A n xs) (i : Int) (h0 : 0 ≤ i) (h1 : i < n) : ∃ ad A1 c1 A2 c2, A = some ad ∧ w.cell? (ad.add (i.toNat * 5)) = some (.int .u32 (rd_T25 xs i).f0) ∧ w.cell? ⟨(ad.add (i.toNat * 5)).block, (ad.add (i.toNat * 5)).off + 1, none⟩ = some (.slice A1 (rd_T25 xs i).f1.length c1) ∧ w.cell? ⟨(ad.add (i.toNat * 5)).block, (ad.add (i.toNat * 5)).off + 2, none⟩ = some (.slice A2 (rd_T25 xs i).f2.length c2) ∧ w.cell? ⟨(ad.add (i.toNat * 5)).block, (ad.add (i.toNat * 5)).off + 3, none⟩ = some (.bool (rd_T25 xs i).f3) ∧ w.cell? ⟨(ad.add (i.toNat * 5)).block, (ad.add (i.toNat * 5)).off + 4, none⟩ = some (.int .i64 (rd_T25 xs i).f4) ∧ (rd_T25 xs i).f1.length ≤ c1 ∧ k39.C w A1 (rd_T25 xs i).f1.length (rd_T25 xs i).f1 ∧ (rd_T25 xs i).f2.length ≤ c2 ∧ k39.C w A2 (rd_T25 xs i).f2.length (rd_T25 xs i).f2 := by
  obtain ⟨ad, c, e, _, hK, hc0⟩ := Kd.C_get h z25 i h0 h1
  have hc : ∀ j u, c[j]? = some u → w.cell? (ad.add (i.toNat * 5 + j)) = some u := hc0
  obtain ⟨A1, c1, A2, c2, rfl, l1, g1, l2, g2⟩ := k25_open hK
  exact ⟨ad, A1, c1, A2, c2, e, hc 0 _ rfl, by rw [← add_field _ _ 1 (by omega)]; exact hc 1 _ rfl, by rw [← add_field _ _ 2 (by omega)]; exact hc 2 _ rfl, by rw [← add_field _ _ 3 (by omega)]; exact hc 3 _ rfl, by rw [← add_field _ _ 4 (by omega)]; exact hc 4 _ rfl, l1, g1, l2, g2⟩

end Go.Proofs.YtcphflfjhkeooaaDoor.Z
end

section
/- Small lemmas that the printed texts and the hand contracts share. -/
namespace Go.Proofs.YtcphflfjhkeooaaDoor.Z
open Go.RowKit Go.Proofs.YtcphflfjhkeooaaDoorW.PrintWords Go.Proofs.YtcphflfjhkeooaaDoorW.PrintLast
/-- A body that lies in a scope and makes no jump. -/
theorem wp_scope_post {P : Program} {fn : Func} {R : Ending → World → Prop} {c : Code} {a : Act} {w : World} (h : c.wp P (bodyPost P fn R) a w) : (Code.scope c).wp P (bodyPost P fn R) a w := by
  refine wp_scope_straight ?_
  intro b k cs
  obtain ⟨e, a', w', hq, harr⟩ := h b k cs
  refine ⟨e, a', w', ?_, harr⟩
  cases e <;> first | exact hq | exact hq.elim
/-- A call of what a place holds: a plain function. -/
theorem gate_dyn {P : Program} {ops : Array Oper} {rest : List Oper} {o : Oper} {a : Act} {Q : Exit → Act → World → Prop} {W : World} {t : Tmp} {xs : Array Operand} {ts : Array TypeId}
    (_ho : o.op = .call { callee := .value (.tmp t), args := xs, argTypes := ts }) (h : wpList P ops Q (o :: rest) a W) : wpList P ops Q (o :: rest) a W := h
theorem goesD_ {P : Program} {ops : Array Oper} {Q : Exit → Act → World → Prop} {rest : List Oper} {oi : Oper} {a : Act} {w : World} (N : Option Tmp) (hd : oi.dst = N) (hg : oi.guard = none) {f : FuncId} {fn : Func} {x : Operand} {xs : Array Operand} {ts : Array TypeId} (hf : P.funcs[f]? = some fn) (hname : (fn.name == "runtime.NumGoroutine") = false) (hb : fn.body.isSome = true) (args : Array Value)
    (hop : oi.op = .call { callee := .value x, args := xs, argTypes := ts }) (hx : a.eval x = .func (.func f) #[] #[]) (hargs : xs.map a.eval = args)
    (h : Calls P f args w fun e w' => ∃ v, e = .returned v ∧ wpList P ops Q rest (a.put N v) w') : wpList P ops Q (oi :: rest) a w := by
  refine wpList_plain hg fun K hK => ?_
  have he := enters_ hf hname hb args w
  have hrun : (execOp a.eval oi).run P w = .ok (.enter f args) w := by
    unfold execOp
    simp [hop, resolve, Deferred.ofValue, invoke, hx, hargs, he]
  unfold Oper.wp
  rw [hrun, Oper.upon_enter]
  refine h.mono fun e w'' hh => ?_
  obtain ⟨v, rfl, hk⟩ := hh
  subst hd
  exact hK _ _ hk
/-- Where a slice's cells lie, plainly. -/
theorem addr_plain {w : World} {ad : Addr} {i : Nat} {v : Value} (h : w.cell? (ad.add i) = some v) (h0 : i = 0) : ad = ⟨ad.block, ad.off, none⟩ ∧ ad.block < w.heap.size := by
  subst h0
  rw [show ad.add 0 = ad from rfl] at h
  obtain ⟨b, o, s⟩ := ad
  cases s with
  | none => exact ⟨rfl, World.block_lt_of_cell? w _ h⟩
  | some s => simp only [World.cell?] at h; split at h <;> simp at h
theorem C_strings {w : World} {A : Option Addr} {n : Nat} {l : List ByteArray} (h : Kd.C Kd.string w A n l) (hn : 0 < n) :
    ∃ b o, A = some ⟨b, o, none⟩ ∧ b < w.heap.size ∧ ∀ j x, l[j]? = some x → w.cell? ⟨b, o + j, none⟩ = some (.string x) := by
  obtain ⟨hl, _, hc0⟩ := h
  obtain ⟨ad, rfl, hc⟩ := hc0 hn

  have hcell : ∀ j x, l[j]? = some x → w.cell? (ad.add j) = some (.string x) := by
    intro j x hx
    obtain ⟨c, hs, hr, hcell⟩ := hc j x hx
    have hr' : c = [.string x] := hr
    subst hr'
    have := hcell 0 _ rfl
    simpa [show (Kd.string).sz = 1 from rfl] using this
  obtain ⟨x0, hx0⟩ : ∃ x, l[0]? = some x := ⟨l[0]'(by omega), List.getElem?_eq_getElem (by omega)⟩
  obtain ⟨hp, hlt⟩ := addr_plain (hcell 0 x0 hx0) rfl
  refine ⟨ad.block, ad.off, by rw [← hp], hlt, fun j x hx => ?_⟩
  have := hcell j x hx
  rw [hp, add_at] at this
  exact this
end Go.Proofs.YtcphflfjhkeooaaDoor.Z
end

section
/- strings.TrimRight at the zero byte. -/
namespace Go.Proofs.YtcphflfjhkeooaaDoor.Z
open Go.RowKit Go.Proofs.YtcphflfjhkeooaaDoorW.PrintWords Go.Proofs.YtcphflfjhkeooaaDoorW.PrintLast
set_option linter.unusedVariables false
set_option linter.unusedSimpArgs false
/-- Bytes without the zero bytes at their end. -/
def trimL (l : List UInt8) : List UInt8 := (l.reverse.dropWhile (· == 0)).reverse
def trimB (a : ByteArray) : ByteArray := ⟨(trimL a.data.toList).toArray⟩
def strings_TrimRight.f (a0 a1 : ByteArray) : Option ByteArray := if a1 = ⟨#[0]⟩ ∧ a0.size ≤ 9223372036854775807 then some (trimB a0) else none
theorem trimL_snoc (l : List UInt8) (b : UInt8) : trimL (l ++ [b]) = if b = 0 then trimL l else l ++ [b] := by
  unfold trimL
  rw [List.reverse_append, List.reverse_singleton, List.singleton_append, List.dropWhile_cons]
  by_cases h : b = 0
  · subst h; simp
  · rw [if_neg h, if_neg (by simpa using h)]; simp
theorem trim_nil (a : ByteArray) (h : a.size = 0) : trimB a = a := by
  obtain ⟨⟨l⟩⟩ := a
  have : l = [] := List.eq_nil_of_length_eq_zero h
  subst this
  rfl
theorem last_cases (a : ByteArray) (k : Nat) (hk : a.size = k + 1) : (a[k] = 0 → trimB a = trimB (a.extract 0 k)) ∧ (¬ a[k] = 0 → trimB a = a) := by
  obtain ⟨⟨l⟩⟩ := a
  have hl : l.length = k + 1 := hk
  obtain rfl | ⟨l', b, rfl⟩ := List.eq_nil_or_concat l
  · cases hl
  · have hk' : l'.length = k := by simpa using hl
    subst hk'
    have e : (⟨⟨l'.concat b⟩⟩ : ByteArray)[l'.length] = b := by
      show (l'.concat b)[l'.length]'(by simp) = b
      simp
    rw [e]
    refine ⟨fun hb => ?_, fun hb => ?_⟩
    · unfold trimB
      rw [List.concat_eq_append, trimL_snoc, if_pos hb, Lib.extract_eq]
      simp
    · unfold trimB
      rw [List.concat_eq_append, trimL_snoc, if_neg hb]
set_option maxHeartbeats 1600000 in
theorem trimByte (a : ByteArray) (ha : a.size ≤ 9223372036854775807) (w : World) :
    Calls Tryd.prog 48 #[.string a, .int .u8 0] w fun e w' => e = .returned (.string (trimB a)) ∧ w' = w := by
  go_enter Tryd.func48, Tryd.ntmps48
  go_wp2
  go_loop [0] (fun s => ∃ b : ByteArray, s = .string b ∧ Aside0 (b.size ≤ 9223372036854775807) ∧ Aside0 (trimB b = trimB a)) (fun s => match s with | .string b => b.size | _ => 0)
  case atStart => exact ⟨a, rfl, ⟨ha⟩, ⟨rfl⟩⟩
  case round =>
    obtain ⟨b, rfl, HS, HT⟩ := hrel
    by_cases h0 : b.size = 0
    · have e0 : (b.size : Int) = 0 := by omega
      have hf : decide ((0 : Int) < (b.size : Int)) = false := by simp [h0]
      have hf2 : decide (0 < b.size) = false := by simp [h0]
      have hE : trimB b = b := trim_nil b h0
      have HE := Aside0.mk hE
      clear hE e0 h0
      go_wp2
      go_ret
      exact ⟨by rw [← HT.out, HE.out]; rfl, rfl⟩
    · obtain ⟨k, hk⟩ : ∃ k, b.size = k + 1 := ⟨b.size - 1, by omega⟩
      obtain ⟨h1, h2⟩ := last_cases b k hk
      have hf : decide ((0 : Int) < (b.size : Int)) = true := by simp; omega
      have hf2 : decide (0 < b.size) = true := by simp; omega
      have HK := Aside0.mk hk
      have H1 := Aside0.mk h1
      have H2 := Aside0.mk h2
      clear h1 h2
      have hsz := HS.out
      go_wp2
      · have hz : b[k] = 0 := by
          have hq : (((b[k].toNat : Nat) : Int) == 0) = true := by assumption
          have hq := beq_iff_eq.1 hq
          have : b[k].toNat = 0 := by omega
          exact UInt8.toNat_inj.1 this
        refine ⟨⟨b.extract 0 k, rfl, ⟨?_⟩, ⟨?_⟩⟩, ?_⟩
        · rw [ByteArray.size_extract]; omega
        · rw [← H1.out hz, HT.out]
        · show (b.extract 0 k).size < b.size
          rw [ByteArray.size_extract]; omega
      · have hz : ¬ b[k] = 0 := by
          intro hc
          have hq : (((b[k].toNat : Nat) : Int) == 0) = false := by assumption
          rw [hc] at hq
          exact absurd hq (by decide)
        go_ret
        exact ⟨by rw [← HT.out, H2.out hz]; rfl, rfl⟩
set_option maxRecDepth 100000 in
theorem strings_TrimRight.calls (a0 a1 : ByteArray) (r : ByteArray) (w : World) (h : strings_TrimRight.f a0 a1 = some r) :
    Calls Tryd.prog 40 #[.string a0, .string a1] w fun e w' => e = .returned (.string r) ∧ Drawn0 w w' := by
  unfold strings_TrimRight.f at h
  split at h
  case isFalse => cases h
  case isTrue hs =>
    obtain ⟨rfl, hs⟩ := hs
    obtain rfl := Option.some.inj h
    by_cases h0 : a0.toList = []
    · have e0 : a0.toList.isEmpty = true := by rw [h0]; rfl
      have hE : trimB a0 = a0 := trim_nil a0 (by
        rw [ByteArray.toList_eq] at h0
        have := congrArg List.length h0
        rw [Array.length_toList] at this
        exact this)
      have HE := Aside0.mk hE
      clear hE
      go_enter Tryd.func40, Tryd.ntmps40
      go_wp2
      go_ret
      exact ⟨by rw [HE.out]; rfl, Drawn0.refl _⟩
    · have e0 : a0.toList.isEmpty = false := by simpa using h0
      have HS := Aside0.mk hs
      clear hs
      go_enter Tryd.func40, Tryd.ntmps40
      go_wp2_with (go_at_call 48; refine (trimByte a0 HS.out _).mono ?_; rintro e w' ⟨rfl, rfl⟩)
      go_ret
      exact ⟨rfl, Drawn0.refl _⟩
end Go.Proofs.YtcphflfjhkeooaaDoor.Z
end

section
/- How a round function comes to its answer: the steps. -/
namespace Go.Proofs.YtcphflfjhkeooaaDoor.Z
open Go.RowKit Go.Proofs.YtcphflfjhkeooaaDoorW.PrintWords Go.Proofs.YtcphflfjhkeooaaDoorW.PrintLast
set_option linter.unusedVariables false
theorem Ev.val {α : Type} {g : Nat → Option α} {a b : α} (h : Ev g a) (e : a = b) : Ev g b := e ▸ h
theorem Ev.const {α : Type} {x : Option α} {r : α} (h : x = some r) : Ev (fun _ => x) r := ⟨0, fun _ _ => h⟩
theorem Ev.ifp {α : Type} {c : Prop} [Decidable c] {f g : Nat → Option α} {r : α} (hc : c) (h : Ev f r) : Ev (fun k => if c then f k else g k) r := Ev.congr (fun k => if_pos hc) h
theorem Ev.ifn {α : Type} {c : Prop} [Decidable c] {f g : Nat → Option α} {r : α} (hc : ¬ c) (h : Ev g r) : Ev (fun k => if c then f k else g k) r := Ev.congr (fun k => if_neg hc) h
theorem Ev.ite {α : Type} {c : Prop} [Decidable c] {f g : Nat → Option α} {r : α} (h : c → Ev f r) (h2 : ¬ c → Ev g r) : Ev (fun k => if c then f k else g k) r := by
  by_cases hc : c
  · exact Ev.ifp hc (h hc)
  · exact Ev.ifn hc (h2 hc)
theorem Ev.bindc {α β : Type} {x : Option α} {f : Nat → α → Option β} {a : α} {r : β} (h : x = some a) (k : Ev (fun n => f n a) r) : Ev (fun n => x.bind (f n)) r := Ev.bind (Ev.const h) k
theorem Ev.both {α : Type} {g : Nat → Option α} {a b : α} (h : Ev g a) (h2 : Ev g b) : a = b := by
  obtain ⟨K, h⟩ := h
  obtain ⟨K2, h2⟩ := h2
  have e1 := h (max K K2) (by omega)
  have e2 := h2 (max K K2) (by omega)
  rw [e1] at e2
  exact Option.some.inj e2
theorem w64 {i : Int} (h0 : -9223372036854775808 ≤ i) (h1 : i ≤ 9223372036854775807) : wrap64 i = i := by unfold wrap64; omega
theorem bytes_inj {a b : ByteArray} (h : a.toList = b.toList) : a = b := by
  rw [ByteArray.toList_eq, ByteArray.toList_eq] at h
  cases a; cases b; simp_all
end Go.Proofs.YtcphflfjhkeooaaDoor.Z
end

section
/- Blocks of a device as lists: what is right, what is put, what is read. -/
namespace Go.Proofs.YtcphflfjhkeooaaDoor.Z
open Go.RowKit Go.Proofs.YtcphflfjhkeooaaDoorW.PrintWords Go.Proofs.YtcphflfjhkeooaaDoorW.PrintLast
set_option linter.unusedVariables false
abbrev Bk := S39
theorem size_zero {a : ByteArray} (h : a.size = 0) : a = ⟨#[]⟩ := by
  obtain ⟨l⟩ := a
  have : l = #[] := Array.eq_empty_of_size_eq_zero h
  rw [this]
theorem toList_nil {a : ByteArray} : a.toList = [] ↔ a.size = 0 := by
  rw [ByteArray.toList_eq]
  constructor
  · intro h
    have := congrArg List.length h
    simpa using this
  · intro h
    rw [size_zero h]
theorem trimL_idem (l : List UInt8) : trimL (trimL l) = trimL l := by
  unfold trimL
  rw [List.reverse_reverse]
  congr 1
  generalize l.reverse = m
  induction m with
  | nil => rfl
  | cons b m ih =>
    rw [List.dropWhile_cons]
    by_cases h : (b == 0) = true
    · rw [if_pos h]; exact ih
    · rw [if_neg h, List.dropWhile_cons, if_neg h]
theorem trimL_length (l : List UInt8) : (trimL l).length ≤ l.length := by
  unfold trimL
  rw [List.length_reverse]
  have := (List.dropWhile_sublist (p := (· == 0)) (l := l.reverse)).length_le
  rw [List.length_reverse] at this
  exact this
theorem trimB_size (a : ByteArray) : (trimB a).size ≤ a.size := by
  unfold trimB ByteArray.size
  have := trimL_length a.data.toList
  simpa using this
theorem trimB_idem (a : ByteArray) : trimB (trimB a) = trimB a := by
  unfold trimB
  simp only [trimL_idem]
def okB (s : Int) (x : Bk) : Prop := 0 ≤ x.f0 ∧ x.f0 < s ∧ x.f1.size ≤ 512 ∧ trimB x.f1 = x.f1
def Asc (l : List Bk) : Prop := l.Pairwise (fun x y => x.f0 < y.f0)
def okBl (s : Int) (bl : List Bk) : Prop := Asc bl ∧ ∀ x ∈ bl, okB s x ∧ x.f1.size ≠ 0
def okDev (s : Int) (bl wl : List Bk) : Prop := 16 ≤ s ∧ s ≤ 65536 ∧ wl.length ≤ 16384 ∧ okBl s bl ∧ ∀ x ∈ wl, okB s x
def cell (x : Bk) : List Bk := if x.f1.size = 0 then [] else [x]
def putL (bl : List Bk) (x : Bk) : List Bk := bl.filter (fun y => decide (y.f0 < x.f0)) ++ cell x ++ bl.filter (fun y => decide (x.f0 < y.f0))
def putsL (bl wl : List Bk) : List Bk := wl.foldl putL bl
def has (bl : List Bk) (n : Int) : ByteArray := match bl.find? (fun x => x.f0 == n) with | some x => x.f1 | none => ⟨#[]⟩
def readL (bl wl : List Bk) (n : Int) : ByteArray := match wl.reverse.find? (fun x => x.f0 == n) with | some x => x.f1 | none => has bl n
theorem mem_cell {x y : Bk} : y ∈ cell x ↔ y = x ∧ x.f1.size ≠ 0 := by
  unfold cell
  split <;> simp_all
theorem mem_put {bl : List Bk} {x y : Bk} : y ∈ putL bl x ↔ (y ∈ bl ∧ y.f0 ≠ x.f0) ∨ (y = x ∧ x.f1.size ≠ 0) := by
  unfold putL
  rw [List.mem_append, List.mem_append, List.mem_filter, List.mem_filter, mem_cell, decide_eq_true_eq, decide_eq_true_eq]
  constructor
  · rintro ((⟨h, h2⟩ | h) | ⟨h, h2⟩)
    · exact .inl ⟨h, by omega⟩
    · exact .inr h
    · exact .inl ⟨h, by omega⟩
  · rintro (⟨h, h2⟩ | h)
    · rcases Int.lt_or_gt_of_ne h2 with h3 | h3
      · exact .inl (.inl ⟨h, h3⟩)
      · exact .inr ⟨h, h3⟩
    · exact .inl (.inr h)
theorem asc_put {bl : List Bk} {x : Bk} (h : Asc bl) : Asc (putL bl x) := by
  unfold putL Asc
  rw [List.pairwise_append, List.pairwise_append]
  refine ⟨⟨h.filter _, ?_, ?_⟩, h.filter _, ?_⟩
  · unfold cell; split <;> simp
  · intro a ha b hb
    rw [List.mem_filter, decide_eq_true_eq] at ha
    rw [mem_cell] at hb
    rw [hb.1]; exact ha.2
  · intro a ha b hb
    rw [List.mem_filter, decide_eq_true_eq] at hb
    rw [List.mem_append, List.mem_filter, decide_eq_true_eq, mem_cell] at ha
    rcases ha with ha | ⟨rfl, _⟩
    · omega
    · exact hb.2
theorem okBl_put {s : Int} {bl : List Bk} {x : Bk} (h : okBl s bl) (hx : okB s x) : okBl s (putL bl x) := by
  refine ⟨asc_put h.1, fun y hy => ?_⟩
  rcases mem_put.1 hy with ⟨h1, _⟩ | ⟨rfl, h1⟩
  · exact h.2 y h1
  · exact ⟨hx, h1⟩
theorem okBl_puts {s : Int} : ∀ {wl bl : List Bk}, okBl s bl → (∀ x ∈ wl, okB s x) → okBl s (putsL bl wl)
  | [], bl, h, _ => h
  | x :: wl, bl, h, hw => okBl_puts (wl := wl) (okBl_put h (hw x (by simp))) (fun y hy => hw y (by simp [hy]))
theorem has_mem {bl : List Bk} (h : Asc bl) {y : Bk} (hy : y ∈ bl) : has bl y.f0 = y.f1 := by
  unfold has
  have : bl.find? (fun x => x.f0 == y.f0) = some y := by
    induction bl with
    | nil => cases hy
    | cons b bl ih =>
      rw [List.find?_cons]
      unfold Asc at h
      rw [List.pairwise_cons] at h
      rcases List.mem_cons.1 hy with rfl | hy
      · simp
      · have := h.1 y hy
        have hf : (b.f0 == y.f0) = false := by simp; omega
        rw [hf]
        exact ih h.2 hy
  rw [this]
theorem has_none {bl : List Bk} {n : Int} (h : ∀ y ∈ bl, y.f0 ≠ n) : has bl n = ⟨#[]⟩ := by
  unfold has
  have : bl.find? (fun x => x.f0 == n) = none := by
    rw [List.find?_eq_none]
    intro x hx; simpa using h x hx
  rw [this]
theorem has_put {bl : List Bk} (h : Asc bl) (x : Bk) (n : Int) : has (putL bl x) n = if n = x.f0 then x.f1 else has bl n := by
  by_cases hn : n = x.f0
  · rw [if_pos hn]
    by_cases hz : x.f1.size = 0
    · rw [has_none, size_zero hz]
      intro y hy
      rcases mem_put.1 hy with ⟨_, h2⟩ | ⟨_, h2⟩
      · rw [hn]; exact h2
      · exact absurd hz h2
    · rw [hn]
      exact has_mem (asc_put h) (mem_put.2 (.inr ⟨rfl, hz⟩))
  · rw [if_neg hn]
    by_cases he : ∃ y ∈ bl, y.f0 = n
    · obtain ⟨y, hy, rfl⟩ := he
      rw [has_mem h hy]
      exact has_mem (asc_put h) (mem_put.2 (.inl ⟨hy, hn⟩))
    · have h1 : ∀ y ∈ bl, y.f0 ≠ n := fun y hy e => he ⟨y, hy, e⟩
      rw [has_none h1, has_none]
      intro y hy
      rcases mem_put.1 hy with ⟨h2, _⟩ | ⟨rfl, _⟩
      · exact h1 y h2
      · exact fun e => hn e.symm
theorem readL_cons {bl : List Bk} (h : Asc bl) (x : Bk) (wl : List Bk) (n : Int) : readL bl (x :: wl) n = readL (putL bl x) wl n := by
  unfold readL
  rw [List.reverse_cons, List.find?_append]
  cases hf : wl.reverse.find? (fun x => x.f0 == n) with
  | some y => rfl
  | none =>
    simp only [Option.none_or, List.find?_cons, List.find?_nil, has_put h]
    by_cases hn : n = x.f0
    · subst hn; simp
    · have : (x.f0 == n) = false := by simp; exact fun e => hn e.symm
      simp [this, hn]
theorem asc_puts : ∀ {wl bl : List Bk}, Asc bl → Asc (putsL bl wl)
  | [], bl, h => h
  | x :: wl, bl, h => asc_puts (wl := wl) (asc_put h)
/-- What a block has behind all writes is what it was read as. -/
theorem has_puts : ∀ (wl : List Bk) {bl : List Bk}, Asc bl → ∀ n, has (putsL bl wl) n = readL bl wl n
  | [], bl, h, n => rfl
  | x :: wl, bl, h, n => by
    rw [readL_cons h]
    exact has_puts wl (asc_put h) n
theorem readL_nil (bl : List Bk) (n : Int) : readL bl [] n = has bl n := rfl
theorem readL_snoc (bl wl : List Bk) (x : Bk) (n : Int) : readL bl (wl ++ [x]) n = if n = x.f0 then x.f1 else readL bl wl n := by
  unfold readL
  rw [List.reverse_append, List.reverse_singleton, List.singleton_append, List.find?_cons]
  by_cases hn : n = x.f0
  · subst hn; simp
  · have : (x.f0 == n) = false := by simp; exact fun e => hn e.symm
    rw [this, if_neg hn]
theorem len_asc : ∀ (l : List Bk) (lo s : Int), Asc l → (∀ x ∈ l, lo ≤ x.f0 ∧ x.f0 < s) → lo ≤ s → (l.length : Int) ≤ s - lo
  | [], lo, s, _, _, h => by simp; omega
  | x :: l, lo, s, ha, hb, h => by
    unfold Asc at ha
    rw [List.pairwise_cons] at ha
    have h1 := hb x (by simp)
    have h2 := len_asc l (x.f0 + 1) s ha.2 (fun y hy => ⟨by have := ha.1 y hy; omega, (hb y (by simp [hy])).2⟩) (by omega)
    rw [List.length_cons]
    push_cast
    omega
theorem okBl_len {s : Int} {bl : List Bk} (h : okBl s bl) (h0 : 0 ≤ s) (h1 : s ≤ 65536) : bl.length ≤ 65536 := by
  have := len_asc bl 0 s h.1 (fun x hx => ⟨(h.2 x hx).1.1, (h.2 x hx).1.2.1⟩) h0
  omega
/-- A sorted list is what is below a number, what has it, what is above. -/
theorem asc_split {bl : List Bk} (h : Asc bl) (n : Int) : ∃ m, bl = bl.filter (fun y => decide (y.f0 < n)) ++ m ++ bl.filter (fun y => decide (n < y.f0)) ∧ (m = [] ∧ (∀ y ∈ bl, y.f0 ≠ n) ∨ ∃ y, m = [y] ∧ y.f0 = n) := by
  induction bl with
  | nil => exact ⟨[], rfl, .inl ⟨rfl, by simp⟩⟩
  | cons b bl ih =>
    unfold Asc at h
    rw [List.pairwise_cons] at h
    obtain ⟨m, he, hm⟩ := ih h.2
    rcases Int.lt_trichotomy b.f0 n with hb | hb | hb
    · refine ⟨m, ?_, ?_⟩
      · rw [List.filter_cons, List.filter_cons, if_pos (by simpa using hb), if_neg (by simp; omega), List.cons_append, List.cons_append, ← he]
      · rcases hm with ⟨h1, h2⟩ | hm
        · refine .inl ⟨h1, fun y hy => ?_⟩
          rcases List.mem_cons.1 hy with rfl | hy
          · omega
          · exact h2 y hy
        · exact .inr hm
    · have hnone : ∀ y ∈ bl, n < y.f0 := fun y hy => by have := h.1 y hy; omega
      have hl : bl.filter (fun y => decide (y.f0 < n)) = [] := by
        rw [List.filter_eq_nil_iff]; intro y hy; have := hnone y hy; simp; omega
      have hu : bl.filter (fun y => decide (n < y.f0)) = bl := by
        rw [List.filter_eq_self]; intro y hy; simpa using hnone y hy
      refine ⟨[b], ?_, .inr ⟨b, rfl, hb⟩⟩
      rw [List.filter_cons, List.filter_cons, if_neg (by simp; omega), if_neg (by simp; omega), hl, hu]
      rfl
    · have hnone : ∀ y ∈ b :: bl, n < y.f0 := fun y hy => by
        rcases List.mem_cons.1 hy with rfl | hy
        · exact hb
        · have := h.1 y hy; omega
      have hl : (b :: bl).filter (fun y => decide (y.f0 < n)) = [] := by
        rw [List.filter_eq_nil_iff]; intro y hy; have := hnone y hy; simp; omega
      have hu : (b :: bl).filter (fun y => decide (n < y.f0)) = b :: bl := by
        rw [List.filter_eq_self]; intro y hy; simpa using hnone y hy
      refine ⟨[], ?_, .inl ⟨rfl, fun y hy => by have := hnone y hy; omega⟩⟩
      rw [hl, hu]
      rfl
/-- Rising from place to place is rising. -/
theorem asc_steps {l : List Bk} : (∀ j (h : j + 1 < l.length), (l[j]'(by omega)).f0 < (l[j + 1]'h).f0) ↔ Asc l := by
  unfold Asc
  rw [List.pairwise_iff_getElem]
  constructor
  · intro h i j hi hj hij
    obtain ⟨d, rfl⟩ : ∃ d, j = i + 1 + d := ⟨j - i - 1, by omega⟩
    clear hij
    induction d with
    | zero => exact h i hj
    | succ d ih =>
      have h1 := ih (by omega)
      have h2 := h (i + 1 + d) (by omega)
      have h3 : i + 1 + d + 1 = i + 1 + (d + 1) := by omega
      simp only [h3] at h2
      omega
  · intro h j hj
    exact h j (j + 1) (by omega) hj (by omega)
def kept : List Bk → List Bool → List Bk
  | x :: wl, t :: l => if t = true then x :: kept wl l else kept wl l
  | _, _ => []
theorem kept_mem : ∀ {wl : List Bk} {l : List Bool} {x : Bk}, x ∈ kept wl l → x ∈ wl
  | [], l, x, h => by simp [kept] at h
  | y :: wl, [], x, h => by simp [kept] at h
  | y :: wl, t :: l, x, h => by
    unfold kept at h
    split at h
    · rcases List.mem_cons.1 h with rfl | h
      · simp
      · exact List.mem_cons_of_mem _ (kept_mem h)
    · exact List.mem_cons_of_mem _ (kept_mem h)
theorem kept_all : ∀ (wl : List Bk) (n : Nat), wl.length ≤ n → kept wl (List.replicate n true) = wl
  | [], n, h => by cases n <;> rfl
  | y :: wl, 0, h => by simp at h
  | y :: wl, n + 1, h => by
    rw [List.replicate_succ]
    unfold kept
    rw [if_pos rfl, kept_all wl n (by simpa using h)]
end Go.Proofs.YtcphflfjhkeooaaDoor.Z
end

section
/- Short words for what each step of a walk shows alike: facts are told of the world that has come, cells of a block are read, an operation of a region is taken. -/
namespace Go.Proofs.YtcphflfjhkeooaaDoor.Z
open Go.RowKit Go.Proofs.YtcphflfjhkeooaaDoorW.PrintWords Go.Proofs.YtcphflfjhkeooaaDoorW.PrintLast Go.Proofs.YtcphflfjhkeooaaDoorW.PrintMore
set_option linter.unusedVariables false
/-- From one world to the next: orders drawn, blocks made. -/
theorem wx_ {w w1 : World} (h : Below w.heap.size w w1 := by with_reducible repeat (first | exact Below.refl _ _ | apply below_alloc | apply pw_below_drewN | apply below_drew1)) : Below w.heap.size w w1 := h
theorem bel_ {w w1 : World} (h : Below w.heap.size w w1 := by repeat (first | (with_reducible first | exact HB.out | apply below_alloc | apply pw_below_drewN | apply below_drew1 | refine below_set ?_ (Aside0.out (by with_reducible assumption))) | exact HB.out)) : Below w.heap.size w w1 := h
theorem hb_ {w0 w1 w2 : World} (hb : Below w1.heap.size w1 w2) (h : Below w0.heap.size w0 w1 := by repeat (first | (with_reducible first | exact HB.out | apply below_alloc | apply pw_below_drewN | apply below_drew1 | refine below_set ?_ (Aside0.out (by with_reducible assumption))) | exact HB.out)) : Aside0 (Below w0.heap.size w0 w2) := ⟨below_step h hb⟩
theorem kb_ {w w1 w2 : World} {g : Nat} {o : Obj} (h : Aside0 (w.heap[g]? = some o)) (hb : Below w1.heap.size w1 w2) (hw : Below w.heap.size w w1 := by with_reducible repeat (first | exact Below.refl _ _ | apply below_alloc | apply pw_below_drewN | apply below_drew1)) : Aside0 (w2.heap[g]? = some o) := ⟨blk_below (blk_below h.out hw) hb⟩
theorem bk_ {w w1 : World} {g : Nat} {o : Obj} (h : Aside0 (w.heap[g]? = some o)) (hw : Below w.heap.size w w1 := by with_reducible repeat (first | exact Below.refl _ _ | apply below_alloc | apply pw_below_drewN | apply below_drew1)) : w1.heap[g]? = some o := blk_below h.out hw
theorem ge_ {w0 w1 : World} {g : Nat} (hg : g = w1.heap.size) (h : Below w0.heap.size w0 w1 := by repeat (first | (with_reducible first | exact HB.out | apply below_alloc | apply pw_below_drewN | apply below_drew1 | refine below_set ?_ (Aside0.out (by with_reducible assumption))) | exact HB.out)) : Aside0 (w0.heap.size ≤ g) := ⟨by rw [hg]; exact below_size h⟩
theorem nl_ {w w1 : World} {g g' : Nat} {o : Obj} (h : Aside0 (w.heap[g]? = some o)) (hg : g' = w1.heap.size) (hw : Below w.heap.size w w1 := by with_reducible repeat (first | exact Below.refl _ _ | apply below_alloc | apply pw_below_drewN | apply below_drew1)) : Aside0 (g ≠ g') := ⟨by rw [hg]; exact Nat.ne_of_lt (blk_lt (blk_below h.out hw))⟩
theorem ng_ {w w1 : World} {g g' : Nat} {o : Obj} (h : Aside0 (w.heap[g]? = some o)) (hg : g' = w1.heap.size) (hw : Below w.heap.size w w1 := by with_reducible repeat (first | exact Below.refl _ _ | apply below_alloc | apply pw_below_drewN | apply below_drew1)) : Aside0 (g' ≠ g) := ⟨by rw [hg]; exact Nat.ne_of_gt (blk_lt (blk_below h.out hw))⟩
section
variable {α : Type} {d : Kd α} {e base base' n : Nat} {ok : Nat → Prop} {w w1 w2 : World} {v : Value} {xs : List α} {A : Option Addr}
theorem rb_ (h : Aside0 (d.R e w base ok v xs)) (hb : Below w1.heap.size w1 w2) (hw : Below w.heap.size w w1 := by with_reducible repeat (first | exact Below.refl _ _ | apply below_alloc | apply pw_below_drewN | apply below_drew1)) : Aside0 (d.R e w2 base ok v xs) := ⟨Kd.R_below (Kd.R_below h.out hw) hb⟩
theorem ra_ (h : Aside0 (d.R e w base ok v xs)) (hw : Below w.heap.size w w1 := by with_reducible repeat (first | exact Below.refl _ _ | apply below_alloc | apply pw_below_drewN | apply below_drew1)) : d.R e w1 base ok v xs := Kd.R_below h.out hw
theorem rl_ {w0 : World} (h : d.R e w2 w1.heap.size ok v xs) (hb : Below w0.heap.size w0 w1 := by repeat (first | (with_reducible first | exact HB.out | apply below_alloc | apply pw_below_drewN | apply below_drew1 | refine below_set ?_ (Aside0.out (by with_reducible assumption))) | exact HB.out)) : Aside0 (d.R e w2 w0.heap.size ok v xs) := ⟨Kd.R_lower h (below_size hb)⟩
theorem cb_ {w0 : World} (h : Aside0 (d.C w0 A n xs)) (hb : Below w0.heap.size w0 w1 := by repeat (first | (with_reducible first | exact HB.out | apply below_alloc | apply pw_below_drewN | apply below_drew1 | refine below_set ?_ (Aside0.out (by with_reducible assumption))) | exact HB.out)) : d.C w1 A n xs := Kd.C_below h.out hb
end
/-- From world to world, a row of this kind is as it was. -/
def Off {α : Type} (d : Kd α) (e : Nat) (w W : World) : Prop := ∀ base ok v xs, d.R e w base ok v xs → d.R e W base ok v xs
section
variable {α : Type} {d : Kd α} {e base n c : Nat} {ok : Nat → Prop} {w W w1 w2 : World} {v : Value} {xs : List α} {A : Option Addr}
theorem Off.refl : Off d e w w := fun _ _ _ _ h => h
theorem Off.alloc (h : Off d e w W) (o : Obj) : Off d e w (W.alloc o) := fun _ _ _ _ q => Kd.R_alloc (h _ _ _ _ q) o
theorem Off.drewN (h : Off d e w W) (k : Nat) : Off d e w (W.drewN k) := fun _ _ _ _ q => Kd.R_drewN (h _ _ _ _ q) k
theorem Off.drew (h : Off d e w W) : Off d e w W.drew := fun _ _ _ _ q => Kd.R_drew (h _ _ _ _ q)
theorem Off.set {g i t : Nat} {u : Value} {cs : Array Value} (h : Off d e w W) (hb : Aside0 (w.heap[g]? = some (.cells cs t (0, 0)))) (ht : ∀ q, q ∈ e :: d.E → q ≠ t) : Off d e w (W.setCell ⟨g, i, none⟩ u) :=
  fun _ _ _ _ q => Kd.R_mono (Kd.R_far (p := ⟨g, i, none⟩) (h _ _ _ _ (Kd.R_types q hb.out ht)) (fun _ hk => hk.2) u) (fun _ hk => hk.1)
theorem rw_ (h : Aside0 (d.R e w base ok v xs)) (q : Off d e w W := by ((with_reducible repeat (first | exact Off.refl | apply Off.alloc | apply Off.drewN | apply Off.drew | apply Off.set)); all_goals (first | with_reducible assumption | decide))) : d.R e W base ok v xs := q _ _ _ _ h.out
theorem rm_ {ok' : Nat → Prop} (h : Aside0 (d.R e w base ok v xs)) (m : ∀ k, ok k → ok' k) (q : Off d e w W := by ((with_reducible repeat (first | exact Off.refl | apply Off.alloc | apply Off.drewN | apply Off.drew | apply Off.set)); all_goals (first | with_reducible assumption | decide))) : d.R e W base ok' v xs := Kd.R_mono (q _ _ _ _ h.out) m
theorem rv_ {ok' : Nat → Prop} {base' g t : Nat} {cs : Array Value} (h : Aside0 (d.R e w base ok v xs)) (hb : Aside0 (w.heap[g]? = some (.cells cs t (0, 0)))) (m : ∀ k, ok k ∧ k ≠ g → ok' k) (ht : ∀ q, q ∈ e :: d.E → q ≠ t := by decide) (q : Off d e w W := by ((with_reducible repeat (first | exact Off.refl | apply Off.alloc | apply Off.drewN | apply Off.drew | apply Off.set)); all_goals (first | with_reducible assumption | decide))) : d.V e W base' ok' v xs := Kd.V_mono (Kd.R_V (q _ _ _ _ (Kd.R_types h.out hb.out ht))) m
theorem cr_ (h : Aside0 (d.R e w base ok (.slice A xs.length c) xs)) (hw : Below w.heap.size w w1 := by with_reducible repeat (first | exact Below.refl _ _ | apply below_alloc | apply pw_below_drewN | apply below_drew1)) : d.C w1 A xs.length xs := Kd.C_below (Kd.R_reads' h.out).2.2 hw
end
theorem bf_ {w : World} {g g' i t : Nat} {u : Value} {cs : Array Value} (h : w.heap[g]? = some (.cells cs t (0, 0))) (hn : Aside0 (g ≠ g')) : (w.setCell ⟨g', i, none⟩ u).heap[g]? = some (.cells cs t (0, 0)) := blk_far (p := ⟨g', i, none⟩) h hn.out u
theorem bs_ {w : World} {g : Nat} {o : Obj} (h : w.heap[g]? = some o := by ((with_reducible repeat (first | apply blk_drewN | apply blk_drew | apply blk_alloc | apply blk_put | apply bf_)); exact Aside0.out (by with_reducible assumption); all_goals (first | with_reducible assumption | (simp only [List.setIfInBounds_toArray, List.set_cons_zero, List.set_cons_succ]; rfl) | rfl))) : w.heap[g]? = some o := h
section
variable {P : Program} {ops : Array Oper} {Q : Exit → Act → World → Prop} {md : Region.Mode} {S : World → Prop} {ds : List Nat} {fuel : Nat} {l l' : Array Bool} {a a' : Act} {w : World} {oi : Oper} {v : Value}
theorem pu_ (i N : Nat) (h : wpAnyLast P md ops Q S ds fuel l' a' w) (hi : ops[i]? = some oi := by rfl) (hN : oi.dst = some N := by rfl) (hl : l.setIfInBounds i true = l' := by (simp only [List.setIfInBounds_toArray, List.set_cons_zero, List.set_cons_succ]; rfl))
    (hc : anyB md ops l l' i = true := by first | exact any_of HT_.out (by kernel_rfl) | kernel_rfl) (hQ : ∀ c a w, Q (.panic c) (a.put oi.dst v) w → Q (.panic c) a w := by exact fun _ _ _ h => h)
    (hy : Yields P ops oi v a := by exact Or.inl ⟨by rfl, by (intro w'; go_simp; with_reducible rfl)⟩)
    (ha : a.put (some N) v = a' := by (simp only [Act.put, List.setIfInBounds_toArray, List.set_cons_zero, List.set_cons_succ, i64_w, i32_w]; rfl)) : wpAnyLast P md ops Q S ds (fuel + 1) l a w := pure_ l' hi hN hc hQ hy ha h
theorem un_ (i N : Nat) (h : wpAnyLast P md ops Q S ds fuel l' a' w) (hi : ops[i]? = some oi := by rfl) (hN : oi.dst = some N := by rfl) (hl : l.setIfInBounds i true = l' := by (simp only [List.setIfInBounds_toArray, List.set_cons_zero, List.set_cons_succ]; rfl))
    (hc : anyB md ops l l' i = true := by first | exact any_of HT_.out (by kernel_rfl) | kernel_rfl) (hQ : ∀ c a w, Q (.panic c) (a.put oi.dst undef) w → Q (.panic c) a w := by exact fun _ _ _ h => h)
    (hy : Yields P ops oi undef a := by exact Or.inr ⟨by rfl, rfl⟩)
    (ha : a.put (some N) undef = a' := by (simp only [Act.put, List.setIfInBounds_toArray, List.set_cons_zero, List.set_cons_succ, i64_w, i32_w]; rfl)) : wpAnyLast P md ops Q S ds (fuel + 1) l a w := pure_ l' hi hN hc hQ hy ha h
theorem on_ (i N : Nat) (h : ∀ K : Act → World → Prop, Shut (∀ a' w', S w' → (S w' → wpAnyLast P md ops Q S ds fuel l' a' w') → K a' w') → if Region.wanted oi (yielded ops a.tmps) = true then Oper.wp P oi a w K Q else K (a.put (some N) undef) w)
    (hi : ops[i]? = some oi := by rfl) (hN : oi.dst = some N := by rfl) (hl : l.setIfInBounds i true = l' := by (simp only [List.setIfInBounds_toArray, List.set_cons_zero, List.set_cons_succ]; rfl))
    (hc : readyB md ops l l' i = true := by first | exact one_of HT_.out (by kernel_rfl) | kernel_rfl) (hd : i ∉ ds := by decide) : wpAnyLast P md ops Q S ds (fuel + 1) l a w := one_ l' hi hN hc hd h
theorem nm_ (N : Nat) (h : wpAnyLast P md ops Q S ds fuel l a' w) {a0 : Act} (e : a = Act.put a0 (some N) v := by rfl) (ha : Act.put a0 (some N) v = a' := by (simp only [Act.put, List.setIfInBounds_toArray, List.set_cons_zero, List.set_cons_succ, i64_w, i32_w]; rfl)) : wpAnyLast P md ops Q S ds fuel l a w := norm_ (e.trans ha) h
theorem tk2_ (i N : Nat) (h : wpAnyLast P md ops Q S ds fuel l' a' w) (hi : ops[i]? = some oi := by rfl) (hN : oi.dst = some N := by rfl) (hl : l.setIfInBounds i true = l' := by (simp only [List.setIfInBounds_toArray, List.set_cons_zero, List.set_cons_succ]; rfl))
    (hc : takeB md ops ds l l' i = true := by first | exact take_ofW HT_.out HW_.out (by kernel_rfl) | kernel_rfl) (hQ : ∀ c a w, Q (.panic c) (a.put oi.dst v) w → Q (.panic c) a w := by exact fun _ _ _ h => h)
    (hy : YieldsIf P ops S oi v a := by exact Or.inl ⟨by rfl, by (rintro w' ⟨s0, s1⟩; go_simp; with_reducible rfl)⟩) (hS : S w := by exact hHeld)
    (ha : a.put (some N) v = a' := by (simp only [Act.put, List.setIfInBounds_toArray, List.set_cons_zero, List.set_cons_succ, i64_w, i32_w]; rfl)) : wpAnyLast P md ops Q S ds (fuel + 1) l a w := take_ l' hi hN hc hQ hy hS ha h
theorem tk3_ (i N : Nat) (h : wpAnyLast P md ops Q S ds fuel l' a' w) (hi : ops[i]? = some oi := by rfl) (hN : oi.dst = some N := by rfl) (hl : l.setIfInBounds i true = l' := by (simp only [List.setIfInBounds_toArray, List.set_cons_zero, List.set_cons_succ]; rfl))
    (hc : takeB md ops ds l l' i = true := by first | exact take_ofW HT_.out HW_.out (by kernel_rfl) | kernel_rfl) (hQ : ∀ c a w, Q (.panic c) (a.put oi.dst v) w → Q (.panic c) a w := by exact fun _ _ _ h => h)
    (hy : YieldsIf P ops S oi v a := by exact Or.inl ⟨by rfl, by (rintro w' ⟨s0, s1, s2⟩; go_simp; with_reducible rfl)⟩) (hS : S w := by exact hHeld)
    (ha : a.put (some N) v = a' := by (simp only [Act.put, List.setIfInBounds_toArray, List.set_cons_zero, List.set_cons_succ, i64_w, i32_w]; rfl)) : wpAnyLast P md ops Q S ds (fuel + 1) l a w := take_ l' hi hN hc hQ hy hS ha h
theorem tk5_ (i N : Nat) (h : wpAnyLast P md ops Q S ds fuel l' a' w) (hi : ops[i]? = some oi := by rfl) (hN : oi.dst = some N := by rfl) (hl : l.setIfInBounds i true = l' := by (simp only [List.setIfInBounds_toArray, List.set_cons_zero, List.set_cons_succ]; rfl))
    (hc : takeB md ops ds l l' i = true := by first | exact take_ofW HT_.out HW_.out (by kernel_rfl) | kernel_rfl) (hQ : ∀ c a w, Q (.panic c) (a.put oi.dst v) w → Q (.panic c) a w := by exact fun _ _ _ h => h)
    (hy : YieldsIf P ops S oi v a := by exact Or.inl ⟨by rfl, by (rintro w' ⟨s0, s1, s2, s3, s4⟩; go_simp; with_reducible rfl)⟩) (hS : S w := by exact hHeld)
    (ha : a.put (some N) v = a' := by (simp only [Act.put, List.setIfInBounds_toArray, List.set_cons_zero, List.set_cons_succ, i64_w, i32_w]; rfl)) : wpAnyLast P md ops Q S ds (fuel + 1) l a w := take_ l' hi hN hc hQ hy hS ha h
theorem tk7_ (i N : Nat) (h : wpAnyLast P md ops Q S ds fuel l' a' w) (hi : ops[i]? = some oi := by rfl) (hN : oi.dst = some N := by rfl) (hl : l.setIfInBounds i true = l' := by (simp only [List.setIfInBounds_toArray, List.set_cons_zero, List.set_cons_succ]; rfl))
    (hc : takeB md ops ds l l' i = true := by first | exact take_ofW HT_.out HW_.out (by kernel_rfl) | kernel_rfl) (hQ : ∀ c a w, Q (.panic c) (a.put oi.dst v) w → Q (.panic c) a w := by exact fun _ _ _ h => h)
    (hy : YieldsIf P ops S oi v a := by exact Or.inl ⟨by rfl, by (rintro w' ⟨s0, s1, s2, s3, s4, s5, s6⟩; go_simp; with_reducible rfl)⟩) (hS : S w := by exact hHeld)
    (ha : a.put (some N) v = a' := by (simp only [Act.put, List.setIfInBounds_toArray, List.set_cons_zero, List.set_cons_succ, i64_w, i32_w]; rfl)) : wpAnyLast P md ops Q S ds (fuel + 1) l a w := take_ l' hi hN hc hQ hy hS ha h
theorem tk9_ (i N : Nat) (h : wpAnyLast P md ops Q S ds fuel l' a' w) (hi : ops[i]? = some oi := by rfl) (hN : oi.dst = some N := by rfl) (hl : l.setIfInBounds i true = l' := by (simp only [List.setIfInBounds_toArray, List.set_cons_zero, List.set_cons_succ]; rfl))
    (hc : takeB md ops ds l l' i = true := by first | exact take_ofW HT_.out HW_.out (by kernel_rfl) | kernel_rfl) (hQ : ∀ c a w, Q (.panic c) (a.put oi.dst v) w → Q (.panic c) a w := by exact fun _ _ _ h => h)
    (hy : YieldsIf P ops S oi v a := by exact Or.inl ⟨by rfl, by (rintro w' ⟨s0, s1, s2, s3, s4, s5, s6, s7, s8⟩; go_simp; with_reducible rfl)⟩) (hS : S w := by exact hHeld)
    (ha : a.put (some N) v = a' := by (simp only [Act.put, List.setIfInBounds_toArray, List.set_cons_zero, List.set_cons_succ, i64_w, i32_w]; rfl)) : wpAnyLast P md ops Q S ds (fuel + 1) l a w := take_ l' hi hN hc hQ hy hS ha h
end
theorem cell0_ {w : World} {g i : Nat} {t : TypeId} {cs : Array Value} {v : Value} (h : Aside0 (w.heap[g]? = some (.cells cs t (0, 0)))) (e : cs[i]? = some v) : w.cell? ⟨g, i, none⟩ = some v := (blk_cell h.out i).trans e
theorem hc_ {p : Prop} (h : p := by (try dsimp only); repeat (first | (exact cell0_ (by first | (with_reducible assumption) | (refine Aside0.mk ?_; (with_reducible repeat (first | refine blk_drewN ?_ _ | refine blk_drew ?_ | refine blk_alloc ?_ _)); exact Aside0.out (by with_reducible assumption))) (by rfl)) | (refine And.intro ?_ ?_; focus (exact cell0_ (by first | (with_reducible assumption) | (refine Aside0.mk ?_; (with_reducible repeat (first | refine blk_drewN ?_ _ | refine blk_drew ?_ | refine blk_alloc ?_ _)); exact Aside0.out (by with_reducible assumption))) (by rfl))))) : p := h
section
variable {P : Program} {ops : Array Oper} {rest : List Oper} {oi o : Oper} {a : Act} {Q : Exit → Act → World → Prop} {w W : World}
theorem gl_ (N : Option Tmp) {f : FuncId} {fn : Func} (hf : P.funcs[f]? = some fn) {ars : Array Operand} {ts : Array TypeId} (args : Array Value) (h : Calls P f args w fun e w' => ∃ v, e = .returned v ∧ wpList P ops Q rest (a.put N v) w')
    (hd : oi.dst = N := by exact rfl) (hg : oi.guard = none := by exact rfl) (hname : (fn.name == "runtime.NumGoroutine") = false := by kernel_rfl) (hb : fn.body.isSome = true := by exact rfl)
    (hop : oi.op = .call { callee := .value (.func f), args := ars, argTypes := ts } := by exact rfl) (hargs : ars.map a.eval = args := by ((try simp only [List.map_toArray, List.map_cons, List.map_nil]); first | done | rfl | (simp only [List.length_drop, List.length_take]; rfl))) : wpList P ops Q (oi :: rest) a w := goesL_ N hd hg hf hname hb args hop hargs h
theorem bx_ {N : Tmp} {cs : Array Value} {t : TypeId} (h : ∀ g, g = W.heap.size → ∀ w1, w1.heap[g]? = some (.cells cs t (0, 0)) → Below W.heap.size W w1 → wpList P ops Q rest (a.put o.dst (.pointer (some ⟨g, 0, none⟩))) w1)
    (hg : o.guard = none := by rfl) (hd : o.dst = some N := by rfl)
    (hrun : (execOp a.eval o).run P W = .ok (.value (.pointer (some ⟨W.heap.size, 0, none⟩))) (W.alloc (.cells cs t (0, 0))) := by first | (go_simp; done) | (go_simp; rfl)) : wpList P ops Q (o :: rest) a W := box_event hg hd hrun h
end
theorem cl2_ {w : World} {g : Nat} {t : TypeId} {x0 x1 : Value} (h : Aside0 (w.heap[g]? = some (.cells #[x0, x1] t (0, 0)))) : w.cell? ⟨g, 0, none⟩ = some x0 ∧ w.cell? ⟨g, 1, none⟩ = some x1 := ⟨(blk_cell h.out 0).trans rfl, (blk_cell h.out 1).trans rfl⟩
theorem fz2_ {w : World} {g : Nat} {t : TypeId} {cs : Array Value} (h : Aside0 (w.heap[g]? = some (.cells cs t (0, 0)))) : w.frozen? ⟨g, 0, none⟩ = false ∧ w.frozen? ⟨g, 1, none⟩ = false := ⟨blk_frozen h.out 0, blk_frozen h.out 1⟩
theorem cl5_ {w : World} {g : Nat} {t : TypeId} {x0 x1 x2 x3 x4 : Value} (h : Aside0 (w.heap[g]? = some (.cells #[x0, x1, x2, x3, x4] t (0, 0)))) : w.cell? ⟨g, 0, none⟩ = some x0 ∧ w.cell? ⟨g, 1, none⟩ = some x1 ∧ w.cell? ⟨g, 2, none⟩ = some x2 ∧ w.cell? ⟨g, 3, none⟩ = some x3 ∧ w.cell? ⟨g, 4, none⟩ = some x4 := ⟨(blk_cell h.out 0).trans rfl, (blk_cell h.out 1).trans rfl, (blk_cell h.out 2).trans rfl, (blk_cell h.out 3).trans rfl, (blk_cell h.out 4).trans rfl⟩
theorem fz5_ {w : World} {g : Nat} {t : TypeId} {cs : Array Value} (h : Aside0 (w.heap[g]? = some (.cells cs t (0, 0)))) : w.frozen? ⟨g, 0, none⟩ = false ∧ w.frozen? ⟨g, 1, none⟩ = false ∧ w.frozen? ⟨g, 2, none⟩ = false ∧ w.frozen? ⟨g, 3, none⟩ = false ∧ w.frozen? ⟨g, 4, none⟩ = false := ⟨blk_frozen h.out 0, blk_frozen h.out 1, blk_frozen h.out 2, blk_frozen h.out 3, blk_frozen h.out 4⟩
end Go.Proofs.YtcphflfjhkeooaaDoor.Z
end

section
/- What turns one block alone. -/
namespace Go.Proofs.YtcphflfjhkeooaaDoor.Z
open Go.RowKit Go.Proofs.YtcphflfjhkeooaaDoorW.PrintWords Go.Proofs.YtcphflfjhkeooaaDoorW.PrintLast
set_option linter.unusedVariables false
/-- Only block g is another one: it is o now. -/
def Step (g : Nat) (w w' : World) (o : Obj) : Prop := w'.heap[g]? = some o ∧ KeepBut w w' g none ∧ ∀ B, B ≤ g → Below B w w'
theorem Step.refl {g : Nat} {w : World} {o : Obj} (h : w.heap[g]? = some o) : Step g w w o := ⟨h, KeepBut.refl _ _ _, fun _ _ => Below.refl _ _⟩
theorem Step.trans {g : Nat} {w w1 w2 : World} {o o' : Obj} (h : Step g w w1 o) (k : Step g w1 w2 o') : Step g w w2 o' := ⟨k.1, h.2.1.trans k.2.1 (.inl rfl), fun B hB => (h.2.2 B hB).trans (k.2.2 B hB)⟩
theorem Step.drew {g : Nat} {w w1 : World} {o : Obj} (h : Step g w w1 o) : Step g w w1.drew o := ⟨blk_drew h.1, keep_drew h.2.1, fun B hB => below_drew1 (h.2.2 B hB)⟩
theorem Step.set {g : Nat} {w w1 : World} {t : TypeId} {cs : Array Value} (h : Step g w w1 (.cells cs t (0, 0))) (j : Nat) (u : Value) {cs' : Array Value} (e : cs.setIfInBounds j u = cs') : Step g w (w1.setCell ⟨g, j, none⟩ u) (.cells cs' t (0, 0)) :=
  ⟨e ▸ blk_set h.1 j u, h.2.1.set_ j u, fun B hB => (h.2.2 B hB).setCell (p := ⟨g, j, none⟩) hB u⟩
end Go.Proofs.YtcphflfjhkeooaaDoor.Z
end

section
/- Rows of the call's own, cell by cell: what copy, clear and append in place do to them. -/
namespace Go.Proofs.YtcphflfjhkeooaaDoor.Z
open Go.RowKit Go.Proofs.YtcphflfjhkeooaaDoorW.PrintWords Go.Proofs.YtcphflfjhkeooaaDoorW.PrintLast
set_option linter.unusedVariables false
set_option linter.unusedSimpArgs false
theorem run_copy_k {P : Program} (w : World) (dT sT ty elem : TypeId) (b o dLen dCap : Nat) (a : Addr) (sLen sCap k : Nat) (cs : List Value)
    (hu : P.underlying dT = some (.slice elem)) (hs : (P.info? elem).map (·.size) = some k) (hn : cs.length = Nat.min sLen dLen * k)
    (hsrc : ∀ j v, cs[j]? = some v → w.cell? (a.add j) = some v) (hc : ∀ j, j < cs.length → (w.cell? ⟨b, o + j, none⟩).isSome = true) (hf : ∀ j, j < cs.length → w.frozen? ⟨b, o + j, none⟩ = false) (h1 : ∀ v ∈ cs, v.oneCell' = true) :
    (Builtin.copy_ #[dT, sT] ty #[.slice (some ⟨b, o, none⟩) dLen dCap, .slice (some a) sLen sCap]).run P w = .ok (goInt (Nat.min sLen dLen)) (w.setCells b o cs) := by
  have hl := run_loadCells_list (P := P) w a cs hsrc
  have hst := run_storeCells_cells (P := P) b o cs 0 w (by simpa using hc) (by simpa using hf) h1
  cases hq : P.info? elem with
  | none => simp [hq] at hs
  | some i =>
    have hi : i.size = k := by simpa [hq] using hs
    simp [Builtin.copy_, run_underlying hu, Builtin.lenOf, Builtin.firstCells, sizeOf, typeInfo, hq, hi, ← hn, hl, hst]
theorem run_clear_k {P : Program} (w : World) (t e ty : TypeId) (z : Value) (ht : P.underlying t = some (.slice e)) (hv : ∀ w, (zeroValue e).run P w = .ok z w) (h1 : ∀ u ∈ z.cells.toList, u.oneCell' = true) (b o n c : Nat) (hn : 0 < n)
    (hc : ∀ j, j < n * z.cells.size → (w.cell? ⟨b, o + j, none⟩).isSome = true) (hf : ∀ j, j < n * z.cells.size → w.frozen? ⟨b, o + j, none⟩ = false) :
    (Builtin.clear_ #[t] ty #[.slice (some ⟨b, o, none⟩) n c]).run P w = .ok (.tuple #[]) (w.setCells b o (Builtin.zeroCells z.cells n).toList) := by
  have hlen : (Builtin.zeroCells z.cells n).toList.length = n * z.cells.size := by rw [Array.length_toList, size_zeroCells]
  have hst := run_storeCells_cells (P := P) b o (Builtin.zeroCells z.cells n).toList 0 w (by rw [hlen]; simpa using hc) (by rw [hlen]; simpa using hf) (by
    intro u hu
    simp only [Builtin.zeroCells, Array.toList_map, List.mem_map] at hu
    obtain ⟨i, hi, rfl⟩ := hu
    have hi2 : i < n * z.cells.size := by simpa using hi
    have hz : 0 < z.cells.size := by rcases Nat.eq_zero_or_pos z.cells.size with h | h; · rw [h] at hi2; omega
                                     · exact h
    have hlt := Nat.mod_lt i hz
    rw [getElem!_pos z.cells _ hlt]
    exact h1 _ (by simp))
  simp only [Nat.add_zero] at hst
  obtain ⟨m, rfl⟩ : ∃ m, n = m + 1 := ⟨n - 1, by omega⟩
  simp [Builtin.clear_, run_underlying ht, hv, hst]
theorem wpList_clear_run {P : Program} (w : World) {ops : Array Oper} {rest : List Oper} {o : Oper} {a : Act} {Q : Exit → Act → World → Prop} (hgd : o.guard = none) (d : Operand) (t : TypeId)
    (ho : o.op = .call { callee := .builtin .clear, args := #[d], argTypes := #[t] }) (v : Value) (hd : a.eval d = v) {v' : Value} {w' : World}
    (hr : (Builtin.clear_ #[t] o.type #[v]).run P w = .ok v' w') (h : wpList P ops Q rest (a.put o.dst v') w') : wpList P ops Q (o :: rest) a w := by
  refine wpList_plain hgd fun _ hK => ?_
  unfold Oper.wp execOp
  simp only [ho, resolve, invoke, builtin, Sem.run_bind, Sem.run_pure, Result.andThen_ok, List.map_toArray, List.map_cons, List.map_nil, hd, hr]
  exact hK _ _ h
theorem wpList_copy_run_ {P : Program} (w : World) {ops : Array Oper} {rest : List Oper} {o : Oper} {a : Act} {Q : Exit → Act → World → Prop} (hgd : o.guard = none) (d s : Operand) (t t' : TypeId)
    (ho : o.op = .call { callee := .builtin .copy, args := #[d, s], argTypes := #[t, t'] }) (v u : Value) (hd : a.eval d = v) (hs : a.eval s = u) {v' : Value} {w' : World}
    (hr : (Builtin.copy_ #[t, t'] o.type #[v, u]).run P w = .ok v' w') (h : wpList P ops Q rest (a.put o.dst v') w') : wpList P ops Q (o :: rest) a w := by
  refine wpList_plain hgd fun _ hK => ?_
  unfold Oper.wp execOp
  simp only [ho, resolve, invoke, builtin, Sem.run_bind, Sem.run_pure, Result.andThen_ok, List.map_toArray, List.map_cons, List.map_nil, hd, hs, hr]
  exact hK _ _ h
/-- A copy as one step of a region that draws its order. -/
theorem step_copy_run_ {P : Program} {ops : Array Oper} {o : Oper} {a : Act} {w : World} {K : Act → World → Prop} {Q : Exit → Act → World → Prop} {E : Prop}
    (hg : o.guard = none) (d x : Operand) (dT sT : TypeId) (hop : o.op = Op.call { callee := Callee.builtin Builtin.copy, args := #[d, x], argTypes := #[dT, sT] })
    (v u : Value) (hd : a.eval d = v) (hx : a.eval x = u) {v' : Value} {w' : World} (hr : (Builtin.copy_ #[dT, sT] o.type #[v, u]).run P w = .ok v' w') (hK : K (a.put o.dst v') w') :
    if Region.wanted o (yielded ops a.tmps) = true then Oper.wp P o a w K Q else E := by
  have hw : Region.wanted o (yielded ops a.tmps) = true := by simp [Region.wanted, hg]
  rw [if_pos hw]
  unfold Oper.wp
  simp [execOp, hop, resolve, invoke, builtin, hd, hx, hr, Result.andThen]
  exact hK
/-- Flat elements: what they are hangs on no world. -/
theorem flat_M {α : Type} {d : Kd α} (hE : d.E = []) {w w' : World} {base : Nat} {ok ok' : Nat → Prop} {x : α} {cs : List Value} (h : d.M w base ok x cs) : d.M w' base ok' x cs := by
  have h1 := d.M_bound h
  have h2 : d.M w base (fun _ => False) x cs := d.M_mono (fun k hk => by obtain ⟨_, _, _, q, hq, _⟩ := hk; rw [hE] at hq; cases hq) h1
  exact d.M_mono (fun _ hk => hk.elim) (d.M_move (fun _ hk => hk.elim) h2)
theorem flat_one {α : Type} {d : Kd α} {w : World} {base : Nat} {ok : Nat → Prop} {xs : List α} {cs : List Value} (h : Reps (d.M w base ok) d.sz xs cs) (hs : 0 < d.sz) : ∀ u ∈ cs, u.oneCell' = true := by
  intro u hu
  obtain ⟨i, hi, rfl⟩ := List.getElem_of_mem hu
  have hl := h.1
  have hj : i / d.sz < xs.length := by rw [Nat.div_lt_iff_lt_mul hs]; omega
  have h2 := h.2 _ _ (List.getElem?_eq_getElem hj)
  refine d.K_one (d.K_of_M h2) _ ?_
  have hm := Nat.mod_lt i hs
  have hd := Nat.div_add_mod i d.sz
  have hmul : i / d.sz * d.sz = d.sz * (i / d.sz) := Nat.mul_comm _ _
  refine List.mem_iff_getElem?.2 ⟨i % d.sz, ?_⟩
  rw [List.getElem?_take, if_pos hm, List.getElem?_drop, show i / d.sz * d.sz + i % d.sz = i by omega, List.getElem?_eq_getElem hi]
/-- A row that is not empty, cell by cell. -/
theorem R_row {α : Type} {d : Kd α} {e base : Nat} {ok : Nat → Prop} {w : World} {v : Value} {xs : List α} (hE : d.E = []) (h : d.R e w base ok v xs) (hn : 0 < xs.length) :
    ∃ g cap cur inner, v = .slice (some ⟨g, 0, none⟩) xs.length cap ∧ base ≤ g ∧ ok g ∧ w.heap[g]? = some (.cells cur e (0, 0)) ∧ xs.length ≤ cap ∧ cap ≤ maxLen ∧ cur.size = cap * d.sz ∧ inner.length = xs.length * d.sz ∧
      cur.toList.take (xs.length * d.sz) = inner ∧ ∀ w' ok', Reps (d.M w' base ok') d.sz xs inner := by
  obtain ⟨h0, inner, ho, hr⟩ := h
  obtain ⟨h1, h2⟩ := ho
  rcases h2 with ⟨_, h2⟩ | ⟨g, cap, cur, rfl, hb, hg, hnc, hc, hsz, ht⟩
  · omega
  · exact ⟨g, cap, cur, inner, rfl, hb, h0 g rfl, hg, hnc, hc, hsz, h1, ht, fun w' ok' => hr.imp_ (fun _ _ hm => flat_M hE hm)⟩
theorem R_of_row {α : Type} {d : Kd α} {e base : Nat} {ok : Nat → Prop} {w : World} {xs : List α} {g cap : Nat} {cur : Array Value} {inner : List Value} (hb : base ≤ g) (hok : ok g) (hg : w.heap[g]? = some (.cells cur e (0, 0)))
    (hnc : xs.length ≤ cap) (hc : cap ≤ maxLen) (hsz : cur.size = cap * d.sz) (hl : inner.length = xs.length * d.sz) (ht : cur.toList.take (xs.length * d.sz) = inner) (hr : ∀ ok', Reps (d.M w base ok') d.sz xs inner) :
    d.R e w base ok (.slice (some ⟨g, 0, none⟩) xs.length cap) xs :=
  ⟨fun k hk => by have : g = k := by simpa [Value.ownBlock] using hk
                  subst this; exact hok, inner, ⟨hl, .inr ⟨g, cap, cur, rfl, hb, hg, hnc, hc, hsz, ht⟩⟩, hr _⟩
theorem row_cell {w : World} {g e : Nat} {cur : Array Value} (hg : w.heap[g]? = some (.cells cur e (0, 0))) (j : Nat) : w.cell? ⟨g, j, none⟩ = cur.toList[j]? := by
  rw [blk_cell hg j]; simp
theorem row_some {w : World} {g e : Nat} {cur : Array Value} (hg : w.heap[g]? = some (.cells cur e (0, 0))) (j : Nat) (h : j < cur.size) : (w.cell? ⟨g, j, none⟩).isSome = true := by
  rw [row_cell hg j, List.getElem?_eq_getElem (by simpa using h)]; rfl
theorem below_setCells {w0 w : World} {B g : Nat} (h : Below B w0 w) (hg : B ≤ g) (o : Nat) (vs : List Value) : Below B w0 (w.setCells g o vs) := by
  obtain ⟨h1, h2, h3, h4⟩ := setCells_same g vs o w
  exact ⟨h1.trans h.os, h2.trans h.tape, h3.trans h.output, by rw [h4]; exact h.size, fun k hk => (setCells_far vs o k (by omega)).trans (h.block k hk)⟩
theorem kept_setCells {w W : World} {S : Nat → Prop} {g : Nat} (h : Kept w W S) (hg : S g ∨ w.heap.size ≤ g) (o : Nat) (vs : List Value) : Kept w (W.setCells g o vs) S := by
  obtain ⟨_, _, _, h4⟩ := setCells_same g vs o W
  refine ⟨by rw [h4]; exact h.1, fun i hi hn => ?_⟩
  rw [setCells_far vs o i (by rintro rfl; rcases hg with hg | hg; · exact hn hg
                              · omega)]
  exact h.2 i hi hn
theorem reps_cells {α : Type} {R : α → List Value → Prop} {k : Nat} {xs : List α} {cs : List Value} (h : Reps R k xs cs) : cs.length = xs.length * k := h.1
/-- What is read, as one list of cells. -/
theorem C_cells {α : Type} {d : Kd α} {w : World} {A : Option Addr} {n : Nat} {l : List α} (h : d.C w A n l) (hn : 0 < n) :
    ∃ ad inner, A = some ad ∧ Reps (d.K w) d.sz l inner ∧ ∀ j u, inner[j]? = some u → w.cell? (ad.add j) = some u := by
  obtain ⟨hl, _, hc0⟩ := h
  obtain ⟨ad, rfl, hc⟩ := hc0 hn
  have pre : ∀ m, m ≤ l.length → ∃ inner, Reps (d.K w) d.sz (l.take m) inner ∧ ∀ j u, inner[j]? = some u → w.cell? (ad.add j) = some u := by
    intro m
    induction m with
    | zero => exact fun _ => ⟨[], by simpa using Reps.none _ _, fun j u hu => by simp at hu⟩
    | succ m ih =>
      intro hm
      obtain ⟨inner, h1, h2⟩ := ih (by omega)
      obtain ⟨c, hs, hK, hcell⟩ := hc m _ (List.getElem?_eq_getElem (by omega))
      refine ⟨inner ++ c, ?_, fun j u hu => ?_⟩
      · rw [List.take_succ_eq_append_getElem (by omega)]
        exact h1.snoc hK hs
      · have hil : inner.length = m * d.sz := by rw [h1.1, List.length_take, Nat.min_eq_left (by omega)]
        rcases Nat.lt_or_ge j inner.length with hj | hj
        · rw [List.getElem?_append_left hj] at hu; exact h2 j u hu
        · rw [List.getElem?_append_right hj] at hu
          have := hcell (j - inner.length) u hu
          rw [hil, show m * d.sz + (j - m * d.sz) = j by omega] at this
          exact this
  obtain ⟨inner, h1, h2⟩ := pre l.length (Nat.le_refl _)
  rw [List.take_length] at h1
  exact ⟨ad, inner, rfl, h1, h2⟩
/-- What is read of an own row that may change lies elsewhere. -/
theorem C_apart {α : Type} {d : Kd α} {w : World} {A : Option Addr} {l : List α} {S : Nat → Prop} (h : ∀ W_, Kept w W_ S → d.C W_ A l.length l) (hn : 0 < l.length) (hs : 0 < d.sz) :
    ∃ b o inner, A = some ⟨b, o, none⟩ ∧ b < w.heap.size ∧ ¬ S b ∧ Reps (d.K w) d.sz l inner ∧ ∀ j u, inner[j]? = some u → w.cell? ⟨b, o + j, none⟩ = some u := by
  obtain ⟨ad, inner, rfl, hr, hc⟩ := C_cells (h w (Kept.refl _ _)) hn
  have hil : 0 < inner.length := by rw [hr.1]; exact Nat.mul_pos hn hs
  have h0 := hc 0 _ (List.getElem?_eq_getElem hil)
  obtain ⟨hp, hlt⟩ := addr_plain h0 rfl
  refine ⟨ad.block, ad.off, inner, by rw [← hp], hlt, fun hS => ?_, hr, fun j u hu => by have := hc j u hu; rw [hp, add_at] at this; exact this⟩
  -- a world in which that block is another thing
  have hk : Kept w { w with heap := w.heap.setIfInBounds ad.block (.map #[] 0) } S := by
    refine ⟨by simp, fun i hi hn => ?_⟩
    have : ad.block ≠ i := by rintro rfl; exact hn hS
    simp [Array.getElem?_setIfInBounds, this]
  obtain ⟨ad2, inner2, he, hr2, hc2⟩ := C_cells (h _ hk) hn
  injection he with he
  subst he
  have h2 := hc2 0 _ (List.getElem?_eq_getElem (by rw [hr2.1]; exact Nat.mul_pos hn hs))
  rw [show ad.add 0 = ad from rfl] at h2
  unfold World.cell? at h2
  simp [Array.getElem?_setIfInBounds, hlt] at h2
end Go.Proofs.YtcphflfjhkeooaaDoor.Z
end

section
/- slices.Clone, Delete of one element, Insert of one element, at lists of items. -/
namespace Go.Proofs.YtcphflfjhkeooaaDoor.Z
open Go.RowKit Go.Proofs.YtcphflfjhkeooaaDoorW.PrintWords Go.Proofs.YtcphflfjhkeooaaDoorW.PrintLast
set_option linter.unusedVariables false
set_option linter.unusedSimpArgs false
theorem k39_KM {w : World} {base : Nat} {ok : Nat → Prop} {x : S39} {cs : List Value} (h : k39.K w x cs) : k39.M w base ok x cs := by
  obtain rfl := k39_open h
  exact k39_mkM _ _ _ _
theorem k39_E : k39.E = [] := rfl
theorem k39_sz : k39.sz = 2 := rfl
def slices_Clone_api_Block_api_Block.f (l0 : List S39) : Option (List S39) := if l0.length * 24 ≤ 140737488355328 then some l0 else none
set_option maxRecDepth 100000 in
set_option maxHeartbeats 2000000 in
theorem slices_Clone_api_Block_api_Block.calls (A0 : Option Addr) (c0 : Nat) (l0 : List S39) (r : List S39) (w : World) (hr0 : Kd.C k39 w A0 l0.length l0) (hc0 : l0.length ≤ c0) (h : slices_Clone_api_Block_api_Block.f l0 = some r) :
    Calls Tryd.prog 47 #[.slice A0 l0.length c0] w fun e w' => ∃ v0_ : Value, e = .returned (v0_) ∧ Kd.R k39 39 w' w.heap.size (fun _ => True) v0_ r ∧ Below w.heap.size w w' := by
  unfold slices_Clone_api_Block_api_Block.f at h
  split at h
  case isFalse => cases h
  case isTrue hbig =>
    obtain rfl := Option.some.inj h
    have q22 : ∀ (w : World) (a : Option Addr) (n c n' c' : Nat), (binOp .eql 23 (.slice a n c) (.slice none n' c')).run Tryd.prog w = .ok (.bool a.isNone) w := fun w a n c n' c' => Lib.run_eql_slice_nil w _ _ a n c n' c' Tryd.underlying23
    have hmx := Kd.C_max hr0
    cases A0 with
    | none =>
      have hl : l0 = [] := by
        rcases Nat.eq_zero_or_pos l0.length with h0 | h0
        · exact List.eq_nil_of_length_eq_zero h0
        · obtain ⟨ad, _, he, _⟩ := C_cells hr0 h0; cases he
      subst hl
      clear hr0 hbig
      go_enter Tryd.func47, Tryd.ntmps47
      go_wp2
      go_ret
      exact ⟨_, rfl, Kd.R_nil _ _ _ _ _, Below.refl _ _⟩
    | some ad =>
      obtain ⟨i0, hi, hz0, hz1, hz2⟩ := info_parts info39
      obtain ⟨inner, hrep, hcell⟩ : ∃ inner, Reps (k39.K w) k39.sz l0 inner ∧ ∀ j u, inner[j]? = some u → w.cell? (ad.add j) = some u := by
        rcases Nat.eq_zero_or_pos l0.length with h0 | h0
        · have hl : l0 = [] := List.eq_nil_of_length_eq_zero h0
          subst hl; exact ⟨[], Reps.none _ _, fun j u hu => by simp at hu⟩
        · obtain ⟨ad2, inner, he, h1, h2⟩ := C_cells hr0 h0
          injection he with he; subst he; exact ⟨inner, h1, h2⟩
      have hrepM : ∀ w' base ok, Reps (k39.M w' base ok) k39.sz l0 inner := fun w' base ok => hrep.imp_ (fun _ _ hk => flat_M (base := base) k39_E (k39_KM (base := base) (ok := ok) hk))
      have hone := flat_one (hrepM w 0 (fun _ => True)) (by decide)
      have hil : inner.length = l0.length * 2 := hrep.1
      have HC := Aside0.mk hcell
      have HM := Aside0.mk hrepM
      have HI := Aside0.mk hil
      have HO := Aside0.mk hone
      clear hr0 hrep hcell hrepM hil hone
      go_enter Tryd.func47, Tryd.ntmps47
      go_wp2_with (at_builtin; refine wpList_append_own _ rfl _ _ 23 rfl w.heap.size 39 i0 _ 2 24 Tryd.underlying23 hi hz0 hz1 hz2 (by rfl) (by decide) _ _ _ rfl (World.ownsRow_made w #[] 0 (Nat.le_refl _) (Nat.zero_le _) (by simp)) ad l0.length c0 inner rfl ?qc1 ?qc2 ?qc3 ?qc4 ?qc5 ?qc6 ?_)
      case qc1 => exact HI.out
      case qc2 => intro j u hj; exact Lib.cell?_alloc_some _ (HC.out j u hj)
      case qc3 => exact HO.out
      case qc4 => unfold maxLen; omega
      intro v' w1 hown hgrow hnil
      go_wp2
      go_ret

      refine ⟨v', rfl, ⟨fun _ _ => trivial, inner, hown, ?_⟩, ((Below.refl _ w).alloc (Nat.le_refl _) _).grown hgrow (by simp) (by intro k hk; simp [Value.ownBlock] at hk; omega)⟩
      exact HM.out _ _ _
/-- One element taken out. -/
def slices_Delete_api_Block_api_Block.f (l0 : List S39) (a1 a2 : Int) : Option (List S39) := if 0 ≤ a1 ∧ a1 < l0.length ∧ a2 = a1 + 1 then some (l0.take a1.toNat ++ l0.drop (a1.toNat + 1)) else none
theorem take_cut {α : Type} (l : List α) (a b : Nat) (mid : List α) (tl : List α) (h : a ≤ l.length) (hm : mid.length = b) (n : Nat) (hn : n = a + b) : (l.take a ++ mid ++ tl).take n = l.take a ++ mid := by
  subst hn
  rw [List.take_append_of_le_length (by rw [List.length_append, List.length_take]; omega), List.take_of_length_le (by rw [List.length_append, List.length_take]; omega)]
set_option maxRecDepth 100000 in
set_option maxHeartbeats 4000000 in
theorem slices_Delete_api_Block_api_Block.calls (P0_ : Nat → Prop) (u9000_ : Value) (l0 : List S39) (a1 a2 : Int) (r : List S39) (w0 w : World) (hB : Below w0.heap.size w0 w) (ho0 : Kd.R k39 39 w w0.heap.size P0_ u9000_ l0) (h : slices_Delete_api_Block_api_Block.f l0 a1 a2 = some r) :
    Calls Tryd.prog 42 #[u9000_, .int .i64 a1, .int .i64 a2] w fun e w' => ∃ v0_ : Value, e = .returned (v0_) ∧ Kd.R k39 39 w' w0.heap.size (fun k_ => (P0_ k_ ∨ w.heap.size ≤ k_)) v0_ r ∧ Below w0.heap.size w0 w' ∧ Kept w w' (fun k_ => P0_ k_) := by
  unfold slices_Delete_api_Block_api_Block.f at h
  split at h
  case isFalse => cases h
  case isTrue hh =>
    obtain ⟨h1, h2, rfl⟩ := hh
    obtain rfl := Option.some.inj h
    clear h
    obtain ⟨i, rfl⟩ : ∃ i : Nat, a1 = i := ⟨a1.toNat, (Int.toNat_of_nonneg h1).symm⟩
    obtain ⟨g, cap, cur, inner, rfl, hbg, hok, hg, hnc, hcm, hsz, hil, hti, hrep⟩ := R_row k39_E ho0 (by omega)
    rw [k39_sz] at hsz hil hti
    obtain ⟨m, hn0⟩ : ∃ m, l0.length = i + m + 1 := ⟨l0.length - 1 - i, by omega⟩
    obtain ⟨n, hnm⟩ : ∃ n, n = i + m := ⟨_, rfl⟩
    have hn : l0.length = n + 1 := by omega
    have hin : i ≤ n := by omega
    rw [Int.toNat_natCast]
    have hcur : cur.toList.length = cap * 2 := by rw [Array.length_toList]; exact hsz
    unfold maxLen at hcm
    -- what stands behind it
    obtain ⟨news, hnews⟩ : ∃ news, news = inner.drop ((i + 1) * 2) := ⟨_, rfl⟩
    have hnl : news.length = (n - i) * 2 := by rw [hnews, List.length_drop, hil]; omega
    have hone : ∀ u ∈ news, u.oneCell' = true := fun u hu => flat_one (hrep w P0_) (by decide) u (by rw [hnews] at hu; exact List.mem_of_mem_drop hu)
    have hsrc : ∀ j u, news[j]? = some u → cur.toList[(i + 1) * 2 + j]? = some u := by
      intro j u hu
      rw [hnews, ← hti, List.getElem?_drop, List.getElem?_take] at hu
      split at hu
      · exact hu
      · cases hu
    have hgd : w.drew.heap[g]? = some (.cells cur 39 (0, 0)) := hg
    obtain ⟨cur1, hg1, hs1, ht1⟩ := setCells_row news (i * 2) w.drew cur hgd (by rw [hsz]; omega)
    obtain ⟨W1, hW1⟩ : ∃ W1, W1 = w.drew.setCells g (i * 2) news := ⟨_, rfl⟩
    rw [← hW1] at hg1
    have hz : (Builtin.zeroCells (Value.agg #[.int .u32 0, .string ⟨#[]⟩]).cells 1).toList.length = 2 := by rw [Array.length_toList, size_zeroCells]; rfl
    obtain ⟨cur2, hg2, hs2, ht2⟩ := setCells_row (Builtin.zeroCells (Value.agg #[.int .u32 0, .string ⟨#[]⟩]).cells 1).toList (n * 2) W1 cur1 hg1 (by rw [hz, hs1, hsz]; omega)
    obtain ⟨i0, hi, hz0, hz1, hz2⟩ := info_parts info39
    have hzero : ∀ w, (zeroValue 39).run Tryd.prog w = .ok (.agg #[.int .u32 0, .string ⟨#[]⟩]) w := fun w => by simp [zeroValue, typeInfo, hi, hz0]
    have hclear := run_clear_k W1 23 39 0 (.agg #[.int .u32 0, .string ⟨#[]⟩]) Tryd.underlying23 hzero (by decide) g (n * 2) 1 (cap - n) (by decide)
      (fun j hj => by rw [show (Value.agg #[.int .u32 0, .string ⟨#[]⟩]).cells.size = 2 from rfl] at hj; exact row_some hg1 _ (by rw [hs1, hsz]; omega)) (fun j hj => blk_frozen hg1 _)
    obtain ⟨W2, hW2⟩ : ∃ W2, W2 = W1.setCells g (n * 2) (Builtin.zeroCells (Value.agg #[.int .u32 0, .string ⟨#[]⟩]).cells 1).toList := ⟨_, rfl⟩
    rw [← hW2] at hclear hg2
    -- the end
    have hend : Kd.R k39 39 W2 w0.heap.size (fun k_ => (P0_ k_ ∨ w.heap.size ≤ k_)) (.slice (some ⟨g, 0, none⟩) n cap) (l0.take i ++ l0.drop (i + 1)) ∧ Below w0.heap.size w0 W2 ∧ Kept w W2 (fun k_ => P0_ k_) := by
      have hl : (l0.take i ++ l0.drop (i + 1)).length = n := by rw [List.length_append, List.length_take, List.length_drop]; omega
      refine ⟨?_, ?_, ?_⟩
      · have hR := R_of_row (d := k39) (e := 39) (base := w0.heap.size) (ok := fun k_ => (P0_ k_ ∨ w.heap.size ≤ k_)) (w := W2) (xs := l0.take i ++ l0.drop (i + 1)) (cap := cap) (inner := inner.take (i * 2) ++ news) hbg (.inl hok) hg2 (by omega) (by unfold maxLen; omega) (by rw [k39_sz, hs2, hs1, hsz])
          (by rw [k39_sz, hl, List.length_append, List.length_take, hnl, hil]; omega)
          (by
            rw [k39_sz, hl, ht2, ht1, List.append_assoc, List.append_assoc]
            have e1 : (cur.toList.take (i * 2) ++ (news ++ cur.toList.drop (i * 2 + news.length))).take (n * 2) = inner.take (i * 2) ++ news := by
              rw [← List.append_assoc, take_cut _ (i * 2) news.length _ _ (by omega) rfl (n * 2) (by omega), ← hti, List.take_take, Nat.min_eq_left (by omega)]
            rw [List.take_append_of_le_length (by rw [List.length_take, List.length_append, List.length_take, List.length_append, List.length_drop]; omega), List.take_take, Nat.min_self, e1])
          (fun ok' => by
            refine Kd.reps_append ?_ ?_
            · exact Kd.reps_take (hrep W2 ok') (by omega)
            · rw [hnews]; exact Kd.reps_drop (hrep W2 ok'))
        rw [hl] at hR
        exact hR
      · rw [hW2, hW1]
        exact below_setCells (below_setCells (below_drew hB) hbg _ _) hbg _ _
      · rw [hW2, hW1]
        exact kept_setCells (kept_setCells ((Kept.refl w _).drew) (.inl hok) _ _) (.inl hok) _ _
    have hsT : ∀ W : World, (sizeOf 39).run Tryd.prog W = .ok 2 W := fun W => by simp [sizeOf, typeInfo, hi, hz1]
    obtain ⟨ad, hcutB, had⟩ : ∃ ad : Addr, (∀ W : World, (Instr.slice 23 (.slice (some ⟨g, 0, none⟩) (i + m + 1) cap) (some (.int .i64 ((i : Int) + 1))) none none).run Tryd.prog W = .ok (.slice (some ad) m (cap - (i + 1))) W) ∧ ∀ j u, news[j]? = some u → w.drew.cell? (ad.add j) = some u := by
      have hel : Tryd.prog.elem 23 = 39 := by simp [Program.elem, Tryd.underlying23]
      have hu : Tryd.prog.underlying 23 = some (.slice (Tryd.prog.elem 23)) := by rw [hel]; exact Tryd.underlying23
      have hrun : ∀ W : World, (Instr.slice 23 (.slice (some ⟨g, 0, none⟩) (i + m + 1) cap) (some (.int .i64 ((i : Int) + 1))) none none).run Tryd.prog W = .ok (sliced (some ⟨g, 0, none⟩) (i + 1) (i + m + 1) cap 2) W := fun W => by
        rw [run_slice_l W 23 (some ⟨g, 0, none⟩) (i + m + 1) cap hu .i64 ((i : Int) + 1) (by omega) (by omega), hel]
        have : ((i : Int) + 1).toNat = i + 1 := by omega
        simp [hsT, Result.andThen, this]
      by_cases hc : cap = i + 1
      · refine ⟨⟨g, 0, none⟩, fun W => ?_, fun j u hu => ?_⟩
        · rw [hrun W]; unfold sliced; rw [if_pos hc, show i + m + 1 - (i + 1) = m by omega]
        · have := (List.getElem?_eq_some_iff.1 hu).1; omega
      · refine ⟨⟨g, (i + 1) * 2, none⟩, fun W => ?_, fun j u hu => ?_⟩
        · rw [hrun W]; unfold sliced; rw [if_neg hc, show i + m + 1 - (i + 1) = m by omega]; simp [Addr.add]
        · rw [add_at]
          show w.cell? _ = _
          rw [row_cell hg]
          exact hsrc j u hu
    have hcutA : ∀ W : World, (Instr.slice 23 (.slice (some ⟨g, 0, none⟩) (i + m + 1) cap) none (some (.int .i64 (i : Int))) none).run Tryd.prog W = .ok (.slice (some ⟨g, 0, none⟩) i cap) W := fun W => by
      have hel : Tryd.prog.elem 23 = 39 := by simp [Program.elem, Tryd.underlying23]
      have hu : Tryd.prog.underlying 23 = some (.slice (Tryd.prog.elem 23)) := by rw [hel]; exact Tryd.underlying23
      rw [run_slice_h W 23 (some ⟨g, 0, none⟩) (i + m + 1) cap hu .i64 (i : Int) (by omega) (by omega), hel]
      simp [hsT, Result.andThen, sliced, Addr.add]
    have hcutC : ∀ W : World, (Instr.slice 23 (.slice (some ⟨g, 0, none⟩) (i + m) cap) (some (.int .i64 ((i : Int) + (m : Int)))) (some (.int .i64 ((i : Int) + (m : Int) + 1))) none).run Tryd.prog W = .ok (.slice (some ⟨g, n * 2, none⟩) 1 (cap - n)) W := fun W => by
      have hel : Tryd.prog.elem 23 = 39 := by simp [Program.elem, Tryd.underlying23]
      have hu : Tryd.prog.underlying 23 = some (.slice (Tryd.prog.elem 23)) := by rw [hel]; exact Tryd.underlying23
      rw [run_slice_lh W 23 (some ⟨g, 0, none⟩) (i + m) cap hu .i64 .i64 ((i : Int) + (m : Int)) ((i : Int) + (m : Int) + 1) (by omega) (by omega) (by omega), hel]
      have e1 : ((i : Int) + (m : Int)).toNat = i + m := by omega
      have e2 : ((i : Int) + (m : Int) + 1).toNat = i + m + 1 := by omega
      have e3 : ¬ (cap = i + m) := by omega
      simp [hsT, Result.andThen, sliced, Addr.add, e1, e2, e3, hnm]
      intro h0; omega
    have hspare : ∀ j, j < news.length → (w.drew.cell? ⟨g, 0 + i * 2 + j, none⟩).isSome = true ∧ w.drew.frozen? ⟨g, 0 + i * 2 + j, none⟩ = false := fun j hj =>
      ⟨row_some hgd _ (by rw [hsz]; omega), blk_frozen hgd _⟩
    have hb1 : (i : Int) + 1 ≤ (i : Int) + (m : Int) + 1 := by omega
    have hb2 : (i : Int) + (m : Int) + 1 ≤ (cap : Int) := by omega
    have hb3 : ((i : Int) == (i : Int) + 1) = false := by rw [beq_eq_false_iff_ne]; omega
    have hnl2 : news.length = m * 2 := by rw [hnl]; omega
    have hroom : i + m ≤ cap := by omega
    have HADD := Aside0.mk had
    rw [hnm, hW1] at hclear
    rw [hW2, hW1, hnm] at hend
    have HEND := Aside0.mk hend
    have HCL := Aside0.mk hclear
    have HONE := Aside0.mk hone
    have HSP := Aside0.mk hspare
    rw [hn0]
    clear hclear had hone hspare hend hrep ho0 hB ht2 hg2 hs2 ht1 hil hti hnews hn hsrc hcur hs1 hz hg hgd hg1 hnl
    go_enter Tryd.func42, Tryd.ntmps42
    go_wp2
    go_region_law (refine step_append_room rfl _ _ 23 rfl 39 i0 2 Tryd.underlying23 hi hz1 g 0 i cap (by simp [Act.eval, Act.put]) ad m (cap - (i + 1)) news (by simp [Act.eval, Act.put]) hnl2 HADD.out HONE.out hroom HSP.out ?_)
    go_wp2
    rw [HCL.out]
    go_wp2
    go_ret
    exact ⟨_, rfl, HEND.out⟩
/-- One element put in. -/
def slices_Insert_api_Block_api_Block.f (l0 : List S39) (a1 : Int) (l2 : List S39) : Option (List S39) := if 0 ≤ a1 ∧ a1 ≤ l0.length ∧ l2.length = 1 ∧ (l0.length + 1) * 24 ≤ 140737488355328 then some (l0.take a1.toNat ++ l2 ++ l0.drop a1.toNat) else none
set_option maxRecDepth 100000 in
set_option maxHeartbeats 4000000 in
theorem ins_end (P0_ : Nat → Prop) (u : Value) (l0 l2 : List S39) (vb c2 : Nat) (vs : List Value) (w0 w : World) (hB : Below w0.heap.size w0 w) (ho0 : Kd.R k39 39 w w0.heap.size P0_ u l0)
    (hvl : vs.length = 1 * 2) (hl2 : l2.length = 1) (hvc : ∀ j x, vs[j]? = some x → w.cell? ⟨vb, j, none⟩ = some x) (h1v : ∀ x ∈ vs, x.oneCell' = true) (hvM : ∀ w' ok, Reps (k39.M w' w0.heap.size ok) k39.sz l2 vs) (hbig : (l0.length + 1) * 24 ≤ 140737488355328) :
    Calls Tryd.prog 43 #[u, .int .i64 (l0.length : Int), .slice (some ⟨vb, 0, none⟩) 1 c2] w fun e w' => ∃ v0_ : Value, e = .returned (v0_) ∧ Kd.R k39 39 w' w0.heap.size (fun k_ => (P0_ k_ ∨ w.heap.size ≤ k_)) v0_ (l0 ++ l2) ∧ Below w0.heap.size w0 w' ∧ Kept w w' (fun k_ => P0_ k_) := by
  obtain ⟨i0, hi, hz0, hz1, hz2⟩ := info_parts info39
  obtain ⟨h0, inner, hown, hrep⟩ := ho0
  have hlow := hB.size
  have HOWN := Aside0.mk hown
  have HVC := Aside0.mk hvc
  have H1V := Aside0.mk h1v
  have HL := Aside0.mk hlow
  have HREP : Aside0 (∀ w' ok, Reps (k39.M w' w0.heap.size ok) k39.sz (l0 ++ l2) (inner ++ vs)) := ⟨fun w' ok => Kd.reps_append (hrep.imp_ (fun _ _ hm => flat_M k39_E hm)) (hvM w' ok)⟩
  have H0 := Aside0.mk h0
  have HB := Aside0.mk hB
  have fin : ∀ v' w1, w1.ownsRow w0.heap.size 39 2 v' (l0.length + 1) (inner ++ vs) → w.grownBy w1 u.ownBlock → (v'.ownBlock = u.ownBlock ∨ v'.ownBlock = some w.heap.size) →
      Kd.R k39 39 w1 w0.heap.size (fun k_ => (P0_ k_ ∨ w.heap.size ≤ k_)) v' (l0 ++ l2) ∧ Below w0.heap.size w0 w1 ∧ Kept w w1 (fun k_ => P0_ k_) := by
    intro v' w1 ho hg hat
    have hb : ∀ k, u.ownBlock = some k → w0.heap.size ≤ k := fun k hk => by
      rcases HOWN.out.2 with ⟨rfl, _⟩ | ⟨g, cap, cur, rfl, hbg, _⟩
      · cases hk
      · have : g = k := by simpa [Value.ownBlock] using hk
        omega
    refine ⟨⟨fun k hk => ?_, inner ++ vs, ?_, HREP.out _ _⟩, HB.out.grown hg HL.out hb, Kept.of_grown hg (Kept.refl _ _) (fun k hk => .inl (H0.out k hk))⟩
    · rcases hat with hat | hat
      · exact .inl (H0.out k (hat ▸ hk))
      · rw [hat] at hk; injection hk with hk; exact .inr (by omega)
    · rw [List.length_append, hl2]; exact ho
  have FIN := Aside0.mk fin
  have hb1 : (l0.length : Int) = (l0.length : Int) := rfl
  have hmx : l0.length ≤ maxLen := by unfold maxLen; omega
  unfold maxLen at hmx
  clear hvc h1v hlow fin
  rcases hown with ⟨hl, ⟨rfl, hn⟩ | ⟨g, cap, cur, rfl, hbg, hg, hnc, hcm, hsz, ht⟩⟩
  · rw [hn] at HOWN FIN hbig ⊢
    clear hl hrep
    go_enter Tryd.func43, Tryd.ntmps43
    go_wp2_with (at_builtin; refine wpList_append_own_at _ rfl _ _ 23 rfl w0.heap.size 39 i0 _ 2 24 Tryd.underlying23 hi hz0 hz1 hz2 (by rfl) (by decide) _ _ _ rfl HOWN.out ⟨vb, 0, none⟩ 1 c2 vs rfl ?qc1 ?qc2 ?qc3 ?qc4 ?qc5 ?qc6 ?_)
    case qc2 => exact HVC.out
    case qc3 => exact H1V.out
    case qc4 => unfold maxLen; omega
    case qc6 => exact HL.out
    intro v' w1 ho hg hn hat
    have ho' : w1.ownsRow w0.heap.size 39 2 v' (0 + 1) (inner ++ vs) := ho
    have HR := Aside0.mk (FIN.out v' w1 ho' hg hat)
    clear ho hg hn hat ho'
    go_wp2
    go_ret
    exact ⟨_, rfl, HR.out⟩
  · unfold maxLen at hcm
    clear hl hrep ht hg hsz hbg
    by_cases hc : cap = l0.length
    · subst hc
      go_enter Tryd.func43, Tryd.ntmps43
      go_wp2_with (at_builtin; refine wpList_append_own_at _ rfl _ _ 23 rfl w0.heap.size 39 i0 _ 2 24 Tryd.underlying23 hi hz0 hz1 hz2 (by rfl) (by decide) _ _ _ rfl HOWN.out ⟨vb, 0, none⟩ 1 c2 vs rfl ?qd1 ?qd2 ?qd3 ?qd4 ?qd5 ?qd6 ?_)
      case qd2 => exact HVC.out
      case qd3 => exact H1V.out
      case qd4 => unfold maxLen; omega
      case qd6 => exact HL.out
      intro v' w1 ho hg hn hat
      have HR := Aside0.mk (FIN.out v' w1 ho hg hat)
      clear ho hg hn hat
      go_wp2
      go_ret
      exact ⟨_, rfl, HR.out⟩
    · go_enter Tryd.func43, Tryd.ntmps43
      go_wp2_with (at_builtin; refine wpList_append_own_at _ rfl _ _ 23 rfl w0.heap.size 39 i0 _ 2 24 Tryd.underlying23 hi hz0 hz1 hz2 (by rfl) (by decide) _ _ _ rfl HOWN.out ⟨vb, 0, none⟩ 1 c2 vs rfl ?qe1 ?qe2 ?qe3 ?qe4 ?qe5 ?qe6 ?_)
      case qe2 => exact HVC.out
      case qe3 => exact H1V.out
      case qe4 => unfold maxLen; omega
      case qe6 => exact HL.out
      intro v' w1 ho hg hn hat
      have HR := Aside0.mk (FIN.out v' w1 ho hg hat)
      clear ho hg hn hat
      go_wp2
      go_ret
      exact ⟨_, rfl, HR.out⟩
theorem ins_cut (cur cur1 cur2 inner vs news : List Value) (i n : Nat) (hti : cur.take (n * 2) = inner) (hn : i < n) (hl : (n + 1) * 2 ≤ cur.length) (hv : vs.length = 2) (hnl : news.length = (n - i) * 2)
    (ht1 : cur1 = cur.take ((i + 1) * 2) ++ news ++ cur.drop ((i + 1) * 2 + news.length)) (ht2 : cur2 = cur1.take (i * 2) ++ vs ++ cur1.drop (i * 2 + vs.length)) : cur2.take ((n + 1) * 2) = inner.take (i * 2) ++ vs ++ news := by
  have e1 : cur1.take (i * 2) = inner.take (i * 2) := by
    rw [ht1, List.append_assoc, List.take_append_of_le_length (by rw [List.length_take]; omega), List.take_take, Nat.min_eq_left (by omega), ← hti, List.take_take, Nat.min_eq_left (by omega)]
  have e2 : cur1.drop (i * 2 + vs.length) = news ++ cur.drop ((i + 1) * 2 + news.length) := by
    rw [ht1, List.append_assoc]
    exact List.drop_left' (by rw [List.length_take]; omega)
  rw [ht2, e1, e2, ← List.append_assoc]
  refine List.take_left' ?_
  have : inner.length = n * 2 := by rw [← hti, List.length_take]; omega
  simp only [List.length_append, List.length_take, hv, hnl]
  omega
theorem mid_len {α : Type} (l l2 : List α) (i : Nat) (hi : i ≤ l.length) (h2 : l2.length = 1) : (l.take i ++ l2 ++ l.drop i).length = l.length + 1 := by
  simp only [List.length_append, List.length_take, List.length_drop, h2]; omega
set_option maxRecDepth 100000 in
set_option maxHeartbeats 4000000 in
theorem ins_room (P0_ : Nat → Prop) (l0 l2 : List S39) (vb c2 g cap i : Nat) (cur curv : Array Value) (inner vs : List Value) (w0 w : World) (hB : Below w0.heap.size w0 w)
    (hbg : w0.heap.size ≤ g) (hok : P0_ g) (hg : w.heap[g]? = some (.cells cur 39 (0, 0))) (hcm : cap ≤ maxLen) (hsz : cur.size = cap * 2) (hil : inner.length = l0.length * 2) (hti : cur.toList.take (l0.length * 2) = inner)
    (hrep : ∀ w' ok', Reps (k39.M w' w0.heap.size ok') k39.sz l0 inner) (hin : i < l0.length) (hroom : l0.length + 1 ≤ cap) (hvb : vb ≠ g) (hvg : w.heap[vb]? = some (.cells curv 39 (0, 0))) (hl2 : l2.length = 1)
    (hvl : vs.length = 2) (hvc : ∀ j x, vs[j]? = some x → w.cell? ⟨vb, j, none⟩ = some x) (h1v : ∀ x ∈ vs, x.oneCell' = true) (hvM : ∀ w' ok, Reps (k39.M w' w0.heap.size ok) k39.sz l2 vs) :
    Calls Tryd.prog 43 #[.slice (some ⟨g, 0, none⟩) l0.length cap, .int .i64 (i : Int), .slice (some ⟨vb, 0, none⟩) 1 c2] w fun e w' => ∃ v0_ : Value, e = .returned (v0_) ∧ Kd.R k39 39 w' w0.heap.size (fun k_ => (P0_ k_ ∨ w.heap.size ≤ k_)) v0_ (l0.take i ++ l2 ++ l0.drop i) ∧ Below w0.heap.size w0 w' ∧ Kept w w' (fun k_ => P0_ k_) := by
  obtain ⟨i0, hi, hz0, hz1, hz2⟩ := info_parts info39
  obtain ⟨n, hn⟩ : ∃ n, n = l0.length := ⟨_, rfl⟩
  have hsT : ∀ W : World, (sizeOf 39).run Tryd.prog W = .ok 2 W := fun W => by simp [sizeOf, typeInfo, hi, hz1]
  have hsm : (Tryd.prog.info? 39).map (·.size) = some 2 := by rw [hi]; simp [hz1]
  have hlen := mid_len l0 l2 i (by omega) hl2
  rw [← hn] at hil hti hin hroom hlen ⊢
  unfold maxLen at hcm
  obtain ⟨news, hnews⟩ : ∃ news, news = inner.drop (i * 2) := ⟨_, rfl⟩
  have hnl : news.length = (n - i) * 2 := by rw [hnews, List.length_drop, hil]; omega
  have hone : ∀ u ∈ news, u.oneCell' = true := fun u hu => flat_one (hrep w P0_) (by decide) u (by rw [hnews] at hu; exact List.mem_of_mem_drop hu)
  have hsrc : ∀ j u, news[j]? = some u → cur.toList[i * 2 + j]? = some u := by
    intro j u hu
    rw [hnews, ← hti, List.getElem?_drop, List.getElem?_take] at hu
    split at hu
    · exact hu
    · cases hu
  have hgd : w.drew.heap[g]? = some (.cells cur 39 (0, 0)) := hg
  obtain ⟨cur1, hg1, hs1, ht1⟩ := setCells_row news ((i + 1) * 2) w.drew cur hgd (by rw [hsz]; omega)
  obtain ⟨cur2, hg2, hs2, ht2⟩ := setCells_row vs (i * 2) (w.drew.setCells g ((i + 1) * 2) news) cur1 hg1 (by rw [hs1, hsz]; omega)
  have hend : Kd.R k39 39 ((w.drew.setCells g ((i + 1) * 2) news).setCells g (i * 2) vs) w0.heap.size (fun k_ => (P0_ k_ ∨ w.heap.size ≤ k_)) (.slice (some ⟨g, 0, none⟩) (n + 1) cap) (l0.take i ++ l2 ++ l0.drop i) ∧ Below w0.heap.size w0 ((w.drew.setCells g ((i + 1) * 2) news).setCells g (i * 2) vs) ∧ Kept w ((w.drew.setCells g ((i + 1) * 2) news).setCells g (i * 2) vs) (fun k_ => P0_ k_) := by
    refine ⟨?_, below_setCells (below_setCells (below_drew hB) hbg _ _) hbg _ _, kept_setCells (kept_setCells ((Kept.refl w _).drew) (.inl hok) _ _) (.inl hok) _ _⟩
    have hR := R_of_row (d := k39) (e := 39) (base := w0.heap.size) (ok := fun k_ => (P0_ k_ ∨ w.heap.size ≤ k_)) (xs := l0.take i ++ l2 ++ l0.drop i) (cap := cap) (inner := inner.take (i * 2) ++ vs ++ news) hbg (.inl hok) hg2 (by omega) (by unfold maxLen; omega) (by rw [k39_sz, hs2, hs1, hsz])
      (by rw [k39_sz, hlen, List.length_append, List.length_append, List.length_take, hnl, hvl, hil]; omega)
      (by rw [k39_sz, hlen]; exact ins_cut cur.toList cur1.toList cur2.toList inner vs news i n hti hin (by rw [Array.length_toList, hsz]; omega) hvl hnl ht1 ht2)
      (fun ok' => Kd.reps_append (Kd.reps_append (Kd.reps_take (hrep _ ok') (by omega)) (hvM _ ok')) (by rw [hnews]; exact Kd.reps_drop (hrep _ ok')))
    rw [hlen] at hR
    exact hR
  have hov : ∀ lb cb, (callFunc 55 #[.slice (some ⟨vb, 0, none⟩) 1 c2, .slice (some ⟨g, (i + 1) * 2, none⟩) lb cb]).run Tryd.prog w = .ok (.value (.bool false)) w := fun lb cb => by
    rw [run_callFunc_extern Tryd.func55 (by kernel_rfl) (by kernel_rfl) (by kernel_rfl) (e := Extern.SlicesOverlaps.overlaps #[23, 23] #[4]) (by kernel_rfl),
      Lib.run_overlaps_apart w 23 4 39 Tryd.underlying23 2 hsT ⟨vb, 0, none⟩ ⟨g, (i + 1) * 2, none⟩ 1 c2 lb cb hvb 39 39 curv.size cur.size (by simp [World.shape?, hvg]) (by simp [World.shape?, hg]) (by rw [hsz]; omega) (by simp [World.frozen?, hvg]) (by simp [World.frozen?, hvg])]
    rfl
  have hcp1 : ∀ ty dc sc, (Builtin.copy_ #[23, 23] ty #[.slice (some ⟨g, (i + 1) * 2, none⟩) (n - i) dc, .slice (some ⟨g, i * 2, none⟩) (n + 1 - i) sc]).run Tryd.prog w.drew = .ok (goInt (Nat.min (n + 1 - i) (n - i))) (w.drew.setCells g ((i + 1) * 2) news) := fun ty dc sc =>
    run_copy_k w.drew 23 23 ty 39 g ((i + 1) * 2) (n - i) dc ⟨g, i * 2, none⟩ (n + 1 - i) sc 2 news Tryd.underlying23 hsm (by rw [hnl]; simp only [Nat.min_def]; split <;> omega)
      (fun j v hj => by rw [add_at, row_cell hgd]; exact hsrc j v hj)
      (fun j hj => row_some hgd _ (by rw [hsz]; omega)) (fun j hj => blk_frozen hgd _) hone
  have hcp2 : ∀ ty dc, (Builtin.copy_ #[23, 23] ty #[.slice (some ⟨g, i * 2, none⟩) (n + 1 - i) dc, .slice (some ⟨vb, 0, none⟩) 1 c2]).run Tryd.prog (w.drew.setCells g ((i + 1) * 2) news) = .ok (goInt (Nat.min 1 (n + 1 - i))) ((w.drew.setCells g ((i + 1) * 2) news).setCells g (i * 2) vs) := fun ty dc =>
    run_copy_k _ 23 23 ty 39 g (i * 2) (n + 1 - i) dc ⟨vb, 0, none⟩ 1 c2 2 vs Tryd.underlying23 hsm (by rw [hvl]; simp only [Nat.min_def]; split <;> omega)
      (fun j v hj => by
        have := hvc j v hj
        rw [add_at, Nat.zero_add, World.cell?_of_block (w := w)]
        · exact this
        · exact setCells_far news _ vb (fun e => hvb e))
      (fun j hj => row_some hg1 _ (by rw [hs1, hsz]; omega)) (fun j hj => blk_frozen hg1 _) h1v
  have HEND := Aside0.mk hend
  have HCA := Aside0.mk hcp1
  have HCB := Aside0.mk hcp2
  have hw1 : IntKind.i64.wrap ((i : Int) + 1) = (i : Int) + 1 := by rw [IntKind.wrap_i64]; omega
  have hw2 : IntKind.i64.wrap ((n : Int) + 1) = (n : Int) + 1 := by rw [IntKind.wrap_i64]; omega
  have hin2 : i ≤ n := by omega
  have htn : ((i : Int) + 1).toNat = i + 1 := by omega
  have htn2 : ((n : Int) + 1).toNat = n + 1 := by omega
  have hb2 : ¬ (cap = i + 1) := by omega
  have hb1 : (0 : Int) ≤ (i : Int) + 1 := by omega
  have hb5 : (i : Int) ≤ (n : Int) + 1 := by omega
  have hb3 : (i : Int) + 1 ≤ (n : Int) + 1 := by omega
  have hb4 : ¬ (cap = i) := by omega
  have hz2' : ¬ ((i : Int) = (n : Int)) := by omega
  have hz3 : ¬ ((cap : Int) < (n : Int) + 1) := by omega
  have mixed : Tryd.prog.follows .mixedOrders = true := by kernel_rfl
  clear hn
  clear hend hcp1 hcp2 hg2 hg1 hgd hs2 hs1 ht2 ht1 hsrc hone hnl hnews hrep hti hil hsz hg hvg hvc h1v hvM hB hvl hlen hl2
  go_enter Tryd.func43, Tryd.ntmps43
  go_wp2_with (simp only [hov])
  go_region_law_o (refine step_copy_run_ rfl _ _ 23 23 rfl (.slice (some ⟨g, (i + 1) * 2, none⟩) (n - i) (cap - (i + 1))) (.slice (some ⟨g, i * 2, none⟩) (n + 1 - i) (cap - i)) (by simp [Act.eval, Act.put]) (by simp [Act.eval, Act.put]) (HCA.out _ _ _) ?_)
  go_wp2
  rw [HCB.out]
  go_wp2
  go_ret
  exact ⟨_, rfl, HEND.out⟩
set_option maxRecDepth 100000 in
set_option maxHeartbeats 4000000 in
theorem ins_grow (P0_ : Nat → Prop) (l0 l2 : List S39) (vb c2 g cap i : Nat) (cur curv : Array Value) (inner vs : List Value) (w0 w : World) (hB : Below w0.heap.size w0 w)
    (hbg : w0.heap.size ≤ g) (hok : P0_ g) (hg : w.heap[g]? = some (.cells cur 39 (0, 0))) (hcm : cap ≤ maxLen) (hsz : cur.size = cap * 2) (hil : inner.length = l0.length * 2) (hti : cur.toList.take (l0.length * 2) = inner)
    (hrep : ∀ w' ok', Reps (k39.M w' w0.heap.size ok') k39.sz l0 inner) (hin : i < l0.length) (hnc : l0.length ≤ cap) (hroom : cap < l0.length + 1) (hbig : (l0.length + 1) * 24 ≤ 140737488355328) (hvb : vb ≠ g) (hvg : w.heap[vb]? = some (.cells curv 39 (0, 0))) (hl2 : l2.length = 1)
    (hvl : vs.length = 2) (hvc : ∀ j x, vs[j]? = some x → w.cell? ⟨vb, j, none⟩ = some x) (h1v : ∀ x ∈ vs, x.oneCell' = true) (hvM : ∀ w' ok, Reps (k39.M w' w0.heap.size ok) k39.sz l2 vs) :
    Calls Tryd.prog 43 #[.slice (some ⟨g, 0, none⟩) l0.length cap, .int .i64 (i : Int), .slice (some ⟨vb, 0, none⟩) 1 c2] w fun e w' => ∃ v0_ : Value, e = .returned (v0_) ∧ Kd.R k39 39 w' w0.heap.size (fun k_ => (P0_ k_ ∨ w.heap.size ≤ k_)) v0_ (l0.take i ++ l2 ++ l0.drop i) ∧ Below w0.heap.size w0 w' ∧ Kept w w' (fun k_ => P0_ k_) := by
  obtain ⟨i0, hi, hz0, hz1, hz2⟩ := info_parts info39
  obtain ⟨n, hn⟩ : ∃ n, n = l0.length := ⟨_, rfl⟩
  have hsT : ∀ W : World, (sizeOf 39).run Tryd.prog W = .ok 2 W := fun W => by simp [sizeOf, typeInfo, hi, hz1]
  have hsm : (Tryd.prog.info? 39).map (·.size) = some 2 := by rw [hi]; simp [hz1]
  have hlen := mid_len l0 l2 i (by omega) hl2
  rw [← hn] at hil hti hin hroom hlen hbig hnc ⊢
  unfold maxLen at hcm
  obtain ⟨news, hnews⟩ : ∃ news, news = inner.drop (i * 2) := ⟨_, rfl⟩
  have hnl : news.length = (n - i) * 2 := by rw [hnews, List.length_drop, hil]; omega
  have hone0 : ∀ u ∈ inner, u.oneCell' = true := flat_one (hrep w P0_) (by decide)
  have hone : ∀ u ∈ news, u.oneCell' = true := fun u hu => hone0 u (by rw [hnews] at hu; exact List.mem_of_mem_drop hu)
  have hsrc0 : ∀ (j : Nat) (u : Value), inner[j]? = some u → cur.toList[j]? = some u := by
    intro j u hu
    rw [← hti, List.getElem?_take] at hu
    split at hu
    · exact hu
    · cases hu
  have hsrc : ∀ (j : Nat) (u : Value), news[j]? = some u → cur.toList[i * 2 + j]? = some u := fun j u hu => hsrc0 _ u (by rwa [hnews, List.getElem?_drop] at hu)
  have hgb : g < w.heap.size := by
    rcases Nat.lt_or_ge g w.heap.size with h | h
    · exact h
    · rw [Array.getElem?_eq_none h] at hg; cases hg
  have hvbw : vb < w.heap.size := by
    rcases Nat.lt_or_ge vb w.heap.size with h | h
    · exact h
    · rw [Array.getElem?_eq_none h] at hvg; cases hvg
  have hgd : w.drew.heap[g]? = some (.cells cur 39 (0, 0)) := hg
  have hold : (Builtin.firstCells i0.size i (.slice (some ⟨g, 0, none⟩) i cap)).run Tryd.prog w.drew = .ok (inner.take (i * 2)).toArray w.drew := by
    rw [hz1]
    exact run_firstCells_some w.drew 2 i ⟨g, 0, none⟩ i cap (inner.take (i * 2)) (by rw [List.length_take]; omega) (fun j v hj => by
      rw [add_at, row_cell hgd, Nat.zero_add]
      rw [List.getElem?_take] at hj
      split at hj
      · exact hsrc0 j v hj
      · cases hj)
  have hkk : (n : Int) + 1 - (i : Int) = ((n + 1 - i : Nat) : Int) := by omega
  have hik : i + (n + 1 - i) = n + 1 := by omega
  obtain ⟨G, hG⟩ : ∃ G, G = grownCap w (n + 1) cap 39 := ⟨_, rfl⟩
  have hGn : n + 1 ≤ G := by rw [hG]; exact grownCap_ge w _ _ _
  have hG63 : G ≤ 9223372036854775807 := by
    have := grownCap_le_maxLen w (n + 1) cap 39 (by unfold maxLen; omega)
    rw [← hG] at this
    unfold maxLen at this
    omega
  obtain ⟨ROW, hROW⟩ : ∃ ROW : Array Value, ROW = (inner.take (i * 2)).toArray ++ Builtin.zeroCells (Value.agg #[.int .u32 0, .string ⟨#[]⟩]).cells (n + 1 - i) ++ Builtin.zeroCells (Value.agg #[.int .u32 0, .string ⟨#[]⟩]).cells (G - (n + 1)) := ⟨_, rfl⟩
  have hRs : ROW.size = G * 2 := by
    rw [hROW]
    simp only [Array.size_append, size_zeroCells, List.size_toArray, List.length_take, hil]
    rw [show (Value.agg #[.int .u32 0, .string ⟨#[]⟩]).cells.size = 2 from rfl]
    omega
  have hrz : ∀ ty, (Builtin.append_ #[23, 3] ty #[.slice (some ⟨g, 0, none⟩) i cap, .int .i64 ((n : Int) + 1 - (i : Int))]).run Tryd.prog w =
      .ok (.slice (some ⟨w.heap.size, 0, none⟩) (n + 1) G) (w.drew.alloc (.cells ROW 39)) := fun ty => by
    have h := Go.Lib.run_append_grow_zeros w 23 3 ty 39 i0 _ .i64 .i64 Tryd.underlying23 Tryd.underlying3 hi hz0 (some ⟨g, 0, none⟩) i cap (inner.take (i * 2)) hold (n + 1 - i) (by omega) (by omega) (by omega) (by omega) (by rw [hz2]; omega) (by rw [hz2, hik]; exact growslice_fits hroom hbig)
    rw [hik] at h
    rw [hkk, h, ← hG, ← hROW]
  have hg0 : ((w.alloc (.cells ROW 39)).drew).heap[w.heap.size]? = some (.cells ROW 39 (0, 0)) := by
    show (w.heap.push _)[w.heap.size]? = _
    simp
  obtain ⟨cur1, hg1, hs1, ht1⟩ := setCells_row vs (i * 2) ((w.alloc (.cells ROW 39)).drew) ROW hg0 (by rw [hRs]; omega)
  obtain ⟨cur2, hg2, hs2, ht2⟩ := setCells_row news ((i + 1) * 2) (((w.alloc (.cells ROW 39)).drew).setCells w.heap.size (i * 2) vs).drew cur1 hg1 (by rw [hs1, hRs]; omega)
  have hlow := hB.size
  have hend : Kd.R k39 39 (((((w.alloc (.cells ROW 39)).drew).setCells w.heap.size (i * 2) vs).drew).setCells w.heap.size ((i + 1) * 2) news) w0.heap.size (fun k_ => (P0_ k_ ∨ w.heap.size ≤ k_)) (.slice (some ⟨w.heap.size, 0, none⟩) (n + 1) G) (l0.take i ++ l2 ++ l0.drop i) ∧ Below w0.heap.size w0 (((((w.alloc (.cells ROW 39)).drew).setCells w.heap.size (i * 2) vs).drew).setCells w.heap.size ((i + 1) * 2) news) ∧ Kept w (((((w.alloc (.cells ROW 39)).drew).setCells w.heap.size (i * 2) vs).drew).setCells w.heap.size ((i + 1) * 2) news) (fun k_ => P0_ k_) := by
    refine ⟨?_, below_setCells (below_drew (below_setCells (below_drew (below_alloc hB _)) hlow _ _)) hlow _ _, kept_setCells ((kept_setCells (((Kept.refl w _).alloc _).drew) (.inr (Nat.le_refl _)) _ _).drew) (.inr (Nat.le_refl _)) _ _⟩
    have hR := R_of_row (d := k39) (e := 39) (base := w0.heap.size) (ok := fun k_ => (P0_ k_ ∨ w.heap.size ≤ k_)) (xs := l0.take i ++ l2 ++ l0.drop i) (cap := G) (inner := inner.take (i * 2) ++ vs ++ news) hlow (.inr (Nat.le_refl _)) hg2 (by omega) (by unfold maxLen; omega) (by rw [k39_sz, hs2, hs1, hRs])
      (by rw [k39_sz, hlen, List.length_append, List.length_append, List.length_take, hnl, hvl, hil]; omega)
      (by
        rw [k39_sz, hlen, ht2]
        have e0 : ROW.toList.take (i * 2) = inner.take (i * 2) := by
          rw [hROW, Array.toList_append, Array.toList_append, List.append_assoc]
          exact List.take_left' (by rw [List.length_take]; omega)
        have e1 : cur1.toList.take ((i + 1) * 2) = inner.take (i * 2) ++ vs := by
          rw [ht1, e0]
          exact List.take_left' (by rw [List.length_append, List.length_take]; omega)
        rw [e1]
        exact List.take_left' (by simp only [List.length_append, List.length_take, hvl, hnl]; omega))
      (fun ok' => Kd.reps_append (Kd.reps_append (Kd.reps_take (hrep _ ok') (by omega)) (hvM _ ok')) (by rw [hnews]; exact Kd.reps_drop (hrep _ ok')))
    rw [hlen] at hR
    exact hR
  have hcpA : ∀ (W : World), (∀ x, W.cell? x = ((w.alloc (.cells ROW 39)).drew).cell? x) → (∀ x, W.frozen? x = ((w.alloc (.cells ROW 39)).drew).frozen? x) → ∀ ty dc, (Builtin.copy_ #[23, 23] ty #[.slice (some ⟨w.heap.size, i * 2, none⟩) (n + 1 - i) dc, .slice (some ⟨vb, 0, none⟩) 1 c2]).run Tryd.prog W = .ok (goInt (Nat.min 1 (n + 1 - i))) (W.setCells w.heap.size (i * 2) vs) := fun W hWc hWf ty dc =>
    run_copy_k W 23 23 ty 39 w.heap.size (i * 2) (n + 1 - i) dc ⟨vb, 0, none⟩ 1 c2 2 vs Tryd.underlying23 hsm (by rw [hvl]; simp only [Nat.min_def]; split <;> omega)
      (fun j v hj => by
        have := hvc j v hj
        rw [add_at, Nat.zero_add, hWc, World.cell?_of_block (w := w)]
        · exact this
        · show (w.heap.push _)[vb]? = w.heap[vb]?; have hne : vb ≠ w.heap.size := by omega
          simp [Array.getElem?_push, hne])
      (fun j hj => by rw [hWc]; exact row_some hg0 _ (by rw [hRs]; omega)) (fun j hj => by rw [hWf]; exact blk_frozen hg0 _) h1v
  have hgN : g ≠ w.heap.size := by omega
  have hcpB : ∀ (W : World), (∀ x, W.cell? x = (((w.alloc (.cells ROW 39)).drew).setCells w.heap.size (i * 2) vs).cell? x) → (∀ x, W.frozen? x = (((w.alloc (.cells ROW 39)).drew).setCells w.heap.size (i * 2) vs).frozen? x) → ∀ ty dc sc, (Builtin.copy_ #[23, 23] ty #[.slice (some ⟨w.heap.size, (i + 1) * 2, none⟩) (n - i) dc, .slice (some ⟨g, i * 2, none⟩) (n - i) sc]).run Tryd.prog W = .ok (goInt (Nat.min (n - i) (n - i))) (W.setCells w.heap.size ((i + 1) * 2) news) := fun W hWc hWf ty dc sc =>
    run_copy_k W 23 23 ty 39 w.heap.size ((i + 1) * 2) (n - i) dc ⟨g, i * 2, none⟩ (n - i) sc 2 news Tryd.underlying23 hsm (by rw [hnl]; simp only [Nat.min_def]; split <;> omega)
      (fun j v hj => by
        rw [add_at, hWc, World.cell?_of_block (w := w.drew)]
        · rw [row_cell hgd]; exact hsrc j v hj
        · rw [setCells_far vs _ g (fun e => hgN e)]; show (w.heap.push _)[g]? = w.heap[g]?; simp [Array.getElem?_push, hgN])
      (fun j hj => by rw [hWc]; exact row_some hg1 _ (by rw [hs1, hRs]; omega)) (fun j hj => by rw [hWf]; exact blk_frozen hg1 _) hone
  have HEND := Aside0.mk hend
  have HRZ := Aside0.mk hrz
  have HCA := Aside0.mk hcpA
  have HCB := Aside0.mk hcpB
  have hw1 : IntKind.i64.wrap ((i : Int) + 1) = (i : Int) + 1 := by rw [IntKind.wrap_i64]; omega
  have hw2 : IntKind.i64.wrap ((n : Int) + 1) = (n : Int) + 1 := by rw [IntKind.wrap_i64]; omega
  have hw3 : IntKind.i64.wrap ((n : Int) + 1 - (i : Int)) = (n : Int) + 1 - (i : Int) := by rw [IntKind.wrap_i64]; omega
  have hin2 : i ≤ n := by omega
  have htn : ((i : Int) + 1).toNat = i + 1 := by omega
  have hb1 : (0 : Int) ≤ (i : Int) + 1 := by omega
  have hb2 : ¬ (G = i + 1) := by omega
  have hb5 : (i : Int) ≤ (n : Int) + 1 := by omega
  have hb6 : (i : Int) + 1 ≤ (n : Int) + 1 := by omega
  have hb3 : ¬ (G = i) := by omega
  have hb7 : (i : Int) ≤ (cap : Int) := by omega
  have hb4 : ¬ (cap = i) := by omega
  have hz2' : ¬ ((i : Int) = (n : Int)) := by omega
  have hz3 : (cap : Int) < (n : Int) + 1 := by omega
  have mixed : Tryd.prog.follows .mixedOrders = true := by kernel_rfl
  clear hn hend hcpA hcpB hg2 hg1 hg0 hgd hs2 hs1 ht2 ht1 hsrc hsrc0 hone hone0 hnl hnews hrep hti hil hsz hg hvg hvc h1v hvM hB hvl hlen hl2 hold hrz hRs hROW hG hkk hik hnc
  go_enter Tryd.func43, Tryd.ntmps43
  go_wp2_with (at_builtin; refine Go.Lib.wpList_append_run _ rfl _ _ _ _ rfl _ _ rfl rfl _ _ (HRZ.out _) ?_)
  rw [HCA.out (w.alloc (.cells ROW 39)).drew (fun _ => rfl) (fun _ => rfl)]
  go_wp2
  go_region_law_o (refine step_copy_run_ rfl _ _ 23 23 rfl (.slice (some ⟨w.heap.size, (i + 1) * 2, none⟩) (n - i) (G - (i + 1))) (.slice (some ⟨g, i * 2, none⟩) (n - i) (cap - i)) (by simp [Act.eval, Act.put]) (by simp [Act.eval, Act.put]) (HCB.out (((w.alloc (.cells ROW 39)).drew).setCells w.heap.size (i * 2) vs).drew (fun _ => rfl) (fun _ => rfl) _ _ _) ?_)
  go_wp2
  go_ret
  exact ⟨_, rfl, HEND.out⟩
theorem slices_Insert_api_Block_api_Block.calls (P0_ : Nat → Prop) (u9000_ : Value) (l0 : List S39) (a1 : Int) (A2 : Option Addr) (c2 : Nat) (l2 : List S39) (r : List S39) (w0 w : World) (hB : Below w0.heap.size w0 w) (ho0 : Kd.R k39 39 w w0.heap.size P0_ u9000_ l0)
    (hr2 : ∀ W_, Kept w W_ (fun k_ => P0_ k_) → Kd.C k39 W_ A2 l2.length l2) (hc2 : l2.length ≤ c2) (hp2 : ∃ b_ ok_, Kd.R k39 39 w b_ ok_ (.slice A2 l2.length c2) l2) (h : slices_Insert_api_Block_api_Block.f l0 a1 l2 = some r) :
    Calls Tryd.prog 43 #[u9000_, .int .i64 a1, .slice A2 l2.length c2] w fun e w' => ∃ v0_ : Value, e = .returned (v0_) ∧ Kd.R k39 39 w' w0.heap.size (fun k_ => (P0_ k_ ∨ w.heap.size ≤ k_)) v0_ r ∧ Below w0.heap.size w0 w' ∧ Kept w w' (fun k_ => P0_ k_) := by
  unfold slices_Insert_api_Block_api_Block.f at h
  split at h
  case isFalse => cases h
  case isTrue hh =>
    obtain ⟨h1, h2, h3, h4⟩ := hh
    obtain rfl := Option.some.inj h
    obtain ⟨i, rfl⟩ : ∃ i : Nat, a1 = i := ⟨a1.toNat, (Int.toNat_of_nonneg h1).symm⟩
    rw [Int.toNat_natCast]
    obtain ⟨b2, ok2, hp⟩ := hp2
    obtain ⟨vb, capv, curv, vs, he, _, _, hvg, hnv, _, hvsz, hvl, hvt, hvM⟩ := R_row k39_E hp (by omega)
    obtain ⟨b, o, inner2, hA, _, hnP, _, _⟩ := C_apart hr2 (by omega) (by decide)
    injection he with he1 he2 he3
    subst he3
    rw [hA] at he1
    injection he1 with he1
    injection he1 with he1 he4 he5
    subst he1 he4
    subst hA
    rw [k39_sz] at hvsz hvl hvt hvM
    rw [h3] at hvl hvt ⊢
    have hvM' : ∀ w' ok, Reps (k39.M w' w0.heap.size ok) k39.sz l2 vs := fun w' ok => (hvM w' ok).imp_ (fun _ _ hm => k39_KM (k39.K_of_M hm))
    have h1v : ∀ x ∈ vs, x.oneCell' = true := flat_one (hvM' w P0_) (by decide)
    have hvc : ∀ (j : Nat) (x : Value), vs[j]? = some x → w.cell? ⟨b, j, none⟩ = some x := fun j x hx => by
      rw [row_cell hvg]
      rw [← hvt, List.getElem?_take] at hx
      split at hx
      · exact hx
      · cases hx
    by_cases hin : i = l0.length
    · subst hin
      rw [List.take_length, List.drop_length, List.append_nil]
      exact ins_end P0_ u9000_ l0 l2 b c2 vs w0 w hB ho0 hvl h3 hvc h1v hvM' h4
    · obtain ⟨g, cap, cur, inner, rfl, hbg, hok, hg, hnc, hcm, hsz, hil, hti, hrep⟩ := R_row k39_E ho0 (by omega)
      rw [k39_sz] at hsz hil hti
      have hvb : b ≠ g := fun e => hnP (e ▸ hok)
      rcases Nat.lt_or_ge cap (l0.length + 1) with hroom | hroom
      · exact ins_grow P0_ l0 l2 b c2 g cap i cur curv inner vs w0 w hB hbg hok hg hcm hsz hil hti hrep (by omega) hnc hroom h4 hvb hvg h3 hvl hvc h1v hvM'
      · exact ins_room P0_ l0 l2 b c2 g cap i cur curv inner vs w0 w hB hbg hok hg hcm hsz hil hti hrep (by omega) hroom hvb hvg h3 hvl hvc h1v hvM'
end Go.Proofs.YtcphflfjhkeooaaDoor.Z
end

section
-- Printed by a program of this session (mp.py) out of the translation.
namespace Go.Proofs.YtcphflfjhkeooaaDoor.Z
open Go.RowKit Go.Proofs.YtcphflfjhkeooaaDoorW.PrintWords Go.Proofs.YtcphflfjhkeooaaDoorW.PrintLast Go.Proofs.YtcphflfjhkeooaaDoorW.PrintMore
attribute [local go_sem] max2_int min2_int max_two min_two max_three min_three max_four min_four   -- for this text's walks alone
set_option linter.unusedVariables false
set_option linter.unusedSimpArgs false

/-! ### cmp_isNaN_uint32: function 62 -/
def cmp_isNaN_uint32.f (a0 : Int) : Option (Bool) := some (a0 != a0)
set_option maxHeartbeats 8000000 in
set_option maxRecDepth 100000 in
theorem cmp_isNaN_uint32.calls (a0 : Int) (r : Bool) (w : World) (h : cmp_isNaN_uint32.f a0 = some r) :
    Calls Tryd.prog 62 #[.int .u32 a0] w fun e w' => e = .returned (.bool r) ∧ Drawn0 w w' := by
  have H : (some (a0 != a0)) = some r := h
  clear h
  obtain rfl := Option.some.inj H
  go_enter Tryd.func62, Tryd.ntmps62
  go_wp2
  go_ret
  exact ⟨by first | rfl | (simp; done) | (simp [*]; done), by repeat (first | exact Drawn0.refl _ | apply Drawn0.step)⟩

end Go.Proofs.YtcphflfjhkeooaaDoor.Z
end

section
-- Printed by a program of this session (mp.py) out of the translation.
namespace Go.Proofs.YtcphflfjhkeooaaDoor.Z
open Go.RowKit Go.Proofs.YtcphflfjhkeooaaDoorW.PrintWords Go.Proofs.YtcphflfjhkeooaaDoorW.PrintLast Go.Proofs.YtcphflfjhkeooaaDoorW.PrintMore
attribute [local go_sem] max2_int min2_int max_two min_two max_three min_three max_four min_four   -- for this text's walks alone
set_option linter.unusedVariables false
set_option linter.unusedSimpArgs false

/-! ### cmp_Compare_uint32: function 54 -/
def cmp_Compare_uint32.f (a0 : Int) (a1 : Int) : Option (Int) := (cmp_isNaN_uint32.f a0).bind fun t157 => ((cmp_isNaN_uint32.f a1).bind fun t158 => (if t157 = true then (if t158 = true then (some 0) else (some (-1))) else (if t158 = true then (some 1) else (if a0 < a1 then (some (-1)) else (if a0 > a1 then (some 1) else (some 0))))))
set_option maxHeartbeats 8000000 in
set_option maxRecDepth 100000 in
theorem cmp_Compare_uint32.calls (a0 : Int) (a1 : Int) (r : Int) (w : World) (h : cmp_Compare_uint32.f a0 a1 = some r) :
    Calls Tryd.prog 54 #[.int .u32 a0, .int .u32 a1] w fun e w' => e = .returned (.int .i64 r) ∧ Drawn0 w w' := by
  have H : ((cmp_isNaN_uint32.f a0).bind fun t157 => ((cmp_isNaN_uint32.f a1).bind fun t158 => (if t157 = true then (if t158 = true then (some 0) else (some (-1))) else (if t158 = true then (some 1) else (if a0 < a1 then (some (-1)) else (if a0 > a1 then (some 1) else (some 0))))))) = some r := h
  clear h
  replace H := Option.bind_eq_some_iff.mp H
  obtain ⟨t157, A30, H⟩ := H
  replace H : ((cmp_isNaN_uint32.f a1).bind fun t158 => (if t157 = true then (if t158 = true then (some 0) else (some (-1))) else (if t158 = true then (some 1) else (if a0 < a1 then (some (-1)) else (if a0 > a1 then (some 1) else (some 0)))))) = some r := H
  have A3 := Aside0.mk A30
  clear A30
  replace H := Option.bind_eq_some_iff.mp H
  obtain ⟨t158, A40, H⟩ := H
  replace H : (if t157 = true then (if t158 = true then (some 0) else (some (-1))) else (if t158 = true then (some 1) else (if a0 < a1 then (some (-1)) else (if a0 > a1 then (some 1) else (some 0))))) = some r := H
  have A4 := Aside0.mk A40
  clear A40
  by_cases c5 : t157 = true
  · subst c5
    have H1 : (if t158 = true then (some 0) else (some (-1))) = some r := by rw [if_pos rfl] at H; exact H
    clear H
    have H := H1
    clear H1
    by_cases c6 : t158 = true
    · subst c6
      have H1 : (some 0) = some r := by rw [if_pos rfl] at H; exact H
      clear H
      have H := H1
      clear H1
      obtain rfl := Option.some.inj H
      go_enter Tryd.func54, Tryd.ntmps54
      go_wp2_with (first | ((with_reducible refine gate_callee (f := 62) rfl ?_); refine gl_ (some 8) Tryd.func62 #[.int .u32 a0] ?_; (with_reducible refine (cmp_isNaN_uint32.calls a0 true _ A3.out).mono ?_); rintro e w' ⟨rfl, ⟨nd, rfl⟩⟩; refine ⟨_, rfl, ?_⟩) | ((with_reducible refine gate_callee (f := 62) rfl ?_); refine gl_ (some 10) Tryd.func62 #[.int .u32 a1] ?_; (with_reducible refine (cmp_isNaN_uint32.calls a1 true _ A4.out).mono ?_); rintro e w' ⟨rfl, ⟨nd, rfl⟩⟩; refine ⟨_, rfl, ?_⟩))
      go_ret
      exact ⟨by first | rfl | (simp; done) | (simp [*]; done), by repeat (first | exact Drawn0.refl _ | apply Drawn0.step)⟩
    · replace c6 := Bool.eq_false_iff.mpr c6
      subst c6
      have H1 : (some (-1)) = some r := by rw [if_neg (show ¬ (false = true) by decide)] at H; exact H
      clear H
      have H := H1
      clear H1
      obtain rfl := Option.some.inj H
      go_enter Tryd.func54, Tryd.ntmps54
      go_wp2_with (first | ((with_reducible refine gate_callee (f := 62) rfl ?_); refine gl_ (some 8) Tryd.func62 #[.int .u32 a0] ?_; (with_reducible refine (cmp_isNaN_uint32.calls a0 true _ A3.out).mono ?_); rintro e w' ⟨rfl, ⟨nd, rfl⟩⟩; refine ⟨_, rfl, ?_⟩) | ((with_reducible refine gate_callee (f := 62) rfl ?_); refine gl_ (some 10) Tryd.func62 #[.int .u32 a1] ?_; (with_reducible refine (cmp_isNaN_uint32.calls a1 false _ A4.out).mono ?_); rintro e w' ⟨rfl, ⟨nd, rfl⟩⟩; refine ⟨_, rfl, ?_⟩))
      go_ret
      exact ⟨by first | rfl | (simp; done) | (simp [*]; done), by repeat (first | exact Drawn0.refl _ | apply Drawn0.step)⟩
  · replace c5 := Bool.eq_false_iff.mpr c5
    subst c5
    have H1 : (if t158 = true then (some 1) else (if a0 < a1 then (some (-1)) else (if a0 > a1 then (some 1) else (some 0)))) = some r := by rw [if_neg (show ¬ (false = true) by decide)] at H; exact H
    clear H
    have H := H1
    clear H1
    by_cases c7 : t158 = true
    · subst c7
      have H1 : (some 1) = some r := by rw [if_pos rfl] at H; exact H
      clear H
      have H := H1
      clear H1
      obtain rfl := Option.some.inj H
      go_enter Tryd.func54, Tryd.ntmps54
      go_wp2_with (first | ((with_reducible refine gate_callee (f := 62) rfl ?_); refine gl_ (some 8) Tryd.func62 #[.int .u32 a0] ?_; (with_reducible refine (cmp_isNaN_uint32.calls a0 false _ A3.out).mono ?_); rintro e w' ⟨rfl, ⟨nd, rfl⟩⟩; refine ⟨_, rfl, ?_⟩) | ((with_reducible refine gate_callee (f := 62) rfl ?_); refine gl_ (some 10) Tryd.func62 #[.int .u32 a1] ?_; (with_reducible refine (cmp_isNaN_uint32.calls a1 true _ A4.out).mono ?_); rintro e w' ⟨rfl, ⟨nd, rfl⟩⟩; refine ⟨_, rfl, ?_⟩))
      go_ret
      exact ⟨by first | rfl | (simp; done) | (simp [*]; done), by repeat (first | exact Drawn0.refl _ | apply Drawn0.step)⟩
    · replace c7 := Bool.eq_false_iff.mpr c7
      subst c7
      have H1 : (if a0 < a1 then (some (-1)) else (if a0 > a1 then (some 1) else (some 0))) = some r := by rw [if_neg (show ¬ (false = true) by decide)] at H; exact H
      clear H
      have H := H1
      clear H1
      by_cases c8 : a0 < a1
      · rw [if_pos c8] at H
        have c8b0 : decide (a0 < a1) = true := decide_eq_true c8
        clear c8
        obtain rfl := Option.some.inj H
        go_enter Tryd.func54, Tryd.ntmps54
        go_wp2_with (first | ((with_reducible refine gate_callee (f := 62) rfl ?_); refine gl_ (some 8) Tryd.func62 #[.int .u32 a0] ?_; (with_reducible refine (cmp_isNaN_uint32.calls a0 false _ A3.out).mono ?_); rintro e w' ⟨rfl, ⟨nd, rfl⟩⟩; refine ⟨_, rfl, ?_⟩) | ((with_reducible refine gate_callee (f := 62) rfl ?_); refine gl_ (some 10) Tryd.func62 #[.int .u32 a1] ?_; (with_reducible refine (cmp_isNaN_uint32.calls a1 false _ A4.out).mono ?_); rintro e w' ⟨rfl, ⟨nd, rfl⟩⟩; refine ⟨_, rfl, ?_⟩))
        go_ret
        exact ⟨by first | rfl | (simp; done) | (simp [*]; done), by repeat (first | exact Drawn0.refl _ | apply Drawn0.step)⟩
      · rw [if_neg c8] at H
        have c8b0 : decide (a0 < a1) = false := decide_eq_false c8
        clear c8
        by_cases c9 : a0 > a1
        · rw [if_pos c9] at H
          have c9b0 : decide (a1 < a0) = true := decide_eq_true c9
          clear c9
          obtain rfl := Option.some.inj H
          go_enter Tryd.func54, Tryd.ntmps54
          go_wp2_with (first | ((with_reducible refine gate_callee (f := 62) rfl ?_); refine gl_ (some 8) Tryd.func62 #[.int .u32 a0] ?_; (with_reducible refine (cmp_isNaN_uint32.calls a0 false _ A3.out).mono ?_); rintro e w' ⟨rfl, ⟨nd, rfl⟩⟩; refine ⟨_, rfl, ?_⟩) | ((with_reducible refine gate_callee (f := 62) rfl ?_); refine gl_ (some 10) Tryd.func62 #[.int .u32 a1] ?_; (with_reducible refine (cmp_isNaN_uint32.calls a1 false _ A4.out).mono ?_); rintro e w' ⟨rfl, ⟨nd, rfl⟩⟩; refine ⟨_, rfl, ?_⟩))
          go_ret
          exact ⟨by first | rfl | (simp; done) | (simp [*]; done), by repeat (first | exact Drawn0.refl _ | apply Drawn0.step)⟩
        · rw [if_neg c9] at H
          have c9b0 : decide (a1 < a0) = false := decide_eq_false c9
          clear c9
          obtain rfl := Option.some.inj H
          go_enter Tryd.func54, Tryd.ntmps54
          go_wp2_with (first | ((with_reducible refine gate_callee (f := 62) rfl ?_); refine gl_ (some 8) Tryd.func62 #[.int .u32 a0] ?_; (with_reducible refine (cmp_isNaN_uint32.calls a0 false _ A3.out).mono ?_); rintro e w' ⟨rfl, ⟨nd, rfl⟩⟩; refine ⟨_, rfl, ?_⟩) | ((with_reducible refine gate_callee (f := 62) rfl ?_); refine gl_ (some 10) Tryd.func62 #[.int .u32 a1] ?_; (with_reducible refine (cmp_isNaN_uint32.calls a1 false _ A4.out).mono ?_); rintro e w' ⟨rfl, ⟨nd, rfl⟩⟩; refine ⟨_, rfl, ?_⟩))
          go_ret
          exact ⟨by first | rfl | (simp; done) | (simp [*]; done), by repeat (first | exact Drawn0.refl _ | apply Drawn0.step)⟩

end Go.Proofs.YtcphflfjhkeooaaDoor.Z
end

section
-- Printed by a program of this session (mp.py) out of the translation.
namespace Go.Proofs.YtcphflfjhkeooaaDoor.Z
open Go.RowKit Go.Proofs.YtcphflfjhkeooaaDoorW.PrintWords Go.Proofs.YtcphflfjhkeooaaDoorW.PrintLast Go.Proofs.YtcphflfjhkeooaaDoorW.PrintMore
attribute [local go_sem] max2_int min2_int max_two min_two max_three min_three max_four min_four   -- for this text's walks alone
set_option linter.unusedVariables false
set_option linter.unusedSimpArgs false

/-! ### dev_drive_place_1: function 53 -/
def dev_drive_place_1.f (a0_0 : Int) (a0_1 : ByteArray) (a1 : Int) : Option (Int) := (cmp_Compare_uint32.f a0_0 a1).bind fun t160 => (some t160)
set_option maxHeartbeats 8000000 in
set_option maxRecDepth 100000 in
theorem dev_drive_place_1.calls (a0_0 : Int) (a0_1 : ByteArray) (a1 : Int) (r : Int) (w : World) (h : dev_drive_place_1.f a0_0 a0_1 a1 = some r) :
    Calls Tryd.prog 53 #[.agg #[.int .u32 a0_0, .string a0_1], .int .u32 a1] w fun e w' => e = .returned (.int .i64 r) ∧ Below w.heap.size w w' := by
  have hu39 := Tryd.underlying39
  have HB := Aside0.mk (Below.refl w.heap.size w)
  have H : ((cmp_Compare_uint32.f a0_0 a1).bind fun t160 => (some t160)) = some r := h
  clear h
  replace H := Option.bind_eq_some_iff.mp H
  obtain ⟨t160, A30, H⟩ := H
  replace H : (some t160) = some r := H
  have A3 := Aside0.mk A30
  clear A30
  obtain rfl := Option.some.inj H
  go_enter Tryd.func53, Tryd.ntmps53
  go_wp2_with (first | ((with_reducible refine gate_dst (N := 2) rfl ?_); refine bx_ (N := 2) (cs := #[.int .u32 a0_0, .string a0_1]) (t := 39) ?_; intro gb159 hg w4 hbox hb; have BK159 := Aside0.mk (hbox); have GW159 := ge_ hg; have GE159 := ge_ hg; replace HB := hb_ hb; clear hb hbox hg; obtain ⟨hcz5_0, hcz5_1⟩ := cl2_ BK159; obtain ⟨hfz5_0, hfz5_1⟩ := fz2_ BK159) | ((with_reducible refine gate_callee (f := 54) rfl ?_); refine gl_ (some 8) Tryd.func54 #[.int .u32 a0_0, .int .u32 a1] ?_; (with_reducible refine (cmp_Compare_uint32.calls a0_0 a1 t160 _ A3.out).mono ?_); rintro e w' ⟨rfl, ⟨nd, rfl⟩⟩; refine ⟨_, rfl, ?_⟩))
  go_ret
  exact ⟨by first | rfl | (simp [errW_none, errW_some] <;> rfl) | (simp [*, errW_none, errW_some] <;> rfl), bel_⟩

end Go.Proofs.YtcphflfjhkeooaaDoor.Z
end

section
-- Printed by a program of this session (mp.py) out of the translation.
namespace Go.Proofs.YtcphflfjhkeooaaDoor.Z
open Go.RowKit Go.Proofs.YtcphflfjhkeooaaDoorW.PrintWords Go.Proofs.YtcphflfjhkeooaaDoorW.PrintLast Go.Proofs.YtcphflfjhkeooaaDoorW.PrintMore
attribute [local go_sem] max2_int min2_int max_two min_two max_three min_three max_four min_four   -- for this text's walks alone
set_option linter.unusedVariables false
set_option linter.unusedSimpArgs false

/-! ### slices_BinarySearchFunc_api_Block_api_Block_uint32_fn53: function 52 -/
def slices_BinarySearchFunc_api_Block_api_Block_uint32_fn53.l0 : Nat → List (S39) → Int → Int → Int → Int → Option (Int × Bool)
  | 0, _, _, _, _, _ => none
  | k + 1, x0, x1, x8, x9, x10 => if x9 < x10 then (if 0 ≤ (wrap64 ((IntKind.u64.wrap (wrap64 (x9 + x10))) / 2)) then (if (wrap64 ((IntKind.u64.wrap (wrap64 (x9 + x10))) / 2)) < (x0.length : Int) then ((dev_drive_place_1.f ((rd_T39 x0 (wrap64 ((IntKind.u64.wrap (wrap64 (x9 + x10))) / 2))).f0) ((rd_T39 x0 (wrap64 ((IntKind.u64.wrap (wrap64 (x9 + x10))) / 2))).f1) x1).bind fun t162 => (if t162 < 0 then (slices_BinarySearchFunc_api_Block_api_Block_uint32_fn53.l0 k x0 x1 x8 (wrap64 ((wrap64 ((IntKind.u64.wrap (wrap64 (x9 + x10))) / 2)) + 1)) x10) else (slices_BinarySearchFunc_api_Block_api_Block_uint32_fn53.l0 k x0 x1 x8 x9 (wrap64 ((IntKind.u64.wrap (wrap64 (x9 + x10))) / 2))))) else (none)) else (none)) else (if x9 < x8 then (if 0 ≤ x9 then (if x9 < (x0.length : Int) then ((dev_drive_place_1.f ((rd_T39 x0 x9).f0) ((rd_T39 x0 x9).f1) x1).bind fun t164 => (some (x9, (t164 == 0)))) else (none)) else (none)) else (some (x9, false)))
def slices_BinarySearchFunc_api_Block_api_Block_uint32_fn53.f (k : Nat) (l0 : List (S39)) (a1 : Int)  : Option (Int × Bool) := slices_BinarySearchFunc_api_Block_api_Block_uint32_fn53.l0 k l0 a1 (l0.length : Int) 0 (l0.length : Int)
theorem slices_BinarySearchFunc_api_Block_api_Block_uint32_fn53.mono_l : ∀ k, (∀ y0 y1 y2 y3 y4, LeO (slices_BinarySearchFunc_api_Block_api_Block_uint32_fn53.l0 k y0 y1 y2 y3 y4) (slices_BinarySearchFunc_api_Block_api_Block_uint32_fn53.l0 (k + 1) y0 y1 y2 y3 y4))
  | 0 => fun _ _ _ _ _ r h => by simp [slices_BinarySearchFunc_api_Block_api_Block_uint32_fn53.l0] at h
  | k + 1 => by
    have ih0 := slices_BinarySearchFunc_api_Block_api_Block_uint32_fn53.mono_l k
    · intro y0 y1 y2 y3 y4
      unfold slices_BinarySearchFunc_api_Block_api_Block_uint32_fn53.l0
      repeat' first
      | (with_reducible exact ih0 _ _ _ _ _)
      | (with_reducible exact LeO.refl _)
      | (with_reducible exact LeO.none _)
      | (with_reducible refine LeO.ite ?_ ?_)
      | (with_reducible refine LeO.bind ?_ (fun _ => ?_))
      | exact ih0 _ _ _ _ _
      | exact LeO.none _
      | refine LeO.ite ?_ ?_
      | refine LeO.bind ?_ (fun _ => ?_)
theorem slices_BinarySearchFunc_api_Block_api_Block_uint32_fn53.mono : ∀ a0 a1 k, LeO (slices_BinarySearchFunc_api_Block_api_Block_uint32_fn53.f k a0 a1) (slices_BinarySearchFunc_api_Block_api_Block_uint32_fn53.f (k + 1) a0 a1) := by
  intro a0 a1 k
  have ih0 := slices_BinarySearchFunc_api_Block_api_Block_uint32_fn53.mono_l k
  unfold slices_BinarySearchFunc_api_Block_api_Block_uint32_fn53.f
  repeat' first
      | (with_reducible exact ih0 _ _ _ _ _)
      | (with_reducible exact LeO.refl _)
      | (with_reducible exact LeO.none _)
      | (with_reducible refine LeO.ite ?_ ?_)
      | (with_reducible refine LeO.bind ?_ (fun _ => ?_))
      | exact ih0 _ _ _ _ _
      | exact LeO.none _
      | refine LeO.ite ?_ ?_
      | refine LeO.bind ?_ (fun _ => ?_)
set_option maxHeartbeats 8000000 in
set_option maxRecDepth 100000 in
theorem slices_BinarySearchFunc_api_Block_api_Block_uint32_fn53.calls (k : Nat) (A0 : Option Addr) (c0 : Nat) (l0 : List (S39)) (a1 : Int)  (r1 : Int) (r2 : Bool) (w : World) (hr0 : Kd.C k39 w A0 l0.length l0) (hc0 : l0.length ≤ c0) (h : slices_BinarySearchFunc_api_Block_api_Block_uint32_fn53.f k l0 a1 = some (r1, r2)) :
    Calls Tryd.prog 52 #[.slice A0 l0.length c0, .int .u32 a1, .func (.func 53) #[] #[]] w fun e w' => e = .returned (.tuple #[.int .i64 r1, .bool r2]) ∧ Below w.heap.size w w' := by
  have hu39 := Tryd.underlying39
  have HR0 := Aside0.mk hr0
  have HC0 := Aside0.mk hc0
  clear hr0 hc0
  have HB := Aside0.mk (Below.refl w.heap.size w)
  have H : (slices_BinarySearchFunc_api_Block_api_Block_uint32_fn53.l0 k l0 a1 (l0.length : Int) 0 (l0.length : Int)) = some (r1, r2) := h
  clear h
  have H' := Aside0.mk H
  clear H
  go_enter Tryd.func52, Tryd.ntmps52
  go_wp2
  go_loopg [9, 10] k (fun kq v9 v10 w' => ∃ (x9_1 : Int) (x10_1 : Int), v9 = .int .i64 x9_1 ∧ v10 = .int .i64 x10_1 ∧ Aside0 (slices_BinarySearchFunc_api_Block_api_Block_uint32_fn53.l0 kq l0 a1 (l0.length : Int) x9_1 x10_1 = some (r1, r2)) ∧ Aside0 (kq ≤ k) ∧ Aside0 (Below w.heap.size w w'))
  case atStart => exact ⟨(0), ((l0.length : Int)), (by first | rfl | (simp; done) | (simp [*]; done)), (by first | rfl | (simp; done) | (simp [*]; done)), H', ⟨Nat.le_refl _⟩, ⟨bel_⟩⟩
  case round =>
    clear H'
    try clear p2
    obtain ⟨x9_1, x10_1, rfl, rfl, HA, HK1, HB⟩ := hrel
    cases gk with
    | zero => exact absurd HA.out (by simp [slices_BinarySearchFunc_api_Block_api_Block_uint32_fn53.l0])
    | succ k1 =>
      have H := HA.out
      clear HA
      simp only [slices_BinarySearchFunc_api_Block_api_Block_uint32_fn53.l0] at H
      by_cases c4 : x9_1 < x10_1
      · rw [if_pos c4] at H
        have c4b0 : decide (x9_1 < x10_1) = true := decide_eq_true c4
        clear c4
        obtain ⟨ji5, hji5⟩ : ∃ j_ : Int, (wrap64 ((IntKind.u64.wrap (wrap64 (x9_1 + x10_1))) / 2)) = j_ := ⟨_, rfl⟩
        replace H : (if 0 ≤ (ji5) then (if (ji5) < (l0.length : Int) then ((dev_drive_place_1.f ((rd_T39 l0 (ji5)).f0) ((rd_T39 l0 (ji5)).f1) a1).bind fun t162 => (if t162 < 0 then (slices_BinarySearchFunc_api_Block_api_Block_uint32_fn53.l0 k1 l0 a1 (l0.length : Int) (wrap64 ((ji5) + 1)) x10_1) else (slices_BinarySearchFunc_api_Block_api_Block_uint32_fn53.l0 k1 l0 a1 (l0.length : Int) x9_1 ji5))) else (none)) else (none)) = some (r1, r2) := by first | (rw [hji5] at H; exact H) | (simp only [hji5] at H ⊢; exact H)
        have hji5w : (IntKind.i64.wrap ((IntKind.u64.wrap (wrap64 (x9_1 + x10_1))) / 2)) = ji5 := (i64_w _).trans hji5
        by_cases c6 : 0 ≤ (ji5)
        · rw [if_pos c6] at H
          have c6b0 : decide (0 ≤ (ji5)) = true := decide_eq_true c6
          clear c6
          by_cases c7 : (ji5) < (l0.length : Int)
          · rw [if_pos c7] at H
            have c7b0 : decide ((ji5) < (l0.length : Int)) = true := decide_eq_true c7
            clear c7
            replace H := Option.bind_eq_some_iff.mp H
            obtain ⟨t162, A80, H⟩ := H
            replace H : (if t162 < 0 then (slices_BinarySearchFunc_api_Block_api_Block_uint32_fn53.l0 k1 l0 a1 (l0.length : Int) (wrap64 ((ji5) + 1)) x10_1) else (slices_BinarySearchFunc_api_Block_api_Block_uint32_fn53.l0 k1 l0 a1 (l0.length : Int) x9_1 ji5)) = some (r1, r2) := H
            have A8 := Aside0.mk A80
            clear A80
            by_cases c9 : t162 < 0
            · rw [if_pos c9] at H
              have c9b0 : decide (t162 < 0) = true := decide_eq_true c9
              clear c9
              have H' := Aside0.mk H
              clear H
              have p161 : 0 ≤ ((ji5) : Int) := of_decide_eq_true (by first | (with_reducible assumption) | assumption)
              have q161 : (ji5) < (l0.length : Int) := of_decide_eq_true (by first | (with_reducible assumption) | assumption)
              obtain ⟨ad161, e161, hx161_0, hx161_1⟩ := at_T39 HR0.out (ji5) p161 q161
              cases e161
              replace hx161_0 := (HB.out.cell (World.block_lt_of_cell? w _ hx161_0)).trans hx161_0
              replace hx161_1 := (HB.out.cell (World.block_lt_of_cell? w _ hx161_1)).trans hx161_1
              replace p161 := eq_true p161
              replace q161 := eq_true q161
              go_wp2_with (first | ((with_reducible refine gate_dyn rfl ?_); refine goesD_ (some 30) rfl rfl Tryd.func53 (by kernel_rfl) rfl #[.agg #[.int .u32 ((rd_T39 l0 (ji5)).f0), .string ((rd_T39 l0 (ji5)).f1)], .int .u32 a1] rfl rfl (by (try simp only [List.map_toArray, List.map_cons, List.map_nil]); first | done | (simp only [hji5]; rfl) | rfl | (simp only [List.length_drop, List.length_take]; rfl)) ?_; (with_reducible refine (dev_drive_place_1.calls ((rd_T39 l0 (ji5)).f0) ((rd_T39 l0 (ji5)).f1) a1 t162 _ A8.out).mono ?_); rintro e w10 ⟨rfl, hb⟩; refine ⟨_, rfl, ?_⟩; replace HB := hb_ hb; (try clear hb); (try clear hb2); (try clear hk); (try clear hi)))
              go_roundg k1
              case measure => have := HK1.out; omega
              case rel => exact ⟨(wrap64 ((ji5) + 1)), (x10_1), (by first | rfl | (simp; done) | (simp only [← hji5] <;> (first | rfl | simp)) | (simp [*]; done)), (by first | rfl | (simp; done) | (simp [*]; done)), H', ⟨by have := HK1.out; omega⟩, ⟨bel_⟩⟩
            · rw [if_neg c9] at H
              have c9b0 : decide (t162 < 0) = false := decide_eq_false c9
              clear c9
              have H' := Aside0.mk H
              clear H
              have p161 : 0 ≤ ((ji5) : Int) := of_decide_eq_true (by first | (with_reducible assumption) | assumption)
              have q161 : (ji5) < (l0.length : Int) := of_decide_eq_true (by first | (with_reducible assumption) | assumption)
              obtain ⟨ad161, e161, hx161_0, hx161_1⟩ := at_T39 HR0.out (ji5) p161 q161
              cases e161
              replace hx161_0 := (HB.out.cell (World.block_lt_of_cell? w _ hx161_0)).trans hx161_0
              replace hx161_1 := (HB.out.cell (World.block_lt_of_cell? w _ hx161_1)).trans hx161_1
              replace p161 := eq_true p161
              replace q161 := eq_true q161
              go_wp2_with (first | ((with_reducible refine gate_dyn rfl ?_); refine goesD_ (some 30) rfl rfl Tryd.func53 (by kernel_rfl) rfl #[.agg #[.int .u32 ((rd_T39 l0 (ji5)).f0), .string ((rd_T39 l0 (ji5)).f1)], .int .u32 a1] rfl rfl (by (try simp only [List.map_toArray, List.map_cons, List.map_nil]); first | done | (simp only [hji5]; rfl) | rfl | (simp only [List.length_drop, List.length_take]; rfl)) ?_; (with_reducible refine (dev_drive_place_1.calls ((rd_T39 l0 (ji5)).f0) ((rd_T39 l0 (ji5)).f1) a1 t162 _ A8.out).mono ?_); rintro e w11 ⟨rfl, hb⟩; refine ⟨_, rfl, ?_⟩; replace HB := hb_ hb; (try clear hb); (try clear hb2); (try clear hk); (try clear hi)))
              go_roundg k1
              case measure => have := HK1.out; omega
              case rel => exact ⟨(x9_1), (ji5), (by first | rfl | (simp; done) | (simp [*]; done)), (by first | rfl | (simp; done) | (simp only [← hji5] <;> (first | rfl | simp)) | (simp [*]; done)), H', ⟨by have := HK1.out; omega⟩, ⟨bel_⟩⟩
          · rw [if_neg c7] at H
            exact absurd H (by simp)
        · rw [if_neg c6] at H
          exact absurd H (by simp)
      · rw [if_neg c4] at H
        have c4b0 : decide (x9_1 < x10_1) = false := decide_eq_false c4
        clear c4
        by_cases c12 : x9_1 < (l0.length : Int)
        · rw [if_pos c12] at H
          have c12b0 : decide (x9_1 < (l0.length : Int)) = true := decide_eq_true c12
          clear c12
          by_cases c13 : 0 ≤ x9_1
          · rw [if_pos c13] at H
            have c13b0 : decide (0 ≤ x9_1) = true := decide_eq_true c13
            clear c13
            by_cases c14 : x9_1 < (l0.length : Int)
            · rw [if_pos c14] at H
              have c14b0 : decide (x9_1 < (l0.length : Int)) = true := decide_eq_true c14
              clear c14
              replace H := Option.bind_eq_some_iff.mp H
              obtain ⟨t164, A150, H⟩ := H
              replace H : (some (x9_1, (t164 == 0))) = some (r1, r2) := H
              have A15 := Aside0.mk A150
              clear A150
              simp only [Option.some.injEq, Prod.mk.injEq] at H
              obtain ⟨rfl, rfl⟩ := H
              have p163 : 0 ≤ (x9_1 : Int) := of_decide_eq_true (by first | (with_reducible assumption) | assumption)
              have q163 : x9_1 < (l0.length : Int) := of_decide_eq_true (by first | (with_reducible assumption) | assumption)
              obtain ⟨ad163, e163, hx163_0, hx163_1⟩ := at_T39 HR0.out x9_1 p163 q163
              cases e163
              replace hx163_0 := (HB.out.cell (World.block_lt_of_cell? w _ hx163_0)).trans hx163_0
              replace hx163_1 := (HB.out.cell (World.block_lt_of_cell? w _ hx163_1)).trans hx163_1
              replace p163 := eq_true p163
              replace q163 := eq_true q163
              go_wp2_with (first | (go_at_call 53; (with_reducible refine (dev_drive_place_1.calls ((rd_T39 l0 x9_1).f0) ((rd_T39 l0 x9_1).f1) a1 t164 _ A15.out).mono ?_); rintro e w16 ⟨rfl, hb⟩; replace HB := hb_ hb; (try clear hb); (try clear hb2); (try clear hk); (try clear hi)))
              go_ret2
              exact ⟨by first | rfl | (simp [errW_none, errW_some] <;> rfl) | (simp [*, errW_none, errW_some] <;> rfl), bel_⟩
            · rw [if_neg c14] at H
              exact absurd H (by simp)
          · rw [if_neg c13] at H
            exact absurd H (by simp)
        · rw [if_neg c12] at H
          have c12b0 : decide (x9_1 < (l0.length : Int)) = false := decide_eq_false c12
          clear c12
          simp only [Option.some.injEq, Prod.mk.injEq] at H
          obtain ⟨rfl, rfl⟩ := H
          go_wp2
          go_ret2
          exact ⟨by first | rfl | (simp [errW_none, errW_some] <;> rfl) | (simp [*, errW_none, errW_some] <;> rfl), bel_⟩

end Go.Proofs.YtcphflfjhkeooaaDoor.Z
end

section
/- A device at work, behind a pointer: where a block is, the fuse, a block put on the medium. -/
namespace Go.Proofs.YtcphflfjhkeooaaDoor.Z
open Go.RowKit Go.Proofs.YtcphflfjhkeooaaDoorW.PrintWords Go.Proofs.YtcphflfjhkeooaaDoorW.PrintLast Go.Proofs.YtcphflfjhkeooaaDoorW.PrintMore
set_option linter.unusedVariables false
set_option linter.unusedSimpArgs false
attribute [local go_sem ↓] Go.wp_at_zero Go.wp_at_succ
abbrev Blk := S39
def drv (s : Int) (vB vW : Value) (d : Bool) (f n : Int) : Obj := .cells #[.int .u32 s, vB, vW, .bool d, .int .i64 f, .int .u64 n] 60 (0, 0)
abbrev Own (w : World) (base : Nat) (ok : Nat → Prop) (v : Value) (l : List Blk) : Prop := Kd.R k39 39 w base ok v l
set_option maxRecDepth 100000 in
theorem place_calls (k : Nat) (g : Nat) (s : Int) (vB vW : Value) (d : Bool) (f n : Int) (bl : List Blk) (base : Nat) (ok : Nat → Prop) (num r1 : Int) (r2 : Bool) (w : World) (hb : w.heap[g]? = some (drv s vB vW d f n)) (hR : Own w base ok vB bl)
    (h : slices_BinarySearchFunc_api_Block_api_Block_uint32_fn53.f k bl num = some (r1, r2)) :
    Calls Tryd.prog 41 #[.pointer (some ⟨g, 0, none⟩), .int .u32 num] w fun e w' => e = .returned (.tuple #[.int .i64 r1, .bool r2]) ∧ Below w.heap.size w w' := by
  obtain ⟨A, c, rfl⟩ := Kd.R_slice hR
  obtain ⟨_, hc, hC⟩ := Kd.R_reads' hR
  have q1 : w.cell? ⟨g, 1, none⟩ = some (.slice A bl.length c) := (blk_cell hb 1).trans rfl
  have HC := Aside0.mk hC
  have H := Aside0.mk h
  have HL := Aside0.mk hc
  clear hC h hc hR hb
  go_enter Tryd.func41, Tryd.ntmps41
  go_wp2_with (go_at_call 52; refine (slices_BinarySearchFunc_api_Block_api_Block_uint32_fn53.calls k A c bl num r1 r2 _ HC.out HL.out H.out).mono ?_; rintro e w1 ⟨rfl, h1⟩; have HB1 := Aside0.mk h1; clear h1)
  go_ret2
  exact ⟨rfl, HB1.out⟩
def downOf (d : Bool) (f : Int) : Bool := d || (f == 0)
def fuseOf (f : Int) : Int := if 0 < f then wrap64 (f - 1) else f
set_option maxRecDepth 100000 in
set_option maxHeartbeats 1600000 in
theorem burn_calls (g : Nat) (s : Int) (vB vW : Value) (d : Bool) (f n : Int) (w : World) (hb : w.heap[g]? = some (drv s vB vW d f n)) :
    Calls Tryd.prog 30 #[.pointer (some ⟨g, 0, none⟩)] w fun e w' => e = .returned (.bool (!downOf d f)) ∧ Step g w w' (drv s vB vW (downOf d f) (fuseOf f) n) := by
  have q3 : w.cell? ⟨g, 3, none⟩ = some (.bool d) := (blk_cell hb 3).trans rfl
  have q4 : w.cell? ⟨g, 4, none⟩ = some (.int .i64 f) := (blk_cell hb 4).trans rfl
  have f3 : w.frozen? ⟨g, 3, none⟩ = false := blk_frozen hb 3
  have f4 : w.frozen? ⟨g, 4, none⟩ = false := blk_frozen hb 4
  have hnot : ∀ (x : Bool) (w : World), (Op.unary .not (.bool x)).run Tryd.prog w = .ok (.bool (!x)) w := fun _ _ => rfl
  by_cases h0 : f = 0
  · subst h0
    have HS : Aside0 (Step g w (w.setCell ⟨g, 3, none⟩ (.bool true)) (drv s vB vW true 0 n)) := ⟨(Step.refl hb).set 3 _ rfl⟩
    have e1 : downOf d 0 = true := by unfold downOf; simp
    have e2 : fuseOf 0 = 0 := rfl
    rw [e1, e2]
    clear hb
    go_enter Tryd.func30, Tryd.ntmps30
    go_wp2
    go_ret
    exact ⟨rfl, HS.out⟩
  · have e1 : downOf d f = d := by unfold downOf; simp [h0]
    have h0b : (f == 0) = false := by simpa using h0
    rw [e1]
    by_cases h1 : 0 < f
    · have e2 : fuseOf f = wrap64 (f - 1) := if_pos h1
      have h1b : decide (0 < f) = true := decide_eq_true h1
      have HS : Aside0 (Step g w (w.setCell ⟨g, 4, none⟩ (.int .i64 (wrap64 (f - 1)))) (drv s vB vW d (wrap64 (f - 1)) n)) := ⟨(Step.refl hb).set 4 _ rfl⟩
      rw [e2]
      clear hb e1 e2 h0
      go_enter Tryd.func30, Tryd.ntmps30
      go_wp2
      go_ret
      exact ⟨rfl, HS.out⟩
    · have e2 : fuseOf f = f := if_neg h1
      have h1b : decide (0 < f) = false := decide_eq_false h1
      have HS : Aside0 (Step g w w (drv s vB vW d f n)) := ⟨Step.refl hb⟩
      rw [e2]
      clear hb e1 e2 h0
      go_enter Tryd.func30, Tryd.ntmps30
      go_wp2
      go_ret
      exact ⟨rfl, HS.out⟩
def putF (k : Nat) (bl : List Blk) (x : Blk) : Option (List Blk) :=
  (slices_BinarySearchFunc_api_Block_api_Block_uint32_fn53.f k bl x.f0).bind fun p =>
    if p.2 = true then (if x.f1.toList = [] then slices_Delete_api_Block_api_Block.f bl p.1 (p.1 + 1) else if 0 ≤ p.1 ∧ p.1 < (bl.length : Int) then some (bl.set p.1.toNat x) else none)
    else if x.f1.toList = [] then some bl else slices_Insert_api_Block_api_Block.f bl p.1 [x]
theorem putF_mono : ∀ a0 a1 k, LeO (putF k a0 a1) (putF (k + 1) a0 a1) := by
  intro a0 a1 k
  unfold putF
  exact LeO.bind (slices_BinarySearchFunc_api_Block_api_Block_uint32_fn53.mono _ _ _) (fun _ => LeO.refl _)
/-- A row that lies elsewhere than a block of another type. -/
theorem own_ne {w : World} {base : Nat} {ok : Nat → Prop} {v : Value} {l : List Blk} {g : Nat} {cs : Array Value} {t : Nat} (h : Own w base ok v l) (hb : w.heap[g]? = some (.cells cs t (0, 0))) (ht : 39 ≠ t) : some g ≠ v.ownBlock := by
  intro e
  have := Kd.R_types h hb (by intro q hq; simp [k39_E] at hq; subst hq; exact ht)
  exact (this.1 g e.symm).2 rfl
theorem put_end {s : Int} {vB vW v : Value} {d : Bool} {f n : Int} {g : Nat} {w0 w w3 : World} {ok ok' : Nat → Prop} {l : List Blk} (hb : w3.heap[g]? = some (drv s vB vW d f n)) (hR : Own w3 w0.heap.size ok v l) (hB : Below w0.heap.size w0 w3)
    (hK : Kept w w3 (fun k => k = g ∨ some k = vB.ownBlock)) (hg : w0.heap.size ≤ g) (ho : ∀ k, ok k → ok' k) :
    ∃ v_, (w3.setCell ⟨g, 1, none⟩ v).heap[g]? = some (drv s v_ vW d f n) ∧ Own (w3.setCell ⟨g, 1, none⟩ v) w0.heap.size ok' v_ l ∧ Below w0.heap.size w0 (w3.setCell ⟨g, 1, none⟩ v) ∧ Kept w (w3.setCell ⟨g, 1, none⟩ v) (fun k => k = g ∨ some k = vB.ownBlock) :=
  ⟨v, blk_set hb 1 v, Kd.R_mono (Kd.R_far (p := ⟨g, 1, none⟩) (Kd.R_types hR hb (by decide)) (fun _ hk => hk.2) v) (fun k hk => ho k hk.1), hB.setCell (p := ⟨g, 1, none⟩) hg v, hK.setCell (p := ⟨g, 1, none⟩) (.inl (.inl rfl)) v⟩
/-- One element of a row is another one now. -/
theorem reps_set {w : World} {base : Nat} {ok : Nat → Prop} {xs : List Blk} {cs : List Value} {j : Nat} {x : Blk} (h : Reps (k39.M w base ok) k39.sz xs cs) (hj : j < xs.length) :
    Reps (k39.M w base ok) k39.sz (xs.set j x) ((cs.set (j * 2) (.int .u32 x.f0)).set (j * 2 + 1) (.string x.f1)) := by
  obtain ⟨h1, h2⟩ := h
  rw [k39_sz] at h1 h2 ⊢
  refine ⟨by simpa using h1, fun i y hy => ?_⟩
  by_cases hi : i = j
  · subst hi
    rw [List.getElem?_set_self hj] at hy
    obtain rfl := Option.some.inj hy
    have hq : (((cs.set (i * 2) (.int .u32 x.f0)).set (i * 2 + 1) (.string x.f1)).drop (i * 2)).take 2 = [.int .u32 x.f0, .string x.f1] := by
      apply List.ext_getElem?
      intro m
      rw [List.getElem?_take]
      match m with
      | 0 => rw [if_pos (by omega), List.getElem?_drop, List.getElem?_set_ne (by omega), Nat.add_zero, List.getElem?_set_self (by omega)]; rfl
      | 1 => rw [if_pos (by omega), List.getElem?_drop, List.getElem?_set_self (by rw [List.length_set]; omega)]; rfl
      | m + 2 => rw [if_neg (by omega)]; rfl
    rw [hq]
    exact k39_mkM _ _ _ x
  · rw [List.getElem?_set_ne (fun e => hi e.symm)] at hy
    have hq : (((cs.set (j * 2) (.int .u32 x.f0)).set (j * 2 + 1) (.string x.f1)).drop (i * 2)).take 2 = (cs.drop (i * 2)).take 2 := by
      apply List.ext_getElem?
      intro m
      rw [List.getElem?_take, List.getElem?_take]
      split
      · rw [List.getElem?_drop, List.getElem?_drop, List.getElem?_set_ne (by omega), List.getElem?_set_ne (by omega)]
      · rfl
    rw [hq]
    exact h2 i y hy
set_option maxRecDepth 100000 in
set_option maxHeartbeats 3200000 in
theorem put_calls (k : Nat) (g : Nat) (s : Int) (vB vW : Value) (d : Bool) (f n : Int) (bl : List Blk) (x : Blk) (r : List Blk) (w0 w : World) (hB : Below w0.heap.size w0 w) (hb : w.heap[g]? = some (drv s vB vW d f n)) (hg : w0.heap.size ≤ g) (hR : Own w w0.heap.size (fun _ => True) vB bl) (h : putF k bl x = some r) :
    Calls Tryd.prog 31 #[.pointer (some ⟨g, 0, none⟩), .agg #[.int .u32 x.f0, .string x.f1]] w fun e w' => e = .returned (.tuple #[]) ∧ ∃ v, w'.heap[g]? = some (drv s v vW d f n) ∧ Own w' w0.heap.size (fun k => some k = vB.ownBlock ∨ w.heap.size ≤ k) v r ∧ Below w0.heap.size w0 w' ∧ Kept w w' (fun k => k = g ∨ some k = vB.ownBlock) := by
  have hne := Aside0.mk (own_ne hR hb (by decide))
  have HD := Aside0.mk hb
  have HR := Aside0.mk hR
  have HB := Aside0.mk hB
  have HG := Aside0.mk hg
  have hlen : (bl.length : Int) ≤ 9223372036854775807 := by
    obtain ⟨A, c, rfl⟩ := Kd.R_slice hR
    obtain ⟨_, _, _, _, hC⟩ := Kd.R_reads hR
    have := Kd.C_max hC
    omega
  unfold putF at h
  replace h := Option.bind_eq_some_iff.mp h
  obtain ⟨⟨i, is⟩, hs, h⟩ := h
  have HS := Aside0.mk hs
  clear hs hb hR hB hg
  have h0 := h
  clear h
  have h : (if is = true then (if x.f1.toList = [] then slices_Delete_api_Block_api_Block.f bl i (i + 1) else if 0 ≤ i ∧ i < (bl.length : Int) then some (bl.set i.toNat x) else none)
    else if x.f1.toList = [] then some bl else slices_Insert_api_Block_api_Block.f bl i [x]) = some r := h0
  clear h0
  cases is with
  | true =>
    rw [if_pos rfl] at h
    by_cases hx : x.f1.toList = []
    · rw [if_pos hx] at h
      have hxb : (x.f1.toList == ([] : List UInt8)) = true := beq_iff_eq.mpr hx
      have hir : 0 ≤ i ∧ i < (bl.length : Int) := by
        unfold slices_Delete_api_Block_api_Block.f at h
        split at h
        · rename_i hh; exact ⟨hh.1, hh.2.1⟩
        · cases h
      have hw : IntKind.i64.wrap (i + 1) = i + 1 := by rw [IntKind.wrap_i64]; omega
      have H := Aside0.mk h
      clear h hx hlen hir
      go_enter Tryd.func31, Tryd.ntmps31
      go_wp2_with (first
        | ((with_reducible refine gate_dst (N := 3) rfl ?_); refine bx_ (N := 3) (cs := #[.int .u32 x.f0, .string x.f1]) (t := 39) ?_; intro gx hgx w1 hx hbx; have B1 := Aside0.mk (blk_below HD.out hbx); have R1 := Aside0.mk (Kd.R_below HR.out hbx); have X1 := Aside0.mk hx; have K1 := Aside0.mk (below_step HB.out hbx); have N1 := Aside0.mk (show w.heap.size ≤ gx by omega); have V1 := Aside0.mk (Kept.of_below hbx (fun k => k = g ∨ some k = vB.ownBlock)); have D1 := Aside0.mk hbx; have z0 : w1.cell? ⟨gx, 0, none⟩ = some (.int .u32 x.f0) := (blk_cell hx 0).trans rfl; clear hx hbx hgx)
        | (go_at_call 41; refine (place_calls k g s vB vW d f n bl _ _ x.f0 _ _ _ B1.out R1.out HS.out).mono ?_; rintro e w2 ⟨rfl, h2⟩; have B2 := Aside0.mk (blk_below B1.out h2); have R2 := Aside0.mk (Kd.R_below R1.out h2); have X2 := Aside0.mk (blk_below X1.out h2); have K2 := Aside0.mk (below_step K1.out h2); have V2 := Aside0.mk (V1.out.below h2); have D2 := Aside0.mk (below_step D1.out h2); have q1 : w2.cell? ⟨g, 1, none⟩ = some vB := (blk_cell B2.out 1).trans rfl; have f1 : w2.frozen? ⟨g, 1, none⟩ = false := blk_frozen B2.out 1; have y0 : w2.cell? ⟨gx, 0, none⟩ = some (.int .u32 x.f0) := (blk_cell X2.out 0).trans rfl; have y1 : w2.cell? ⟨gx, 1, none⟩ = some (.string x.f1) := (blk_cell X2.out 1).trans rfl; clear B1 R1 X1 K1 V1 D1 z0 h2))
      go_wp2_with (go_at_call 42; refine (slices_Delete_api_Block_api_Block.calls (fun k => some k = vB.ownBlock) vB bl i (i + 1) r w0 _ K2.out (Kd.R_tight k39_E R2.out) H.out).mono ?_; rintro e w3 ⟨v, rfl, hR3, hB3, hK3⟩; obtain ⟨A3, c3, rfl⟩ := Kd.R_slice hR3; have V3 := Aside0.mk (V2.out.then_ hK3 (fun k hk => .inl (.inr hk))); have B3 := Aside0.mk (blk_kept B2.out hK3 hne.out); have L3 := Aside0.mk V2.out.1; have R3 := Aside0.mk hR3; have C3 := Aside0.mk hB3; have p1 : w3.cell? ⟨g, 1, none⟩ = some vB := (blk_cell B3.out 1).trans rfl; have g1 : w3.frozen? ⟨g, 1, none⟩ = false := blk_frozen B3.out 1; clear q1 f1 y0 y1 hR3 hB3 hK3)
      go_end0
      exact ⟨rfl, put_end B3.out R3.out C3.out V3.out HG.out (fun k hk => hk.imp_right (fun q => Nat.le_trans L3.out q))⟩
    · rw [if_neg hx] at h
      have hxb : (x.f1.toList == ([] : List UInt8)) = false := beq_eq_false_iff_ne.mpr hx
      split at h
      case isFalse => cases h
      case isTrue hir =>
      obtain rfl := Option.some.inj h
      obtain ⟨j, rfl⟩ : ∃ j : Nat, i = j := ⟨i.toNat, (Int.toNat_of_nonneg hir.1).symm⟩
      have hj : j < bl.length := by omega
      have hi0 : (0 : Int) ≤ (j : Int) := hir.1
      have hi1 : (j : Int) < (bl.length : Int) := hir.2
      obtain ⟨gr, cap, cur, inner, hv, hbg, hok, hgr, hnc, hcm, hsz, hil, hti, hrep⟩ := R_row k39_E HR.out (by omega)
      clear h hx hlen hir
      rw [k39_sz] at hsz hil hti
      have hgg : g ≠ gr := fun e => hne.out (by rw [e, hv]; rfl)
      unfold maxLen at hcm
      go_enter Tryd.func31, Tryd.ntmps31
      go_wp2_with (first
        | ((with_reducible refine gate_dst (N := 3) rfl ?_); refine bx_ (N := 3) (cs := #[.int .u32 x.f0, .string x.f1]) (t := 39) ?_; intro gx hgx w1 hx hbx; have B1 := Aside0.mk (blk_below HD.out hbx); have R1 := Aside0.mk (Kd.R_below HR.out hbx); have X1 := Aside0.mk hx; have K1 := Aside0.mk (below_step HB.out hbx); have N1 := Aside0.mk (show w.heap.size ≤ gx by omega); have V1 := Aside0.mk (Kept.of_below hbx (fun k => k = g ∨ some k = vB.ownBlock)); have D1 := Aside0.mk hbx; have z0 : w1.cell? ⟨gx, 0, none⟩ = some (.int .u32 x.f0) := (blk_cell hx 0).trans rfl; clear hx hbx hgx)
        | (go_at_call 41; refine (place_calls k g s vB vW d f n bl _ _ x.f0 _ _ _ B1.out R1.out HS.out).mono ?_; rintro e w2 ⟨rfl, h2⟩; have B2 := Aside0.mk (blk_below B1.out h2); have R2 := Aside0.mk (Kd.R_below R1.out h2); have X2 := Aside0.mk (blk_below X1.out h2); have K2 := Aside0.mk (below_step K1.out h2); have V2 := Aside0.mk (V1.out.below h2); have D2 := Aside0.mk (below_step D1.out h2); have q1 : w2.cell? ⟨g, 1, none⟩ = some vB := (blk_cell B2.out 1).trans rfl; have f1 : w2.frozen? ⟨g, 1, none⟩ = false := blk_frozen B2.out 1; have y0 : w2.cell? ⟨gx, 0, none⟩ = some (.int .u32 x.f0) := (blk_cell X2.out 0).trans rfl; have y1 : w2.cell? ⟨gx, 1, none⟩ = some (.string x.f1) := (blk_cell X2.out 1).trans rfl; clear B1 R1 X1 K1 V1 D1 z0 h2))
      subst hv
      have G2 := blk_below hgr D2.out
      have hgx : gx ≠ gr := by have := blk_lt hgr; have := N1.out; omega
      have e1 : ∀ u v : Value, ((w2.setCell ⟨gr, j * 2, none⟩ u).setCell ⟨gr, j * 2 + 1, none⟩ v).heap[gr]? = some (.cells ((cur.setIfInBounds (j * 2) u).setIfInBounds (j * 2 + 1) v) 39 (0, 0)) := fun u v => blk_set (blk_set G2 _ _) _ _
      have r0 : (w2.cell? ⟨gr, j * 2, none⟩).isSome = true := row_some G2 _ (by rw [hsz]; omega)
      have r1 : (w2.cell? ⟨gr, j * 2 + 1, none⟩).isSome = true := row_some G2 _ (by rw [hsz]; omega)
      have s0 : w2.frozen? ⟨gr, j * 2, none⟩ = false := blk_frozen G2 _
      have s1 : w2.frozen? ⟨gr, j * 2 + 1, none⟩ = false := blk_frozen G2 _
      obtain ⟨c0, k0⟩ := Option.isSome_iff_exists.1 r0
      obtain ⟨c1, k1⟩ := Option.isSome_iff_exists.1 r1
      have far : ∀ q : Nat, q ≠ gr → ((w2.setCell ⟨gr, j * 2, none⟩ (.int .u32 x.f0)).setCell ⟨gr, j * 2 + 1, none⟩ (.string x.f1)).heap[q]? = w2.heap[q]? := fun q hq => (Below.heap_setCell _ ⟨gr, j * 2 + 1, none⟩ _ q hq).trans (Below.heap_setCell _ ⟨gr, j * 2, none⟩ _ q hq)
      have B3 := (far g hgg).trans B2.out
      have X3 := (far gx hgx).trans X2.out
      have HK := And.intro ((blk_cell B3 1).trans (show _ = some (Value.slice (some ⟨gr, 0, none⟩) bl.length cap) from rfl)) (And.intro ((blk_cell X3 0).trans (show _ = some (Value.int .u32 x.f0) from rfl)) ((blk_cell X3 1).trans (show _ = some (Value.string x.f1) from rfl)))
      have HE : ∃ v, ((w2.setCell ⟨gr, j * 2, none⟩ (.int .u32 x.f0)).setCell ⟨gr, j * 2 + 1, none⟩ (.string x.f1)).heap[g]? = some (drv s v vW d f n) ∧ Own ((w2.setCell ⟨gr, j * 2, none⟩ (.int .u32 x.f0)).setCell ⟨gr, j * 2 + 1, none⟩ (.string x.f1)) w0.heap.size (fun k => some k = (Value.slice (some ⟨gr, 0, none⟩) bl.length cap).ownBlock ∨ w.heap.size ≤ k) v (bl.set j x) ∧
          Below w0.heap.size w0 ((w2.setCell ⟨gr, j * 2, none⟩ (.int .u32 x.f0)).setCell ⟨gr, j * 2 + 1, none⟩ (.string x.f1)) ∧ Kept w ((w2.setCell ⟨gr, j * 2, none⟩ (.int .u32 x.f0)).setCell ⟨gr, j * 2 + 1, none⟩ (.string x.f1)) (fun k => k = g ∨ some k = (Value.slice (some ⟨gr, 0, none⟩) bl.length cap).ownBlock) := by
        refine ⟨.slice (some ⟨gr, 0, none⟩) bl.length cap, B3, ?_, (K2.out.setCell (p := ⟨gr, j * 2, none⟩) hbg _).setCell (p := ⟨gr, j * 2 + 1, none⟩) hbg _, (V2.out.setCell (p := ⟨gr, j * 2, none⟩) (.inl (.inr rfl)) _).setCell (p := ⟨gr, j * 2 + 1, none⟩) (.inl (.inr rfl)) _⟩
        have hQ := R_of_row (d := k39) (e := 39) (base := w0.heap.size) (ok := fun k => some k = (Value.slice (some ⟨gr, 0, none⟩) bl.length cap).ownBlock ∨ w.heap.size ≤ k) (xs := bl.set j x) (cap := cap) (inner := (inner.set (j * 2) (.int .u32 x.f0)).set (j * 2 + 1) (.string x.f1)) hbg (.inl rfl) (e1 (.int .u32 x.f0) (.string x.f1)) (by rw [List.length_set]; exact hnc) (by unfold maxLen; exact hcm) (by rw [k39_sz]; simpa using hsz)
          (by rw [k39_sz]; simpa using hil) (by rw [k39_sz, List.length_set, ← hti]; simp [List.take_set])
          (fun ok' => reps_set (hrep _ _) hj)
        rw [List.length_set] at hQ
        exact hQ
      clear e1 far B3 X3
      clear r0 r1 hrep hsz hil hti hnc hcm hj HS HB
      go_region_held3 (fun w' => w'.cell? ⟨g, 1, none⟩ = some (.slice (some ⟨gr, 0, none⟩) bl.length cap) ∧ w'.cell? ⟨gx, 0, none⟩ = some (.int .u32 x.f0) ∧ w'.cell? ⟨gx, 1, none⟩ = some (.string x.f1)) (first | exact HK | go_keep) (fail)
      all_goals (go_end0; obtain ⟨v, h1, h2, h3, h4⟩ := HE; exact ⟨rfl, v, blk_drew h1, Kd.R_drew h2, below_drew1 h3, h4.drew⟩)
  | false =>
    rw [if_neg (by decide)] at h
    by_cases hx : x.f1.toList = []
    · rw [if_pos hx] at h
      obtain rfl := Option.some.inj h
      have hxb : (x.f1.toList == ([] : List UInt8)) = true := beq_iff_eq.mpr hx
      have hxb2 : (x.f1.toList != ([] : List UInt8)) = false := bne_eq_false_iff_eq.mpr hx
      clear h hx hlen
      go_enter Tryd.func31, Tryd.ntmps31
      go_wp2_with (first
        | ((with_reducible refine gate_dst (N := 3) rfl ?_); refine bx_ (N := 3) (cs := #[.int .u32 x.f0, .string x.f1]) (t := 39) ?_; intro gx hgx w1 hx hbx; have B1 := Aside0.mk (blk_below HD.out hbx); have R1 := Aside0.mk (Kd.R_below HR.out hbx); have X1 := Aside0.mk hx; have K1 := Aside0.mk (below_step HB.out hbx); have N1 := Aside0.mk (show w.heap.size ≤ gx by omega); have V1 := Aside0.mk (Kept.of_below hbx (fun k => k = g ∨ some k = vB.ownBlock)); have D1 := Aside0.mk hbx; have z0 : w1.cell? ⟨gx, 0, none⟩ = some (.int .u32 x.f0) := (blk_cell hx 0).trans rfl; clear hx hbx hgx)
        | (go_at_call 41; refine (place_calls k g s vB vW d f n bl _ _ x.f0 _ _ _ B1.out R1.out HS.out).mono ?_; rintro e w2 ⟨rfl, h2⟩; have B2 := Aside0.mk (blk_below B1.out h2); have R2 := Aside0.mk (Kd.R_below R1.out h2); have X2 := Aside0.mk (blk_below X1.out h2); have K2 := Aside0.mk (below_step K1.out h2); have V2 := Aside0.mk (V1.out.below h2); have D2 := Aside0.mk (below_step D1.out h2); have q1 : w2.cell? ⟨g, 1, none⟩ = some vB := (blk_cell B2.out 1).trans rfl; have f1 : w2.frozen? ⟨g, 1, none⟩ = false := blk_frozen B2.out 1; have y0 : w2.cell? ⟨gx, 0, none⟩ = some (.int .u32 x.f0) := (blk_cell X2.out 0).trans rfl; have y1 : w2.cell? ⟨gx, 1, none⟩ = some (.string x.f1) := (blk_cell X2.out 1).trans rfl; clear B1 R1 X1 K1 V1 D1 z0 h2))
      go_end0
      exact ⟨rfl, _, B2.out, Kd.R_mono (Kd.R_tight k39_E R2.out) (fun _ hk => .inl hk), K2.out, V2.out⟩
    · rw [if_neg hx] at h
      have hxb : (x.f1.toList == ([] : List UInt8)) = false := beq_eq_false_iff_ne.mpr hx
      have hxb2 : (x.f1.toList != ([] : List UInt8)) = true := bne_iff_ne.mpr hx
      have H := Aside0.mk h
      clear h hx hlen
      have hb0 : ∀ k, some k = vB.ownBlock → k < w.heap.size := fun k hk => ((Kd.R_bound HR.out).1 k hk.symm).2.2.1
      go_enter Tryd.func31, Tryd.ntmps31
      go_wp2_with (first
        | ((with_reducible refine gate_dst (N := 3) rfl ?_); refine bx_ (N := 3) (cs := #[.int .u32 x.f0, .string x.f1]) (t := 39) ?_; intro gx hgx w1 hx hbx; have B1 := Aside0.mk (blk_below HD.out hbx); have R1 := Aside0.mk (Kd.R_below HR.out hbx); have X1 := Aside0.mk hx; have K1 := Aside0.mk (below_step HB.out hbx); have N1 := Aside0.mk (show w.heap.size ≤ gx by omega); have V1 := Aside0.mk (Kept.of_below hbx (fun k => k = g ∨ some k = vB.ownBlock)); have D1 := Aside0.mk hbx; have z0 : w1.cell? ⟨gx, 0, none⟩ = some (.int .u32 x.f0) := (blk_cell hx 0).trans rfl; clear hx hbx hgx)
        | (go_at_call 41; refine (place_calls k g s vB vW d f n bl _ _ x.f0 _ _ _ B1.out R1.out HS.out).mono ?_; rintro e w2 ⟨rfl, h2⟩; have B2 := Aside0.mk (blk_below B1.out h2); have R2 := Aside0.mk (Kd.R_below R1.out h2); have X2 := Aside0.mk (blk_below X1.out h2); have K2 := Aside0.mk (below_step K1.out h2); have V2 := Aside0.mk (V1.out.below h2); have D2 := Aside0.mk (below_step D1.out h2); have q1 : w2.cell? ⟨g, 1, none⟩ = some vB := (blk_cell B2.out 1).trans rfl; have f1 : w2.frozen? ⟨g, 1, none⟩ = false := blk_frozen B2.out 1; have y0 : w2.cell? ⟨gx, 0, none⟩ = some (.int .u32 x.f0) := (blk_cell X2.out 0).trans rfl; have y1 : w2.cell? ⟨gx, 1, none⟩ = some (.string x.f1) := (blk_cell X2.out 1).trans rfl; clear B1 R1 X1 K1 V1 D1 z0 h2))
      have hxne : some gx ≠ vB.ownBlock := fun e => by have := hb0 gx e; have := N1.out; omega
      have hgx1 : ¬ gx = g := fun e => by have := blk_lt HD.out; have := N1.out; omega
      have hgx2 : ¬ g = gx := fun e => hgx1 e.symm
      have hBd := Aside0.mk (blk_drew B2.out)
      have hXd := Aside0.mk (blk_drew X2.out)
      have hKd := Aside0.mk (below_drew1 K2.out)
      have hRd := Aside0.mk (Kd.R_drew R2.out)
      have hVd := Aside0.mk V2.out.drew
      have hs2 : w.heap.size ≤ w2.drew.heap.size := V2.out.1
      clear B2 X2 K2 R2 V2 f1 D2
      refine start_ (n := 14) (S := fun w' => w'.cell? ⟨g, 1, none⟩ = some vB ∧ w'.cell? ⟨gx, 0, none⟩ = some (.int .u32 x.f0) ∧ w'.cell? ⟨gx, 1, none⟩ = some (.string x.f1)) (ds := [13]) #[false, false, false, false, false, false, false, false, false, false, false, false, false, false] (by kernel_rfl) rfl rfl ⟨q1, y0, y1⟩ (fun hHeld => ?_)
      clear q1 y0 y1
      generalize w2.drew = wd at hBd hXd hKd hRd hVd hs2 hHeld ⊢
      refine pu_ 0 47 ?_
      refine pu_ 1 48 ?_
      refine pu_ 2 49 ?_
      refine pu_ 3 50 ?_
      refine pu_ 4 51 ?_
      refine tk3_ 5 52 ?_
      refine pu_ 6 53 ?_
      refine tk3_ 7 54 ?_
      refine on_ 8 55 (fun K hK => ?_)
      refine value_ (w1 := ?_) (v := ?_) (by rfl) rfl ?_ ?_
      rotate_left 2
      · go_simp
        constructor
        · rfl
        · rfl
      refine hK.out _ _ ⟨(blk_cell (blk_alloc hBd.out _) 1).trans rfl, (blk_cell (blk_alloc hXd.out _) 0).trans rfl, (blk_cell (blk_alloc hXd.out _) 1).trans rfl⟩ (fun hHeld => ?_)
      clear hK K
      refine nm_ 55 ?_
      refine on_ 9 56 (fun K hK => ?_)
      have IA : ∀ W_, Kept (wd.alloc (.cells #[.int .u32 x.f0, .string x.f1] 39 (0, 0))) W_ (fun k => some k = vB.ownBlock) → Own W_ w0.heap.size (fun k => k = wd.heap.size) (.slice (some ⟨wd.heap.size, 0, none⟩) 1 1) [x] := fun W_ hk =>
        R_of_row (d := k39) (e := 39) (xs := [x]) (cur := #[.int .u32 x.f0, .string x.f1]) (inner := [.int .u32 x.f0, .string x.f1]) hKd.out.size rfl (blk_kept (blk_new wd _) hk (fun e => by have := hb0 _ e; omega)) (Nat.le_refl 1) (by unfold maxLen; decide) (by rw [k39_sz]; rfl) (by rw [k39_sz]; rfl) (by rw [k39_sz]; rfl)
          (fun ok' => by
            have := Reps.snoc (Reps.none (k39.M W_ w0.heap.size ok') k39.sz) (k39_mkM W_ w0.heap.size ok' x) (by rw [k39_sz]; rfl)
            exact this)
      have IC : ∀ W_, Kept (wd.alloc (.cells #[.int .u32 x.f0, .string x.f1] 39 (0, 0))) W_ (fun k => some k = vB.ownBlock) → Kd.C k39 W_ (some ⟨wd.heap.size, 0, none⟩) 1 [x] := fun W_ hk => by
        obtain ⟨A, c, e, _, hC⟩ := Kd.R_reads (IA W_ hk)
        cases e
        exact hC
      have VA := hVd.out.alloc (.cells #[.int .u32 x.f0, .string x.f1] 39 (0, 0))
      refine goes_ Tryd.func43 (by kernel_rfl) rfl #[vB, .int .i64 i, .slice (some ⟨wd.heap.size, 0, none⟩) 1 1] (by rfl) rfl rfl (by (try simp only [List.map_toArray, List.map_cons, List.map_nil]); first | done | rfl) ?_
      refine (slices_Insert_api_Block_api_Block.calls (fun k => some k = vB.ownBlock) vB bl i (some ⟨wd.heap.size, 0, none⟩) 1 [x] r w0 _ (below_alloc hKd.out _) (Kd.R_alloc (Kd.R_tight k39_E hRd.out) _) (fun W_ hk => IC W_ hk) (Nat.le_refl 1) ⟨_, _, IA _ (Kept.refl _ _)⟩ H.out).mono ?_
      rintro e w3 ⟨v, rfl, hR3, hB3, hK3⟩
      obtain ⟨A3, c3, rfl⟩ := Kd.R_slice hR3
      have V3 := Aside0.mk (VA.then_ hK3 (fun k hk => .inl (.inr hk)))
      have B3 := Aside0.mk (blk_kept (blk_alloc hBd.out _) hK3 hne.out)
      have X3 := Aside0.mk (blk_kept (blk_alloc hXd.out _) hK3 hxne)
      have L3 := Aside0.mk (show w.heap.size ≤ _ from VA.1)
      have R3 := Aside0.mk hR3
      have C3 := Aside0.mk hB3
      clear hR3 hB3 hK3 IA IC VA
      refine ⟨_, rfl, ?_⟩
      refine hK.out _ _ ⟨(blk_cell B3.out 1).trans rfl, (blk_cell X3.out 0).trans rfl, (blk_cell X3.out 1).trans rfl⟩ (fun hHeld => ?_)
      clear hK K
      refine nm_ 56 ?_
      refine pu_ 10 57 ?_
      refine pu_ 11 58 ?_
      refine pu_ 12 59 ?_
      have p1 : w3.cell? ⟨g, 1, none⟩ = some vB := (blk_cell B3.out 1).trans rfl
      have g1 : w3.frozen? ⟨g, 1, none⟩ = false := blk_frozen B3.out 1
      refine last_ (i := 13) (N := none) #[true, true, true, true, true, true, true, true, true, true, true, true, true, true] rfl rfl (by kernel_rfl) (by decide) (fun K hK => ?_)
      refine skip_ (w1 := ?_) (by rfl) rfl ?_ ?_
      rotate_left
      · go_simp
        rfl
      refine hK.out _ _ ?_
      clear hK K
      refine done_ (by kernel_rfl) ?_
      try go_wp2
      go_end0
      exact ⟨rfl, put_end B3.out R3.out C3.out V3.out HG.out (fun k hk => hk.imp_right (fun q => Nat.le_trans L3.out q))⟩
end Go.Proofs.YtcphflfjhkeooaaDoor.Z
end

section
-- Printed by a program of this session (mp.py) out of the translation.
namespace Go.Proofs.YtcphflfjhkeooaaDoor.Z
open Go.RowKit Go.Proofs.YtcphflfjhkeooaaDoorW.PrintWords Go.Proofs.YtcphflfjhkeooaaDoorW.PrintLast Go.Proofs.YtcphflfjhkeooaaDoorW.PrintMore
attribute [local go_sem] max2_int min2_int max_two min_two max_three min_three max_four min_four   -- for this text's walks alone
set_option linter.unusedVariables false
set_option linter.unusedSimpArgs false

/-! ### dev_Own: function 39 -/
def dev_Own.f (a0_0 : Int) (l0_1 : List (S39)) (l0_2 : List (S39)) (a0_3 : Bool) (a0_4 : Int) : Option (Int × (List (S39)) × (List (S39)) × Bool × Int) := (slices_Clone_api_Block_api_Block.f l0_1).bind fun t127 => ((slices_Clone_api_Block_api_Block.f l0_2).bind fun t130 => (some (a0_0, t127, t130, a0_3, a0_4)))
def dev_Own.T1 : Bool × List (List Nat × List Nat) := (true, [([], []), ([0], [0]), ([1], [1]), ([], []), ([3], [3]), ([4, 2], [4]), ([0, 1, 2, 3, 4], []), ([6, 2, 5, 0, 1, 2, 3, 4], [2, 6]), ([0, 1, 2, 3, 4, 5, 6, 7], []), ([8, 5, 7, 0, 1, 2, 3, 4, 5, 6, 7], [5, 8])])
def dev_Own.B1 : List Nat := [0, 1, 3, 0, 8, 31, 31, 127, 255, 511]
theorem dev_Own.tab1 : rtab .any (opsOf Tryd.f39 1) = dev_Own.T1 := by kernel_rfl
theorem dev_Own.bits1 : waitsOk dev_Own.T1.2 dev_Own.B1 = true := by kernel_rfl
set_option maxHeartbeats 8000000 in
set_option maxRecDepth 100000 in
theorem dev_Own.calls (a0_0 : Int) (A0_1 : Option Addr) (c0_1 : Nat) (l0_1 : List (S39)) (A0_2 : Option Addr) (c0_2 : Nat) (l0_2 : List (S39)) (a0_3 : Bool) (a0_4 : Int) (r1 : Int) (r2 : List (S39)) (r3 : List (S39)) (r4 : Bool) (r5 : Int) (w : World) (hr0_1 : Kd.C k39 w A0_1 l0_1.length l0_1) (hc0_1 : l0_1.length ≤ c0_1) (hr0_2 : Kd.C k39 w A0_2 l0_2.length l0_2) (hc0_2 : l0_2.length ≤ c0_2) (h : dev_Own.f a0_0 l0_1 l0_2 a0_3 a0_4 = some (r1, r2, r3, r4, r5)) :
    Calls Tryd.prog 39 #[.agg #[.int .u32 a0_0, .slice A0_1 l0_1.length c0_1, .slice A0_2 l0_2.length c0_2, .bool a0_3, .int .i64 a0_4]] w fun e w' => ∃ v1_ v2_ : Value, e = .returned (.agg #[.int .u32 r1, v1_, v2_, .bool r4, .int .i64 r5]) ∧ Kd.R k39 39 w' w.heap.size (fun k_ => some k_ ≠ (v2_ : Value).ownBlock) v1_ r2 ∧ Kd.R k39 39 w' w.heap.size (fun k_ => some k_ ≠ (v1_ : Value).ownBlock) v2_ r3 ∧ Below w.heap.size w w' := by
  have hu25 := Tryd.underlying25
  have HR0_1 := Aside0.mk hr0_1
  have HC0_1 := Aside0.mk hc0_1
  clear hr0_1 hc0_1
  have HR0_2 := Aside0.mk hr0_2
  have HC0_2 := Aside0.mk hc0_2
  clear hr0_2 hc0_2
  have HB := Aside0.mk (Below.refl w.heap.size w)
  have H : ((slices_Clone_api_Block_api_Block.f l0_1).bind fun t127 => ((slices_Clone_api_Block_api_Block.f l0_2).bind fun t130 => (some (a0_0, t127, t130, a0_3, a0_4)))) = some (r1, r2, r3, r4, r5) := h
  clear h
  replace H := Option.bind_eq_some_iff.mp H
  obtain ⟨t127, A20, H⟩ := H
  replace H : ((slices_Clone_api_Block_api_Block.f l0_2).bind fun t130 => (some (a0_0, t127, t130, a0_3, a0_4))) = some (r1, r2, r3, r4, r5) := H
  have A2 := Aside0.mk A20
  clear A20
  replace H := Option.bind_eq_some_iff.mp H
  obtain ⟨t130, A30, H⟩ := H
  replace H : (some (a0_0, t127, t130, a0_3, a0_4)) = some (r1, r2, r3, r4, r5) := H
  have A3 := Aside0.mk A30
  clear A30
  simp only [Option.some.injEq, Prod.mk.injEq] at H
  obtain ⟨rfl, rfl, rfl, rfl, rfl⟩ := H
  go_enter Tryd.func39, Tryd.ntmps39
  try go_wp2_with (first | ((with_reducible refine gate_dst (N := 1) rfl ?_); refine bx_ (N := 1) (cs := #[.int .u32 a0_0, .slice A0_1 l0_1.length c0_1, .slice A0_2 l0_2.length c0_2, .bool a0_3, .int .i64 a0_4]) (t := 25) ?_; intro gb125 hg w4 hbox hb; have BK125 := Aside0.mk (hbox); have GW125 := ge_ hg; have GE125 := ge_ hg; replace HB := hb_ hb; clear hb hbox hg) | ((with_reducible refine gate_dst (N := 2) rfl ?_); refine bx_ (N := 2) (cs := #[.int .u32 0, .slice none 0 0, .slice none 0 0, .bool false, .int .i64 0]) (t := 25) ?_; intro gb126 hg w5 hbox hb; have BK126 := Aside0.mk (hbox); have GW126 := ge_ hg; have GE126 := ge_ hg; have NB125_126 := nl_ BK125 hg; have NB126_125 := ng_ BK125 hg; replace BK125 := kb_ BK125 hb; replace HB := hb_ hb; clear hb hbox hg))
  replace BK125 := Aside0.mk (blk_drew BK125.out)
  replace BK126 := Aside0.mk (blk_drew BK126.out)
  replace HB := Aside0.mk (below_drew1 HB.out)
  refine start_ (n := 10) (S := fun w' => w'.cell? ⟨gb125, 0, none⟩ = some (.int .u32 a0_0) ∧ w'.cell? ⟨gb125, 1, none⟩ = some (.slice A0_1 l0_1.length c0_1) ∧ w'.cell? ⟨gb125, 2, none⟩ = some (.slice A0_2 l0_2.length c0_2) ∧ w'.cell? ⟨gb125, 3, none⟩ = some (.bool a0_3) ∧ w'.cell? ⟨gb125, 4, none⟩ = some (.int .i64 a0_4)) (ds := [7, 9]) #[false, false, false, false, false, false, false, false, false, false] (by kernel_rfl) rfl rfl hc_ (fun hHeld => ?_); refine with_tabW dev_Own.tab1 dev_Own.bits1 (fun HT_ HW_ => ?_)
  generalize w5.drew = w6 at BK125 BK126 HB hHeld ⊢
  refine pu_ 0 3 ?_
  refine pu_ 3 6 ?_
  refine tk5_ 1 4 ?_
  refine tk5_ 4 7 ?_
  refine on_ 2 5 (fun K hK => ?_)
  refine goes_ Tryd.func47 (by kernel_rfl) rfl #[.slice A0_1 l0_1.length c0_1] (by rfl) rfl rfl (by (try simp only [List.map_toArray, List.map_cons, List.map_nil]); first | done | rfl | (simp only [List.length_drop, List.length_take]; rfl)) ?_
  with_reducible refine (slices_Clone_api_Block_api_Block.calls _ _ l0_1 t127 _ ?side1 ?side2 A2.out).mono ?_
  (case side1 => exact cb_ HR0_1)
  (case side2 => exact HC0_1.out)
  rintro e w7 ⟨v128, rfl, ho0, hb⟩
  refine ⟨_, rfl, ?_⟩
  have HO129 := rl_ ho0
  replace BK125 := kb_ BK125 hb
  replace BK126 := kb_ BK126 hb
  replace HB := hb_ hb
  (try clear hb)
  (try clear hb2)
  (try clear hk)
  (try clear hi)
  (try clear ho0)
  refine hK.out _ _ hc_ (fun hHeld => ?_)
  clear hK K
  refine nm_ 5 ?_
  refine pu_ 6 9 ?_
  refine on_ 5 8 (fun K hK => ?_)
  refine goes_ Tryd.func47 (by kernel_rfl) rfl #[.slice A0_2 l0_2.length c0_2] (by rfl) rfl rfl (by (try simp only [List.map_toArray, List.map_cons, List.map_nil]); first | done | rfl | (simp only [List.length_drop, List.length_take]; rfl)) ?_
  with_reducible refine (slices_Clone_api_Block_api_Block.calls _ _ l0_2 t130 _ ?side1 ?side2 A3.out).mono ?_
  (case side1 => exact cb_ HR0_2)
  (case side2 => exact HC0_2.out)
  rintro e w8 ⟨v131, rfl, ho0, hb⟩
  refine ⟨_, rfl, ?_⟩
  have HO132 := Aside0.mk (Kd.R_lower (Kd.R_new' ho0 (Kd.R_lt (ra_ HO129))) (below_size bel_))
  replace HO129 := Aside0.mk (Kd.R_elder' (ra_ HO129) (Kd.R_base ho0) hb)
  replace BK125 := kb_ BK125 hb
  replace BK126 := kb_ BK126 hb
  replace HB := hb_ hb
  (try clear hb)
  (try clear hb2)
  (try clear hk)
  (try clear hi)
  (try clear ho0)
  obtain ⟨Ao9, co9, eo9⟩ := Kd.R_slice HO129.out
  (first | subst eo9 | (injection eo9 with f1_ f2_ f3_; have f4_ := f1_.symm; have f5_ := f3_.symm; clear f1_ f2_ f3_; subst f4_; subst f5_))
  obtain ⟨Ao11, co11, eo11⟩ := Kd.R_slice HO132.out
  (first | subst eo11 | (injection eo11 with f1_ f2_ f3_; have f4_ := f1_.symm; have f5_ := f3_.symm; clear f1_ f2_ f3_; subst f4_; subst f5_))
  refine hK.out _ _ hc_ (fun hHeld => ?_)
  clear hK K
  refine nm_ 8 ?_
  refine last_ (i := 7) (N := none) #[true, true, true, true, true, true, true, true, false, false] rfl rfl (one_of HT_.out (by kernel_rfl)) (by decide) (fun K hK => ?_)
  have hs10 : w8.cell? ⟨gb125, 1, none⟩ = some (.slice A0_1 l0_1.length c0_1) := (blk_cell BK125.out 1).trans rfl
  have hfs10 := blk_frozen BK125.out 1
  have hns10_1 := NB126_125.out
  have hms10_1 := NB125_126.out
  refine skip_ (w1 := ?_) (by rfl) rfl ?_ ?_
  rotate_left
  · go_simp
    rfl
  refine hK.out _ _ ?_
  clear hK K
  refine pu_ 8 10 ?_
  refine last_ (i := 9) (N := none) #[true, true, true, true, true, true, true, true, true, true] rfl rfl (one_of HT_.out (by kernel_rfl)) (by decide) (fun K hK => ?_)
  have hs12 : w8.cell? ⟨gb125, 2, none⟩ = some (.slice A0_2 l0_2.length c0_2) := (blk_cell BK125.out 2).trans rfl
  have hfs12 := blk_frozen BK125.out 2
  have hns12_1 := NB126_125.out
  have hms12_1 := NB125_126.out
  refine skip_ (w1 := ?_) (by rfl) rfl ?_ ?_
  rotate_left
  · go_simp
    rfl
  refine hK.out _ _ ?_
  clear hK K
  refine done_ (done_of HT_.out (by kernel_rfl)) ?_
  have hnb13 := NB125_126.out
  have hnc13 := NB126_125.out
  obtain ⟨hcz14_0, hcz14_1, hcz14_2, hcz14_3, hcz14_4⟩ := cl5_ BK125
  obtain ⟨hfz14_0, hfz14_1, hfz14_2, hfz14_3, hfz14_4⟩ := fz5_ BK125
  obtain ⟨hcz15_0, hcz15_1, hcz15_2, hcz15_3, hcz15_4⟩ := cl5_ BK126
  obtain ⟨hfz15_0, hfz15_1, hfz15_2, hfz15_3, hfz15_4⟩ := fz5_ BK126
  try go_wp2
  refine bodyPost_ret (results_cell_row rfl _ _ gb126 25 #[.int .u32 a0_0, .slice Ao9 t127.length co9, .slice Ao11 t130.length co11, .bool a0_3, .int .i64 a0_4] (0, 0) _ rfl (bs_) Tryd.underlying25 rfl (by kernel_rfl)) rfl ?_
  exact ⟨_, _, by first | rfl | (simp [errW_none, errW_some] <;> rfl) | (simp [*, errW_none, errW_some] <;> rfl), by (with_reducible repeat (first | apply Kd.R_alloc | apply Kd.R_drewN | apply Kd.R_drew)); exact Kd.R_mono (Kd.R_far (p := ⟨gb126, 4, none⟩) (Kd.R_far (p := ⟨gb126, 3, none⟩) (Kd.R_far (p := ⟨gb126, 2, none⟩) (Kd.R_far (p := ⟨gb126, 1, none⟩) (Kd.R_far (p := ⟨gb126, 0, none⟩) (Kd.R_far (p := ⟨gb125, 2, none⟩) (Kd.R_far (p := ⟨gb125, 1, none⟩) (Kd.R_types (Kd.R_types HO129.out BK125.out (by decide)) BK126.out (by decide)) (fun _ hk => hk.1.2) (.slice Ao9 t127.length co9)) (fun _ hk => hk.1.2) (.slice Ao11 t130.length co11)) (fun _ hk => hk.2) (.int .u32 a0_0)) (fun _ hk => hk.2) (.slice Ao9 t127.length co9)) (fun _ hk => hk.2) (.slice Ao11 t130.length co11)) (fun _ hk => hk.2) (.bool a0_3)) (fun _ hk => hk.2) (.int .i64 a0_4)) (fun _ hk => hk.1.1.2), by (with_reducible repeat (first | apply Kd.R_alloc | apply Kd.R_drewN | apply Kd.R_drew)); exact Kd.R_mono (Kd.R_far (p := ⟨gb126, 4, none⟩) (Kd.R_far (p := ⟨gb126, 3, none⟩) (Kd.R_far (p := ⟨gb126, 2, none⟩) (Kd.R_far (p := ⟨gb126, 1, none⟩) (Kd.R_far (p := ⟨gb126, 0, none⟩) (Kd.R_far (p := ⟨gb125, 2, none⟩) (Kd.R_far (p := ⟨gb125, 1, none⟩) (Kd.R_types (Kd.R_types HO132.out BK125.out (by decide)) BK126.out (by decide)) (fun _ hk => hk.1.2) (.slice Ao9 t127.length co9)) (fun _ hk => hk.1.2) (.slice Ao11 t130.length co11)) (fun _ hk => hk.2) (.int .u32 a0_0)) (fun _ hk => hk.2) (.slice Ao9 t127.length co9)) (fun _ hk => hk.2) (.slice Ao11 t130.length co11)) (fun _ hk => hk.2) (.bool a0_3)) (fun _ hk => hk.2) (.int .i64 a0_4)) (fun _ hk => hk.1.1.2), bel_⟩

end Go.Proofs.YtcphflfjhkeooaaDoor.Z
end

section
/- A device at work, told whole: its block, its two rows; how it is opened, how what it does turns it. -/
namespace Go.Proofs.YtcphflfjhkeooaaDoor.Z
open Go.RowKit Go.Proofs.YtcphflfjhkeooaaDoorW.PrintWords Go.Proofs.YtcphflfjhkeooaaDoorW.PrintLast Go.Proofs.YtcphflfjhkeooaaDoorW.PrintMore
set_option linter.unusedVariables false
set_option linter.unusedSimpArgs false
def Drv (w0 w : World) (g : Nat) (s : Int) (vB vW : Value) (bl wl : List Blk) (d : Bool) (f n : Int) : Prop :=
  w.heap[g]? = some (drv s vB vW d f n) ∧ w0.heap.size ≤ g ∧ Own w w0.heap.size (fun k => some k ≠ vW.ownBlock) vB bl ∧ Own w w0.heap.size (fun k => some k ≠ vB.ownBlock) vW wl ∧ Below w0.heap.size w0 w
theorem Drv.below {w0 w w' : World} {g : Nat} {s : Int} {vB vW : Value} {bl wl : List Blk} {d : Bool} {f n : Int} (h : Drv w0 w g s vB vW bl wl d f n) (hb : Below w.heap.size w w') : Drv w0 w' g s vB vW bl wl d f n :=
  ⟨blk_below h.1 hb, h.2.1, Kd.R_below h.2.2.1 hb, Kd.R_below h.2.2.2.1 hb, below_step h.2.2.2.2 hb⟩
theorem Drv.step {w0 w w' : World} {g : Nat} {s : Int} {vB vW : Value} {bl wl : List Blk} {d d' : Bool} {f n f' n' : Int} (h : Drv w0 w g s vB vW bl wl d f n) (hs : Step g w w' (drv s vB vW d' f' n')) : Drv w0 w' g s vB vW bl wl d' f' n' :=
  ⟨hs.1, h.2.1, Kd.R_mono (Kd.R_keep (Kd.R_types h.2.2.1 h.1 (by decide)) hs.2.1 (fun _ hk => hk.2)) (fun _ hk => hk.1), Kd.R_mono (Kd.R_keep (Kd.R_types h.2.2.2.1 h.1 (by decide)) hs.2.1 (fun _ hk => hk.2)) (fun _ hk => hk.1), h.2.2.2.2.trans (hs.2.2 _ h.2.1)⟩
theorem Drv.put {w0 w w' : World} {g : Nat} {s : Int} {vB vW v : Value} {bl wl r : List Blk} {d : Bool} {f n : Int} (h : Drv w0 w g s vB vW bl wl d f n)
    (hb : w'.heap[g]? = some (drv s v vW d f n)) (hO : Own w' w0.heap.size (fun k => some k = vB.ownBlock ∨ w.heap.size ≤ k) v r) (hB : Below w0.heap.size w0 w') (hK : Kept w w' (fun k => k = g ∨ some k = vB.ownBlock)) : Drv w0 w' g s v vW r wl d f n := by
  obtain ⟨h1, h2, h3, h4, h5⟩ := h
  have hlt : ∀ k, some k = vW.ownBlock → k < w.heap.size := fun k hk => ((Kd.R_bound h4).1 k hk.symm).2.2.1
  have hW : Own w' w0.heap.size (fun k => some k = vW.ownBlock) vW wl := by
    refine Kd.R_kept (Kd.R_tight k39_E h4) hK (fun k hk hq => ?_)
    rcases hq with rfl | hq
    · exact own_ne h4 h1 (by decide) hk
    · exact h4.1 k hk.symm hq
  refine ⟨hb, h2, Kd.R_mono hO (fun k hk e => ?_), Kd.R_reok k39_E hW (fun k hk e => ?_), hB⟩
  · rcases hk with hk | hk
    · exact h3.1 k hk.symm e
    · have := hlt k e; omega
  · rcases hO.1 k e.symm with hq | hq
    · exact h4.1 k hk hq
    · have := hlt k hk.symm; omega
set_option maxRecDepth 100000 in
set_option maxHeartbeats 1600000 in
theorem open_calls (s : Int) (A1 : Option Addr) (c1 : Nat) (l1 : List Blk) (A2 : Option Addr) (c2 : Nat) (l2 : List Blk) (d : Bool) (f : Int) (r1 : Int) (r2 r3 : List Blk) (r4 : Bool) (r5 : Int) (w0 w : World) (hB : Below w0.heap.size w0 w)
    (hr1 : Kd.C k39 w A1 l1.length l1) (hc1 : l1.length ≤ c1) (hr2 : Kd.C k39 w A2 l2.length l2) (hc2 : l2.length ≤ c2) (h : dev_Own.f s l1 l2 d f = some (r1, r2, r3, r4, r5)) :
    Calls Tryd.prog 28 #[.agg #[.int .u32 s, .slice A1 l1.length c1, .slice A2 l2.length c2, .bool d, .int .i64 f]] w fun e w' => ∃ g a1 b1 a2 b2, e = .returned (.pointer (some ⟨g, 0, none⟩)) ∧ w.heap.size ≤ g ∧ Below w.heap.size w w' ∧ Drv w0 w' g r1 (.slice a1 r2.length b1) (.slice a2 r3.length b2) r2 r3 r4 r5 0 := by
  have HB := Aside0.mk hB
  have R1 := Aside0.mk hr1
  have R2 := Aside0.mk hr2
  have L1 := Aside0.mk hc1
  have L2 := Aside0.mk hc2
  have H := Aside0.mk h
  clear hB hr1 hr2 hc1 hc2 h
  go_enter Tryd.func28, Tryd.ntmps28
  go_wp2_with (first
    | ((with_reducible refine gate_dst (N := 1) rfl ?_); refine box_event ?hg (N := 1) ?hd (cs := #[.int .u32 s, .slice A1 l1.length c1, .slice A2 l2.length c2, .bool d, .int .i64 f]) (t := 25) ?hr ?_; (case hd => rfl); (case hg => rfl); (case hr => first | (go_simp; done) | (go_simp; rfl)); intro gx hgx w1 hx hbx; have K1 := Aside0.mk hbx; have z0 : w1.cell? ⟨gx, 0, none⟩ = some (.int .u32 s) := (blk_cell hx 0).trans rfl; have z1 : w1.cell? ⟨gx, 1, none⟩ = some (.slice A1 l1.length c1) := (blk_cell hx 1).trans rfl; have z2 : w1.cell? ⟨gx, 2, none⟩ = some (.slice A2 l2.length c2) := (blk_cell hx 2).trans rfl; have z3 : w1.cell? ⟨gx, 3, none⟩ = some (.bool d) := (blk_cell hx 3).trans rfl; have z4 : w1.cell? ⟨gx, 4, none⟩ = some (.int .i64 f) := (blk_cell hx 4).trans rfl; clear hx hbx hgx)
    | (go_at_call 39; refine (dev_Own.calls s A1 c1 l1 A2 c2 l2 d f r1 r2 r3 r4 r5 _ (Kd.C_below R1.out K1.out) L1.out (Kd.C_below R2.out K1.out) L2.out H.out).mono ?_; rintro e w2 ⟨v1, v2, rfl, hO1, hO2, hb2⟩; obtain ⟨a1, b1, rfl⟩ := Kd.R_slice hO1; obtain ⟨a2, b2, rfl⟩ := Kd.R_slice hO2; have O1 := Aside0.mk hO1; have O2 := Aside0.mk hO2; have B2 := Aside0.mk hb2; clear hO1 hO2 hb2 z0 z1 z2 z3 z4)
    | ((with_reducible refine gate_dst (N := 6) rfl ?_); refine box_event ?hg (N := 6) ?hd (cs := #[.int .u32 r1, .slice a1 r2.length b1, .slice a2 r3.length b2, .bool r4, .int .i64 r5, .int .u64 0]) (t := 60) ?hr ?_; (case hd => rfl); (case hg => rfl); (case hr => first | (go_simp; done) | (go_simp; rfl)); intro g hg w3 hd hb3; have G3 := Aside0.mk hd; have B3 := Aside0.mk hb3; have N3 := Aside0.mk hg; clear hd hb3 hg))
  go_ret
  have h1 : w0.heap.size ≤ w1.heap.size := Nat.le_trans HB.out.size K1.out.size
  exact ⟨g, a1, b1, a2, b2, rfl, by rw [N3.out]; exact Nat.le_trans K1.out.size B2.out.size, below_step (below_step K1.out B2.out) B3.out, G3.out, by rw [N3.out]; exact Nat.le_trans h1 B2.out.size,
    Kd.R_below (Kd.R_lower O1.out h1) B3.out, Kd.R_below (Kd.R_lower O2.out h1) B3.out, below_step (below_step (below_step HB.out K1.out) B2.out) B3.out⟩
end Go.Proofs.YtcphflfjhkeooaaDoor.Z
end

section
/- slices.Backward over blocks: the library's iterator, for every loop body that keeps what lay. -/
namespace Go.Proofs.YtcphflfjhkeooaaDoor.Z
open Go.RowKit Go.Shelf Go.Proofs.YtcphflfjhkeooaaDoorW.PrintWords Go.Proofs.YtcphflfjhkeooaaDoorW.PrintLast Go.Proofs.YtcphflfjhkeooaaDoorW.PrintMore
set_option linter.unusedVariables false
set_option linter.unusedSimpArgs false
attribute [local go_sem] Oper.semAt_some
def uptoB {α : Type} (f : Nat → α) (k : Nat) : List α := (List.range k).map f
theorem uptoB_succ {α : Type} (f : Nat → α) (k : Nat) : uptoB f (k + 1) = uptoB f k ++ [f k] := by simp [uptoB, List.range_succ]
theorem uptoB_length {α : Type} (f : Nat → α) (k : Nat) : (uptoB f k).length = k := by simp [uptoB]
/-- What comes as the j-th: the one j ahead of the last. -/
def backAt (wl : List Blk) (j : Nat) : Int × Blk := ((wl.length : Int) - 1 - (j : Int), rd_T39 wl ((wl.length : Int) - 1 - (j : Int)))
set_option maxRecDepth 100000 in
set_option maxHeartbeats 2000000 in
theorem back1_in (F : Fence) (n : Nat) (hF : F.fn 58) (hro : F.round = none) (hn : 1 ≤ n) (l Bs n₀ : Nat) (A : Option Addr) (cap : Nat) (wl : List Blk) (w : World) (hC : ∀ wr, Below n₀ w wr → Kd.C k39 wr A wl.length wl) (hlen : (wl.length : Int) ≤ 9223372036854775807) (hbs : Bs < n₀)
    (J Jx : List (Int × Blk) → World → Prop)
    (hY : ∀ pre x W, J pre W → pre.length < wl.length → YieldAt F (n - 1) Tryd.prog l #[.int .i64 x.1, .agg #[.int .u32 x.2.f0, .string x.2.f1]] W fun e W' =>
      (e = .returned (.bool true) ∧ J (pre ++ [x]) W' ∧ Below n₀ W W') ∨ (e = .returned (.bool false) ∧ Jx (pre ++ [x]) W'))
    (W : World) (hW : Below n₀ w W) (hBs0 : w.cell? ⟨Bs, 0, none⟩ = some (.slice A wl.length cap)) (h0 : J [] W) :
    CallsIn F n Tryd.prog 58 #[.func (.yield l) #[] #[], .pointer (some ⟨Bs, 0, none⟩)] W fun e W' => (∃ v, e = .returned v) ∧
      ((∃ ys, ys = uptoB (backAt wl) wl.length ∧ J ys W') ∨ (∃ pre, (∃ k, k ≤ wl.length ∧ pre = uptoB (backAt wl) k) ∧ Jx pre W')) := by
  refine callsIn_of_wp Tryd.func58 rfl hF ?_ hro
  simp only [Tryd.ntmps58, List.size_toArray, List.length_cons, List.length_nil, Nat.reduceAdd, Nat.reduceSub, Array.replicate_succ, Array.replicate_zero, List.push_toArray, List.append_toArray, List.nil_append, List.cons_append]
  have hw0 : IntKind.i64.wrap ((wl.length : Int) - 1) = (wl.length : Int) - 1 := by rw [IntKind.wrap_i64]; omega
  have hBs : W.cell? ⟨Bs, 0, none⟩ = some (.slice A wl.length cap) := (hW.cell (p := ⟨Bs, 0, none⟩) hbs).trans hBs0
  gi_wp2
  gi_loopw [3] (fun i wr => ∃ (k : Nat) (z : Int), k ≤ wl.length ∧ i = .int .i64 z ∧ z = (wl.length : Int) - 1 - k ∧ J (uptoB (backAt wl) k) wr ∧ Below n₀ w wr)
    (fun i _ => (intOf i + 1).toNat)
  case atStart => exact ⟨0, _, Nat.zero_le _, rfl, by omega, h0, hW⟩
  case round =>
    obtain ⟨k, z, hk, rfl, hz, hJs, hnx⟩ := hrel
    have hcB : wr.cell? ⟨Bs, 0, none⟩ = some (.slice A wl.length cap) := (hnx.cell (p := ⟨Bs, 0, none⟩) hbs).trans hBs0
    by_cases hlt : k < wl.length
    · obtain ⟨fn, tmps, assign, body, hy, hR⟩ := hY _ (backAt wl k) wr hJs (by rw [uptoB_length]; exact hlt)
      unfold backAt at hy
      rw [← hz] at hy
      obtain ⟨m, rfl⟩ : ∃ m : Nat, z = (m : Int) := ⟨z.toNat, by omega⟩
      have hm0 : (0 : Int) ≤ (m : Int) := by omega
      have hm1 : (m : Int) < (wl.length : Int) := by omega
      obtain ⟨ad, hA, c0, c1⟩ := at_T39 (hC wr hnx) (m : Int) hm0 hm1
      subst hA
      rw [Int.toNat_natCast] at c0 c1
      have hge : decide ((0 : Int) ≤ (m : Int)) = true := decide_eq_true hm0
      have hw1 : IntKind.i64.wrap ((m : Int) - 1) = (m : Int) - 1 := by rw [IntKind.wrap_i64]; omega
      dsimp only at hy
      have Hz := Aside0.mk hz
      have Hlt := Aside0.mk hlt
      have Hk := Aside0.mk hk
      clear hz hlt hk
      gi_wp2
      refine hR.mono ?_
      rintro e W3 (⟨rfl, hJ3, hk3⟩ | ⟨rfl, hJx3⟩)
      · gi_wp2
        go_roundw
        case rel => exact ⟨k + 1, (m : Int) - 1, by have := Hlt.out; omega, rfl, by have := Hz.out; omega, by rw [uptoB_succ]; exact hJ3, hnx.trans hk3⟩
        case measure => simp [intOf]
      · gi_wp2
        refine bodyPost_ret (results_none rfl _ _ _) rfl ?_
        exact ⟨⟨_, rfl⟩, .inr ⟨_, ⟨k + 1, by have := Hlt.out; omega, (uptoB_succ _ _).symm⟩, hJx3⟩⟩
    · obtain rfl : k = wl.length := by omega
      have hge : decide ((0 : Int) ≤ z) = false := decide_eq_false (by omega)
      have hneg : z < 0 := by omega
      gi_wp2
      go_end0
      exact ⟨⟨_, rfl⟩, .inl ⟨_, rfl, hJs⟩⟩
theorem uptoB_take (wl : List Blk) : uptoB (backAt wl) wl.length = uptoB (backAt wl) wl.length := rfl
theorem back_stops (F : Fence) (n : Nat) (hF : F.fn 58) (hro : F.round = none) (hn : 1 ≤ n) (Bs : Nat) (A : Option Addr) (cap : Nat) (wl : List Blk) (w : World) (hC : Kd.C k39 w A wl.length wl) (hlen : (wl.length : Int) ≤ 9223372036854775807)
    (hBs : w.cell? ⟨Bs, 0, none⟩ = some (.slice A wl.length cap)) :
    SeqStopsK F n Tryd.prog 58 #[.pointer (some ⟨Bs, 0, none⟩)] (fun x : Int × Blk => #[Value.int .i64 x.1, Value.agg #[.int .u32 x.2.f0, .string x.2.f1]]) (Below w.heap.size) (fun ys => ys = uptoB (backAt wl) wl.length) (fun pre => ∃ k, k ≤ wl.length ∧ pre = uptoB (backAt wl) k) wl.length w := fun l J Jx W hW _ _ hY h0 =>
  have hlt : Bs < w.heap.size := World.block_lt_of_cell? w ⟨Bs, 0, none⟩ hBs
  back1_in F n hF hro hn l Bs w.heap.size A cap wl w (fun wr h => Kd.C_below hC h) hlen hlt J Jx hY W hW hBs h0
end Go.Proofs.YtcphflfjhkeooaaDoor.Z
end

section
/- (*drive).read: the reads are counted; the last write that waits, or what the medium has. -/
namespace Go.Proofs.YtcphflfjhkeooaaDoor.Z
open Go.RowKit Go.Shelf Go.Proofs.YtcphflfjhkeooaaDoorW.PrintWords Go.Proofs.YtcphflfjhkeooaaDoorW.PrintLast Go.Proofs.YtcphflfjhkeooaaDoorW.PrintMore
set_option linter.unusedVariables false
set_option linter.unusedSimpArgs false
set_option maxRecDepth 100000 in
theorem add64_calls (a : Addr) (n : Int) (w : World) (hc : w.cell? a = some (.int .u64 n)) (hz : w.frozen? a = false) :
    Calls Tryd.prog 57 #[.pointer (some a), .int .u64 1] w fun e w' => (∃ v, e = .returned v) ∧ w' = w.setCell a (.int .u64 (IntKind.u64.wrap (n + 1))) := by
  have hl := run_call_add (P := Tryd.prog) Tryd.func64 (by kernel_rfl) (by kernel_rfl) (by kernel_rfl) .u64 (by kernel_rfl) (y := 1) (s := IntKind.u64.wrap (n + 1)) hc hz (by simp [Op.intArith])
  go_enter Tryd.func57, Tryd.ntmps57
  go_wp2
  go_ret
  exact ⟨⟨_, rfl⟩, rfl⟩
set_option maxRecDepth 100000 in
theorem meter_calls (g : Nat) (s : Int) (vB vW : Value) (d : Bool) (f n : Int) (w : World) (hb : w.heap[g]? = some (drv s vB vW d f n)) :
    Calls Tryd.prog 44 #[.pointer (some ⟨g, 5, none⟩), .int .i64 1] w fun e w' => ∃ n', (∃ v, e = .returned v) ∧ Step g w w' (drv s vB vW d f n') := by
  have q5 : w.cell? ⟨g, 5, none⟩ = some (.int .u64 n) := (blk_cell hb 5).trans rfl
  have f5 : w.frozen? ⟨g, 5, none⟩ = false := blk_frozen hb 5
  have HS : Aside0 (Step g w (w.setCell ⟨g, 5, none⟩ (.int .u64 (IntKind.u64.wrap (n + 1)))) (drv s vB vW d f (IntKind.u64.wrap (n + 1)))) := ⟨(Step.refl hb).set 5 _ rfl⟩
  clear hb
  go_enter Tryd.func44, Tryd.ntmps44
  go_wp2_with (go_at_call 57; refine (add64_calls ⟨g, 5, none⟩ n _ q5 f5).mono ?_; rintro e w' ⟨⟨v, rfl⟩, rfl⟩)
  go_ret
  exact ⟨_, ⟨_, rfl⟩, HS.out⟩
set_option maxRecDepth 100000 in
theorem backward_calls (A : Option Addr) (n c : Nat) (w : World) :
    Calls Tryd.prog 45 #[.slice A n c] w fun e w' => e = .returned (.func (.func 58) #[] #[.pointer (some ⟨w.heap.size, 0, none⟩)]) ∧ w' = w.alloc (.cells #[.slice A n c] 23 (0, 0)) := by
  have hmf_ : ∀ (fn : Fn) (first cap : Array Value) (w : World), (Instr.makeFunc fn first cap).run Tryd.prog w = .ok (.func fn first cap) w := fun _ _ _ _ => rfl
  go_enter Tryd.func45, Tryd.ntmps45
  go_wp2
  go_ret
  exact ⟨rfl, rfl⟩
set_option maxRecDepth 100000 in
theorem placeC_calls (k : Nat) (g : Nat) (s : Int) (A : Option Addr) (c : Nat) (vW : Value) (d : Bool) (f n : Int) (bl : List Blk) (num r1 : Int) (r2 : Bool) (w : World) (hb : w.heap[g]? = some (drv s (.slice A bl.length c) vW d f n)) (hC : Kd.C k39 w A bl.length bl) (hc : bl.length ≤ c)
    (h : slices_BinarySearchFunc_api_Block_api_Block_uint32_fn53.f k bl num = some (r1, r2)) :
    Calls Tryd.prog 41 #[.pointer (some ⟨g, 0, none⟩), .int .u32 num] w fun e w' => e = .returned (.tuple #[.int .i64 r1, .bool r2]) ∧ Below w.heap.size w w' := by
  have q1 : w.cell? ⟨g, 1, none⟩ = some (.slice A bl.length c) := (blk_cell hb 1).trans rfl
  have HC := Aside0.mk hC
  have H := Aside0.mk h
  have HL := Aside0.mk hc
  clear hC h hc hb
  go_enter Tryd.func41, Tryd.ntmps41
  go_wp2_with (go_at_call 52; refine (slices_BinarySearchFunc_api_Block_api_Block_uint32_fn53.calls k A c bl num r1 r2 _ HC.out HL.out H.out).mono ?_; rintro e w1 ⟨rfl, h1⟩; have HB1 := Aside0.mk h1; clear h1)
  go_ret2
  exact ⟨rfl, HB1.out⟩
def lastOf (wl : List Blk) (num : Int) : Option ByteArray := ((uptoB (backAt wl) wl.length).find? (fun p => p.2.f0 == num)).map (fun p => p.2.f1)
def readF (k : Nat) (bl wl : List Blk) (num : Int) : Option ByteArray :=
  match lastOf wl num with
  | some s => some s
  | none => (slices_BinarySearchFunc_api_Block_api_Block_uint32_fn53.f k bl num).bind fun p => if p.2 = true then (if 0 ≤ p.1 ∧ p.1 < (bl.length : Int) then some (rd_T39 bl p.1).f1 else none) else some ⟨#[]⟩
theorem readF_mono : ∀ a0 a1 a2 k, LeO (readF k a0 a1 a2) (readF (k + 1) a0 a1 a2) := by
  intro a0 a1 a2 k
  unfold readF
  split
  · exact LeO.refl _
  · exact LeO.bind (slices_BinarySearchFunc_api_Block_api_Block_uint32_fn53.mono _ _ _) (fun _ => LeO.refl _)
def Has (W : World) (B : Nat) (t : TypeId) (cs : Array Value) : Prop := W.heap[B]? = some (.cells cs t (0, 0))
theorem Has.lt {W : World} {B : Nat} {t : TypeId} {cs : Array Value} (h : Has W B t cs) : B < W.heap.size := (Array.getElem?_eq_some_iff.1 h).1
theorem Has.kept {W W' : World} {row : Option Nat} {B : Nat} {t : TypeId} {cs : Array Value} (h : Has W B t cs) (hg : W.grownBy W' row) (hne : some B ≠ row) : Has W' B t cs := (hg.block B h.lt hne).trans h
theorem Has.alloc {W : World} {B : Nat} {t : TypeId} {cs : Array Value} (h : Has W B t cs) (o : Obj) : Has (W.alloc o) B t cs := blk_alloc h o
theorem has_own {β : Type} (B : Nat) (t : TypeId) (cs : Array Value) : Go.Own (fun (_ : β) W => Has W B t cs) := fun s X Y row hs hg hrow =>
  hs.kept hg (fun e' => by obtain ⟨o, ho, hc⟩ := hrow B e'.symm; rw [show X.heap[B]? = _ from hs] at ho; cases ho; cases hc)
theorem Has.set {W : World} {B : Nat} {t : TypeId} {cs : Array Value} (h : Has W B t cs) (j : Nat) (u : Value) : Has (W.setCell ⟨B, j, none⟩ u) B t (cs.setIfInBounds j u) := blk_set h j u
theorem Has.far {W : World} {B : Nat} {t : TypeId} {cs : Array Value} (h : Has W B t cs) {B' : Nat} (hne : B ≠ B') (j : Nat) (u : Value) : Has (W.setCell ⟨B', j, none⟩ u) B t cs := (Below.heap_setCell W ⟨B', j, none⟩ u B hne).trans h
theorem uptoB_split {α : Type} (f : Nat → α) {q n : Nat} (h : q ≤ n) : ∃ rest, uptoB f n = uptoB f q ++ rest := by
  obtain ⟨m, rfl⟩ : ∃ m, n = q + m := ⟨n - q, by omega⟩
  clear h
  induction m with
  | zero => exact ⟨[], by simp⟩
  | succ m ih =>
    obtain ⟨rest, hr⟩ := ih
    exact ⟨rest ++ [f (q + m)], by rw [← Nat.add_assoc, uptoB_succ, hr, List.append_assoc]⟩
attribute [local go_sem] Oper.semAt_some
set_option maxRecDepth 100000 in
set_option maxHeartbeats 4000000 in
theorem read_in (F : Fence) (hF : F = Fence.wide) (n : Nat) (hn : n = 6) (k : Nat) (g : Nat) (s : Int) (A1 : Option Addr) (c1 : Nat) (bl : List Blk) (A2 : Option Addr) (c2 : Nat) (wl : List Blk) (d : Bool) (f m : Int) (num : Int) (r : ByteArray) (w0 w : World)
    (hB : Below w0.heap.size w0 w) (hg : w0.heap.size ≤ g) (hb : w.heap[g]? = some (drv s (.slice A1 bl.length c1) (.slice A2 wl.length c2) d f m)) (hC1 : Kd.C k39 w0 A1 bl.length bl) (hc1 : bl.length ≤ c1) (hC2 : Kd.C k39 w0 A2 wl.length wl) (hc2 : wl.length ≤ c2)
    (h : readF k bl wl num = some r) :
    CallsIn F n Tryd.prog 33 #[.pointer (some ⟨g, 0, none⟩), .int .u32 num] w fun e w' => e = .returned (.string r) ∧ Below w0.heap.size w0 w' := by
  subst hF
  have hro : (Fence.wide).round = none := rfl
  have h1 : 1 ≤ n := by omega
  have hlen : (wl.length : Int) ≤ 9223372036854775807 := by have := Kd.C_max hC2; omega
  refine callsIn_of_wp_marks Tryd.func33 rfl trivial ?_ hro
  simp only [Tryd.ntmps33, List.size_toArray, List.length_cons, List.length_nil, Nat.reduceAdd, Nat.reduceSub, Array.replicate_succ, Array.replicate_zero, List.push_toArray, List.append_toArray, List.nil_append, List.cons_append]
  have HBg := Aside0.mk hb
  clear hb
  gi_wp2_with (first
    | (refine ⟨trivial, ?_⟩; gi_at_call 44; refine (callsIn_wide.2 (meter_calls g s _ _ d f m _ (blk_alloc (blk_alloc HBg.out _) _))).mono ?_; rintro e w1 ⟨m', ⟨v, rfl⟩, h1⟩; have S1 := Aside0.mk h1; have q2 : w1.cell? ⟨g, 2, none⟩ = some (.slice A2 wl.length c2) := (blk_cell h1.1 2).trans rfl; clear h1)
    | (refine ⟨trivial, ?_⟩; gi_at_call 45; refine (callsIn_wide.2 (backward_calls A2 wl.length c2 _)).mono ?_; rintro e w2 ⟨rfl, rfl⟩))
  have hgw : g < w.heap.size := blk_lt HBg.out
  have hk : ∀ i, i < w.heap.size + 1 + 1 → i ≠ g → w1.heap[i]? = ((w.alloc (.cells #[.int .u32 num] 22)).alloc (.cells #[.string { data := #[] }] 9)).heap[i]? := fun i hi hne => S1.out.2.1.2 i (by simp; omega) hne (by simp)
  have hN1 : Has w1 w.heap.size 22 #[.int .u32 num] := (hk _ (by omega) (by omega)).trans (blk_alloc (blk_new w _) _)
  have hR1 : Has w1 (w.heap.size + 1) 9 #[.string ⟨#[]⟩] := (hk _ (by omega) (by omega)).trans (by have := blk_new (w.alloc (.cells #[.int .u32 num] 22)) (.cells #[.string { data := #[] }] 9); rwa [World.size_alloc] at this)
  have hD1 : Has w1 g 60 #[.int .u32 s, .slice A1 bl.length c1, .slice A2 wl.length c2, .bool d, .int .i64 f, .int .u64 m'] := S1.out.1
  have hB1 : Below w0.heap.size w0 w1 := (((hB.alloc hB.size _).alloc (by simp; have := hB.size; omega) _)).trans (S1.out.2.2 _ hg)
  have hsz1 : w.heap.size + 1 + 1 ≤ w1.heap.size := by have := S1.out.2.1.1; simpa using this
  have bX := blk_new w1 (.cells #[.slice A2 wl.length c2] 23)
  have hsz0 : (w1.alloc (.cells #[.slice A2 wl.length c2] 23)).heap.size = w1.heap.size + 1 := by simp
  have hN0 := hN1.alloc (.cells #[.slice A2 wl.length c2] 23)
  have hR0 := hR1.alloc (.cells #[.slice A2 wl.length c2] 23)
  have hD0 := hD1.alloc (.cells #[.slice A2 wl.length c2] 23)
  have hB0 := hB1.alloc hB1.size (.cells #[.slice A2 wl.length c2] 23)
  clear hk q2 S1
  obtain ⟨W0, hW0⟩ : ∃ W0, w1.alloc (.cells #[.slice A2 wl.length c2] 23) = W0 := ⟨_, rfl⟩
  rw [hW0] at bX hsz0 hN0 hR0 hD0 hB0 ⊢
  clear hW0
  have hw0 : w0.heap.size ≤ w.heap.size := hB.size
  refine wpIn_rangeFunc_ownH hro h1 (gf := 58) (lb := #[.pointer (some ⟨w1.heap.size, 0, none⟩)]) rfl trivial (enters_of Tryd.func58 (by kernel_rfl) rfl)
    (back_stops Fence.wide (n - 1) trivial hro (by omega) w1.heap.size A2 c2 wl W0 (Kd.C_below hC2 hB0) hlen ((blk_cell bX 0).trans rfl)) belowK_t (belowK_b (Nat.le_refl _)) (Below.refl _ _) (fun _ => rfl)
    (fun pre W => (((Has W w.heap.size 22 #[.int .u32 num] ∧ Has W (w.heap.size + 1) 9 #[.string ⟨#[]⟩]) ∧ Has W g 60 #[.int .u32 s, .slice A1 bl.length c1, .slice A2 wl.length c2, .bool d, .int .i64 f, .int .u64 m']) ∧ (∀ p ∈ pre, p.2.f0 ≠ num)) ∧ Below W0.heap.size W0 W)
    (fun c pre W => (c = .ret ∧ ∃ ini last, pre = ini ++ [last] ∧ (∀ p ∈ ini, p.2.f0 ≠ num) ∧ last.2.f0 = num ∧ Has W (w.heap.size + 1) 9 #[.string last.2.f1]) ∧ Below w0.heap.size w0 W)
    (OwnFrom.and (OwnFrom.and (OwnFrom.and (OwnFrom.and (Own.from (has_own _ _ _) _) (Own.from (has_own _ _ _) _)) (Own.from (has_own _ _ _) _)) (ownFrom_pure _ _)) (ownFrom_below (Nat.le_refl _) (Nat.le_refl _)))
    (fun c => OwnFrom.and (Own.from (fun sx A B row hs hgr hr => by obtain ⟨hc, ini, last, e1, e2, e3, e4⟩ := hs; exact ⟨hc, ini, last, e1, e2, e3, has_own (β := Unit) _ _ _ () A B row e4 hgr hr⟩) _) (ownFrom_below (Nat.le_refl _) (by omega)))
    ⟨⟨⟨⟨hN0, hR0⟩, hD0⟩, by simp⟩, Below.refl _ _⟩
    (fun x a' W => ∃ Bx, w.heap.size + 1 < Bx ∧ Has W Bx 39 #[.int .u32 x.2.f0, .string x.2.f1] ∧ a' = { tmps := #[.pointer (some ⟨g, 0, none⟩), .int .u32 num, undef, .pointer (some ⟨w.heap.size, 0, none⟩), .pointer (some ⟨w.heap.size + 1, 0, none⟩), undef, .pointer (some ⟨Bx, 0, none⟩), undef, undef, .pointer (some ⟨g, 0, none⟩), .pointer (some ⟨g, 0, none⟩), .pointer (some ⟨g, 5, none⟩), v, .pointer (some ⟨g, 0, none⟩), .pointer (some ⟨g, 0, none⟩), .pointer (some ⟨g, 0, none⟩), .pointer (some ⟨g, 2, none⟩), .slice A2 wl.length c2, .func (.func 58) #[] #[.pointer (some ⟨w1.heap.size, 0, none⟩)], .int .i64 x.1, .agg #[.int .u32 x.2.f0, .string x.2.f1], undef, undef, undef, undef, undef, undef, undef, undef, undef, undef, undef, undef, undef, undef, undef, undef, undef, undef, undef, undef, undef, undef], defers := [] })
    (fun x a' _ X Y row hs hgr hr => by obtain ⟨Bx, q1, q2, q3⟩ := hs; exact ⟨Bx, q1, has_own (β := Unit) Bx _ _ () X Y row q2 hgr (fun r e => (hr r e).2), q3⟩)
    ?assign ?body ?done ?stop
  case assign =>
    rintro l pre x W K ⟨⟨⟨⟨hN, hR⟩, hD⟩, hp⟩, hBW⟩ hK
    gi_wp2
    exact hK _ _ ((KeepsOthers.alloc _ _).from _) ((Below.refl _ W).alloc hBW.size _) ⟨⟨⟨⟨hN.alloc _, hR.alloc _⟩, hD.alloc _⟩, hp⟩, hBW.alloc hBW.size _⟩ ⟨W.heap.size, hR.lt, blk_new W _, rfl⟩
  case body =>
    rintro l pre x a' W hl ⟨rr, hr⟩ ⟨⟨⟨⟨hN, hR⟩, hD⟩, hp⟩, hBW⟩ ⟨Bx, hBx, hX, rfl⟩ hlt
    have cN : W.cell? ⟨w.heap.size, 0, none⟩ = some (.int .u32 num) := (blk_cell hN 0).trans rfl
    have cR : W.cell? ⟨w.heap.size + 1, 0, none⟩ = some (.string ⟨#[]⟩) := (blk_cell hR 0).trans rfl
    have fR : W.frozen? ⟨w.heap.size + 1, 0, none⟩ = false := blk_frozen hR 0
    have x0 : W.cell? ⟨Bx, 0, none⟩ = some (.int .u32 x.2.f0) := (blk_cell hX 0).trans rfl
    have x1 : W.cell? ⟨Bx, 1, none⟩ = some (.string x.2.f1) := (blk_cell hX 1).trans rfl
    have Bel := Aside0.mk hBW
    clear hBW
    by_cases hx : x.2.f0 = num
    · have hxb : (x.2.f0 == num) = true := beq_iff_eq.mpr hx
      have HX := Aside0.mk hx
      clear hx
      gi_wp2
      exact ⟨(KeepsOthers.setCell _ _ _).from _, ⟨rfl, pre, x, rfl, hp, HX.out, hR.set 0 (.string x.2.f1)⟩, (hB0.trans (Bel.out.mono hB0.size)).setCell (p := ⟨w.heap.size + 1, 0, none⟩) (by simp; omega) _⟩
    · have hxb : (x.2.f0 == num) = false := beq_eq_false_iff_ne.mpr hx
      have HX := Aside0.mk hx
      clear hx
      gi_wp2
      exact ⟨KeepsFrom.refl _ _, Below.refl _ _, ⟨⟨⟨hN, hR⟩, hD⟩, fun p hp' => (List.mem_append.1 hp').elim (hp p) (fun e => by simp at e; subst e; exact HX.out)⟩, Bel.out⟩
  case done =>
    rintro D ys W hD rfl ⟨⟨⟨⟨hN, hR⟩, hDr⟩, hp⟩, hBW⟩ hK
    have hl : lastOf wl num = none := by
      unfold lastOf
      rw [List.find?_eq_none.2 (fun p hp' => by simpa using hp p hp')]
      rfl
    have hBW0 : Below w0.heap.size w0 W := hB0.trans (hBW.mono hB0.size)
    have C1 := Kd.C_below hC1 hBW0
    unfold readF at h
    rw [hl] at h
    replace h := Option.bind_eq_some_iff.mp h
    obtain ⟨⟨i, is⟩, hs, h⟩ := h
    have cN : W.cell? ⟨w.heap.size, 0, none⟩ = some (.int .u32 num) := (blk_cell hN 0).trans rfl
    have Bel := Aside0.mk hBW0
    have HR := Aside0.mk hR
    have HD := Aside0.mk hDr
    have HK := Aside0.mk hK
    have HC := Aside0.mk C1
    have HS := Aside0.mk hs
    clear hBW0 hBW hR hDr hK C1 hs hl hp hN
    cases is with
    | true =>
      replace h : (if 0 ≤ i ∧ i < (bl.length : Int) then some (rd_T39 bl i).f1 else none) = some r := h
      split at h
      case isFalse => cases h
      case isTrue hir =>
      obtain rfl := Option.some.inj h
      obtain ⟨j, rfl⟩ : ∃ j : Nat, i = j := ⟨i.toNat, (Int.toNat_of_nonneg hir.1).symm⟩
      have hi0 : (0 : Int) ≤ (j : Int) := hir.1
      have hi1 : (j : Int) < (bl.length : Int) := hir.2
      obtain ⟨ad, hA, _, _⟩ := at_T39 HC.out (j : Int) hi0 hi1
      subst hA
      clear h hir
      gi_wp2_with (refine ⟨trivial, ?_⟩; gi_at_call 41; refine (callsIn_wide.2 (placeC_calls k g s (some ad) c1 _ d f m' bl num (j : Int) true _ HD.out HC.out hc1 HS.out)).mono ?_; rintro e w3 ⟨rfl, h3⟩; have q1 : w3.cell? ⟨g, 1, none⟩ = some (.slice (some ad) bl.length c1) := (blk_cell (blk_below HD.out h3) 1).trans rfl; have R3 := Aside0.mk (show Has w3 (w.heap.size + 1) 9 #[.string ⟨#[]⟩] from blk_below HR.out h3); have r0 : w3.cell? ⟨w.heap.size + 1, 0, none⟩ = some (.string ⟨#[]⟩) := (blk_cell R3.out 0).trans rfl; have fr0 : w3.frozen? ⟨w.heap.size + 1, 0, none⟩ = false := blk_frozen R3.out 0; obtain ⟨ad', hA, _, k1⟩ := at_T39 (Kd.C_below HC.out h3) (j : Int) hi0 hi1; cases hA; rw [Int.toNat_natCast] at k1; have K3 := Aside0.mk (blk_below HK.out h3); have B3 := Aside0.mk (hB0.size); have W3 := Aside0.mk (below_then Bel.out (Below.size Bel.out) h3); clear h3 cN)
      have hK' := (KeepsOthers.setCell w3 ⟨w.heap.size + 1, 0, none⟩ (.string (rd_T39 bl (j : Int)).f1)).same D _ K3.out rfl
      refine ⟨by simp, .inl ⟨_, _, rfl, run_takeDeferred hK', ?_⟩⟩
      have hc5 := cell_kept ((blk_cell (R3.out.set 0 (.string (rd_T39 bl (j : Int)).f1)) 0).trans rfl) (grownBy_putObj' _ D (.deferred none)) (fun r e => by cases e; exact ⟨_, hK', rfl⟩)
      refine ⟨.string (rd_T39 bl (j : Int)).f1, ?_, rfl, (W3.out.setCell (p := ⟨w.heap.size + 1, 0, none⟩) (by simp; omega) _).trans (belowK_b (w := W0) hB0.size _ D _ _ hD hK' rfl rfl)⟩
      simp [results, Tryd.f33, go_sem, hc5]
    | false =>
      replace h : some (⟨#[]⟩ : ByteArray) = some r := h
      obtain rfl := Option.some.inj h
      clear h
      gi_wp2_with (refine ⟨trivial, ?_⟩; gi_at_call 41; refine (callsIn_wide.2 (placeC_calls k g s A1 c1 _ d f m' bl num i false _ HD.out HC.out hc1 HS.out)).mono ?_; rintro e w3 ⟨rfl, h3⟩; have R3 := Aside0.mk (show Has w3 (w.heap.size + 1) 9 #[.string ⟨#[]⟩] from blk_below HR.out h3); have r0 : w3.cell? ⟨w.heap.size + 1, 0, none⟩ = some (.string ⟨#[]⟩) := (blk_cell R3.out 0).trans rfl; have fr0 : w3.frozen? ⟨w.heap.size + 1, 0, none⟩ = false := blk_frozen R3.out 0; have K3 := Aside0.mk (blk_below HK.out h3); have W3 := Aside0.mk (below_then Bel.out (Below.size Bel.out) h3); clear h3 cN)
      have hK' := (KeepsOthers.setCell w3 ⟨w.heap.size + 1, 0, none⟩ (.string ⟨#[]⟩)).same D _ K3.out rfl
      refine ⟨by simp, .inl ⟨_, _, rfl, run_takeDeferred hK', ?_⟩⟩
      have hc5 := cell_kept ((blk_cell (R3.out.set 0 (.string ⟨#[]⟩)) 0).trans rfl) (grownBy_putObj' _ D (.deferred none)) (fun r e => by cases e; exact ⟨_, hK', rfl⟩)
      refine ⟨.string ⟨#[]⟩, ?_, rfl, (W3.out.setCell (p := ⟨w.heap.size + 1, 0, none⟩) (by simp; omega) _).trans (belowK_b (w := W0) hB0.size _ D _ _ hD hK' rfl rfl)⟩
      simp [results, Tryd.f33, go_sem, hc5]
  case stop =>
    rintro D c pre W hD ⟨q, hq, rfl⟩ ⟨⟨rfl, ini, last, e1, e2, e3, hR⟩, hBW⟩ hK
    have hl : lastOf wl num = some last.2.f1 := by
      unfold lastOf
      obtain ⟨rest, hr⟩ := uptoB_split (backAt wl) hq
      rw [hr, e1, List.append_assoc, List.find?_append, List.find?_eq_none.2 (fun p hp' => by simpa using e2 p hp'), List.singleton_append, List.find?_cons_of_pos (by simpa using e3)]
      rfl
    unfold readF at h
    rw [hl] at h
    obtain rfl := Option.some.inj h
    gi_wp2
    refine ⟨by simp, .inl ⟨_, _, rfl, run_takeDeferred hK, ?_⟩⟩
    have hc5 := cell_kept ((blk_cell hR 0).trans rfl) (grownBy_putObj' _ D (.deferred none)) (fun r e => by cases e; exact ⟨_, hK, rfl⟩)
    refine ⟨.string last.2.f1, ?_, rfl, hBW.trans (belowK_b (w := W0) hB0.size W D _ _ hD hK rfl rfl)⟩
    simp [results, Tryd.f33, go_sem, hc5]
theorem read_calls (k : Nat) (g : Nat) (s : Int) (A1 : Option Addr) (c1 : Nat) (bl : List Blk) (A2 : Option Addr) (c2 : Nat) (wl : List Blk) (d : Bool) (f m : Int) (num : Int) (r : ByteArray) (w0 w : World)
    (hB : Below w0.heap.size w0 w) (hg : w0.heap.size ≤ g) (hb : w.heap[g]? = some (drv s (.slice A1 bl.length c1) (.slice A2 wl.length c2) d f m)) (hC1 : Kd.C k39 w0 A1 bl.length bl) (hc1 : bl.length ≤ c1) (hC2 : Kd.C k39 w0 A2 wl.length wl) (hc2 : wl.length ≤ c2)
    (h : readF k bl wl num = some r) :
    Calls Tryd.prog 33 #[.pointer (some ⟨g, 0, none⟩), .int .u32 num] w fun e w' => e = .returned (.string r) ∧ Below w0.heap.size w0 w' :=
  (callsIn_wide (n := 6)).1 (read_in Fence.wide rfl 6 rfl k g s A1 c1 bl A2 c2 wl d f m num r w0 w hB hg hb hC1 hc1 hC2 hc2 h)
end Go.Proofs.YtcphflfjhkeooaaDoor.Z
end

section
-- Printed by a program of this session (mp.py) out of the translation.
namespace Go.Proofs.YtcphflfjhkeooaaDoor.Z
open Go.RowKit Go.Proofs.YtcphflfjhkeooaaDoorW.PrintWords Go.Proofs.YtcphflfjhkeooaaDoorW.PrintLast Go.Proofs.YtcphflfjhkeooaaDoorW.PrintMore
attribute [local go_sem] max2_int min2_int max_two min_two max_three min_three max_four min_four   -- for this text's walks alone
set_option linter.unusedVariables false
set_option linter.unusedSimpArgs false

/-! ### dev_cut: function 29 -/
def dev_cut.f (a0 : ByteArray) : Option (ByteArray) := (strings_TrimRight.f a0 (⟨#[0]⟩ : ByteArray)).bind fun t115 => (some t115)
set_option maxHeartbeats 8000000 in
set_option maxRecDepth 100000 in
theorem dev_cut.calls (a0 : ByteArray) (r : ByteArray) (w : World) (h : dev_cut.f a0 = some r) :
    Calls Tryd.prog 29 #[.string a0] w fun e w' => e = .returned (.string r) ∧ Drawn0 w w' := by
  have H : ((strings_TrimRight.f a0 (⟨#[0]⟩ : ByteArray)).bind fun t115 => (some t115)) = some r := h
  clear h
  replace H := Option.bind_eq_some_iff.mp H
  obtain ⟨t115, A20, H⟩ := H
  replace H : (some t115) = some r := H
  have A2 := Aside0.mk A20
  clear A20
  obtain rfl := Option.some.inj H
  go_enter Tryd.func29, Tryd.ntmps29
  go_wp2_with (first | ((with_reducible refine gate_callee (f := 40) rfl ?_); refine gl_ (some 4) Tryd.func40 #[.string a0, .string (⟨#[0]⟩ : ByteArray)] ?_; (with_reducible refine (strings_TrimRight.calls a0 (⟨#[0]⟩ : ByteArray) t115 _ A2.out).mono ?_); rintro e w' ⟨rfl, ⟨nd, rfl⟩⟩; refine ⟨_, rfl, ?_⟩))
  go_ret
  exact ⟨by first | rfl | (simp; done) | (simp [*]; done), by repeat (first | exact Drawn0.refl _ | apply Drawn0.step)⟩

end Go.Proofs.YtcphflfjhkeooaaDoor.Z
end

section
-- Printed by a program of this session (mp.py) out of the translation.
namespace Go.Proofs.YtcphflfjhkeooaaDoor.Z
open Go.RowKit Go.Proofs.YtcphflfjhkeooaaDoorW.PrintWords Go.Proofs.YtcphflfjhkeooaaDoorW.PrintLast Go.Proofs.YtcphflfjhkeooaaDoorW.PrintMore
attribute [local go_sem] max2_int min2_int max_two min_two max_three min_three max_four min_four   -- for this text's walks alone
set_option linter.unusedVariables false
set_option linter.unusedSimpArgs false

/-! ### dev_right: function 35 -/
def dev_right.f (a0_0 : Int) (a0_1 : ByteArray) (a1 : Int) : Option (Bool) := if a0_0 < a1 then (if (a0_1.size : Int) ≤ 512 then ((dev_cut.f a0_1).bind fun t117 => (some (t117.toList == a0_1.toList))) else (some false)) else (some false)
set_option maxHeartbeats 8000000 in
set_option maxRecDepth 100000 in
theorem dev_right.calls (a0_0 : Int) (a0_1 : ByteArray) (a1 : Int) (r : Bool) (w : World) (h : dev_right.f a0_0 a0_1 a1 = some r) :
    Calls Tryd.prog 35 #[.agg #[.int .u32 a0_0, .string a0_1], .int .u32 a1] w fun e w' => e = .returned (.bool r) ∧ Below w.heap.size w w' := by
  have hu39 := Tryd.underlying39
  have HB := Aside0.mk (Below.refl w.heap.size w)
  have H : (if a0_0 < a1 then (if (a0_1.size : Int) ≤ 512 then ((dev_cut.f a0_1).bind fun t117 => (some (t117.toList == a0_1.toList))) else (some false)) else (some false)) = some r := h
  clear h
  by_cases c3 : a0_0 < a1
  · rw [if_pos c3] at H
    have c3b0 : decide (a0_0 < a1) = true := decide_eq_true c3
    clear c3
    by_cases c4 : (a0_1.size : Int) ≤ 512
    · rw [if_pos c4] at H
      have c4b0 : decide ((a0_1.size : Int) ≤ 512) = true := decide_eq_true c4
      have c4b1 : decide (a0_1.size ≤ 512) = true := decide_eq_true (by omega)
      clear c4
      replace H := Option.bind_eq_some_iff.mp H
      obtain ⟨t117, A50, H⟩ := H
      replace H : (some (t117.toList == a0_1.toList)) = some r := H
      have A5 := Aside0.mk A50
      clear A50
      obtain rfl := Option.some.inj H
      go_enter Tryd.func35, Tryd.ntmps35
      go_wp2_with (first | ((with_reducible refine gate_dst (N := 2) rfl ?_); (try (refine gate_guard (by rfl) ?_; dsimp only)); refine bx_ (N := 2) (cs := #[.int .u32 a0_0, .string a0_1]) (t := 39) ?_; intro gb116 hg w6 hbox hb; have BK116 := Aside0.mk (hbox); have GW116 := ge_ hg; have GE116 := ge_ hg; replace HB := hb_ hb; clear hb hbox hg; obtain ⟨hcz7_0, hcz7_1⟩ := cl2_ BK116; obtain ⟨hfz7_0, hfz7_1⟩ := fz2_ BK116) | (go_at_call 29; (with_reducible refine (dev_cut.calls a0_1 t117 _ A5.out).mono ?_); rintro e w' ⟨rfl, ⟨nd, rfl⟩⟩; (try first | exact ⟨rfl, _, World.drewN_drewN _ _ _⟩ | exact ⟨rfl, _, Eq.trans (World.drewN_drewN _ _ _) (congrArg (World.drewN _) (Nat.add_assoc _ _ _))⟩)))
      repeat (go_quiet (first | ((with_reducible refine gate_dst (N := 2) rfl ?_); (try (refine gate_guard (by rfl) ?_; dsimp only)); refine bx_ (N := 2) (cs := #[.int .u32 a0_0, .string a0_1]) (t := 39) ?_; intro gb116 hg w6 hbox hb; have n0_ := Aside0.mk (below_step bel_ hb); have n1_ := Aside0.mk (hbox); have n2_ := Aside0.mk ((by rw [hg]; exact (below_size bel_) : w.heap.size ≤ gb116)); have n3_ := Aside0.mk ((by rw [hg]; exact (below_size bel_) : w.heap.size ≤ gb116)); clear HB; have HB := n0_; have BK116 := n1_; have GW116 := n2_; have GE116 := n3_; clear n0_ n1_ n2_ n3_; clear hb hbox hg; have hcz7_0 : w6.cell? ⟨gb116, 0, none⟩ = some (.int .u32 a0_0) := (blk_cell BK116.out 0).trans rfl; have hcz7_1 : w6.cell? ⟨gb116, 1, none⟩ = some (.string a0_1) := (blk_cell BK116.out 1).trans rfl; have hfz7_0 := blk_frozen BK116.out 0; have hfz7_1 := blk_frozen BK116.out 1) | (go_at_call 29; (with_reducible refine (dev_cut.calls a0_1 t117 _ A5.out).mono ?_); rintro e w' ⟨rfl, ⟨nd, rfl⟩⟩; (try first | exact ⟨rfl, _, World.drewN_drewN _ _ _⟩ | exact ⟨rfl, _, Eq.trans (World.drewN_drewN _ _ _) (congrArg (World.drewN _) (Nat.add_assoc _ _ _))⟩))); try go_wp2_with (first | ((with_reducible refine gate_dst (N := 2) rfl ?_); (try (refine gate_guard (by rfl) ?_; dsimp only)); refine bx_ (N := 2) (cs := #[.int .u32 a0_0, .string a0_1]) (t := 39) ?_; intro gb116 hg w6 hbox hb; have BK116 := Aside0.mk (hbox); have GW116 := ge_ hg; have GE116 := ge_ hg; replace HB := hb_ hb; clear hb hbox hg; obtain ⟨hcz7_0, hcz7_1⟩ := cl2_ BK116; obtain ⟨hfz7_0, hfz7_1⟩ := fz2_ BK116) | (go_at_call 29; (with_reducible refine (dev_cut.calls a0_1 t117 _ A5.out).mono ?_); rintro e w' ⟨rfl, ⟨nd, rfl⟩⟩; (try first | exact ⟨rfl, _, World.drewN_drewN _ _ _⟩ | exact ⟨rfl, _, Eq.trans (World.drewN_drewN _ _ _) (congrArg (World.drewN _) (Nat.add_assoc _ _ _))⟩))))
      go_ret
      exact ⟨by first | rfl | (simp [errW_none, errW_some] <;> rfl) | (simp [*, errW_none, errW_some] <;> rfl), bel_⟩
    · rw [if_neg c4] at H
      have c4b0 : decide ((a0_1.size : Int) ≤ 512) = false := decide_eq_false c4
      have c4b1 : decide (a0_1.size ≤ 512) = false := decide_eq_false (by omega)
      clear c4
      obtain rfl := Option.some.inj H
      go_enter Tryd.func35, Tryd.ntmps35
      go_wp2_with (first | ((with_reducible refine gate_dst (N := 2) rfl ?_); (try (refine gate_guard (by rfl) ?_; dsimp only)); refine bx_ (N := 2) (cs := #[.int .u32 a0_0, .string a0_1]) (t := 39) ?_; intro gb116 hg w8 hbox hb; have BK116 := Aside0.mk (hbox); have GW116 := ge_ hg; have GE116 := ge_ hg; replace HB := hb_ hb; clear hb hbox hg; obtain ⟨hcz9_0, hcz9_1⟩ := cl2_ BK116; obtain ⟨hfz9_0, hfz9_1⟩ := fz2_ BK116))
      repeat (go_quiet (first | ((with_reducible refine gate_dst (N := 2) rfl ?_); (try (refine gate_guard (by rfl) ?_; dsimp only)); refine bx_ (N := 2) (cs := #[.int .u32 a0_0, .string a0_1]) (t := 39) ?_; intro gb116 hg w8 hbox hb; have n0_ := Aside0.mk (below_step bel_ hb); have n1_ := Aside0.mk (hbox); have n2_ := Aside0.mk ((by rw [hg]; exact (below_size bel_) : w.heap.size ≤ gb116)); have n3_ := Aside0.mk ((by rw [hg]; exact (below_size bel_) : w.heap.size ≤ gb116)); clear HB; have HB := n0_; have BK116 := n1_; have GW116 := n2_; have GE116 := n3_; clear n0_ n1_ n2_ n3_; clear hb hbox hg; have hcz9_0 : w8.cell? ⟨gb116, 0, none⟩ = some (.int .u32 a0_0) := (blk_cell BK116.out 0).trans rfl; have hcz9_1 : w8.cell? ⟨gb116, 1, none⟩ = some (.string a0_1) := (blk_cell BK116.out 1).trans rfl; have hfz9_0 := blk_frozen BK116.out 0; have hfz9_1 := blk_frozen BK116.out 1)); try go_wp2_with (first | ((with_reducible refine gate_dst (N := 2) rfl ?_); (try (refine gate_guard (by rfl) ?_; dsimp only)); refine bx_ (N := 2) (cs := #[.int .u32 a0_0, .string a0_1]) (t := 39) ?_; intro gb116 hg w8 hbox hb; have BK116 := Aside0.mk (hbox); have GW116 := ge_ hg; have GE116 := ge_ hg; replace HB := hb_ hb; clear hb hbox hg; obtain ⟨hcz9_0, hcz9_1⟩ := cl2_ BK116; have hfz9_0 := blk_frozen BK116.out 0; have hfz9_1 := blk_frozen BK116.out 1)))
      go_ret
      exact ⟨by first | rfl | (simp [errW_none, errW_some] <;> rfl) | (simp [*, errW_none, errW_some] <;> rfl), bel_⟩
  · rw [if_neg c3] at H
    have c3b0 : decide (a0_0 < a1) = false := decide_eq_false c3
    clear c3
    obtain rfl := Option.some.inj H
    go_enter Tryd.func35, Tryd.ntmps35
    go_wp2_with (first | ((with_reducible refine gate_dst (N := 2) rfl ?_); (try (refine gate_guard (by rfl) ?_; dsimp only)); refine bx_ (N := 2) (cs := #[.int .u32 a0_0, .string a0_1]) (t := 39) ?_; intro gb116 hg w10 hbox hb; have BK116 := Aside0.mk (hbox); have GW116 := ge_ hg; have GE116 := ge_ hg; replace HB := hb_ hb; clear hb hbox hg; obtain ⟨hcz11_0, hcz11_1⟩ := cl2_ BK116; obtain ⟨hfz11_0, hfz11_1⟩ := fz2_ BK116))
    repeat (go_quiet (first | ((with_reducible refine gate_dst (N := 2) rfl ?_); (try (refine gate_guard (by rfl) ?_; dsimp only)); refine bx_ (N := 2) (cs := #[.int .u32 a0_0, .string a0_1]) (t := 39) ?_; intro gb116 hg w10 hbox hb; have n0_ := Aside0.mk (below_step bel_ hb); have n1_ := Aside0.mk (hbox); have n2_ := Aside0.mk ((by rw [hg]; exact (below_size bel_) : w.heap.size ≤ gb116)); have n3_ := Aside0.mk ((by rw [hg]; exact (below_size bel_) : w.heap.size ≤ gb116)); clear HB; have HB := n0_; have BK116 := n1_; have GW116 := n2_; have GE116 := n3_; clear n0_ n1_ n2_ n3_; clear hb hbox hg; have hcz11_0 : w10.cell? ⟨gb116, 0, none⟩ = some (.int .u32 a0_0) := (blk_cell BK116.out 0).trans rfl; have hcz11_1 : w10.cell? ⟨gb116, 1, none⟩ = some (.string a0_1) := (blk_cell BK116.out 1).trans rfl; have hfz11_0 := blk_frozen BK116.out 0; have hfz11_1 := blk_frozen BK116.out 1)); try go_wp2_with (first | ((with_reducible refine gate_dst (N := 2) rfl ?_); (try (refine gate_guard (by rfl) ?_; dsimp only)); refine bx_ (N := 2) (cs := #[.int .u32 a0_0, .string a0_1]) (t := 39) ?_; intro gb116 hg w10 hbox hb; have BK116 := Aside0.mk (hbox); have GW116 := ge_ hg; have GE116 := ge_ hg; replace HB := hb_ hb; clear hb hbox hg; obtain ⟨hcz11_0, hcz11_1⟩ := cl2_ BK116; have hfz11_0 := blk_frozen BK116.out 0; have hfz11_1 := blk_frozen BK116.out 1)))
    go_ret
    exact ⟨by first | rfl | (simp [errW_none, errW_some] <;> rfl) | (simp [*, errW_none, errW_some] <;> rfl), bel_⟩

end Go.Proofs.YtcphflfjhkeooaaDoor.Z
end

section
/- slices.ContainsFunc over blocks, asked with dev.Check's function literal. -/
namespace Go.Proofs.YtcphflfjhkeooaaDoor.Z
open Go.RowKit Go.Proofs.YtcphflfjhkeooaaDoorW.PrintWords Go.Proofs.YtcphflfjhkeooaaDoorW.PrintLast Go.Proofs.YtcphflfjhkeooaaDoorW.PrintMore
set_option linter.unusedVariables false
set_option linter.unusedSimpArgs false
/-- Is one of them not right? -/
def anyF : List S39 → Int → Option Bool
  | [], _ => some false
  | x :: r, s => (dev_right.f x.f0 x.f1 s).bind fun b => if b = true then anyF r s else some true
def slices_ContainsFunc_api_Block_api_Block.f (l0 : List S39) (s0 : Int) (l1 l2 : List S39) (s3 : Bool) (s4 : Int) : Option Bool := anyF l0 s0
def devObj (s0 : Int) (v1 v2 : Value) (s3 : Bool) (s4 : Int) : Obj := .cells #[.int .u32 s0, v1, v2, .bool s3, .int .i64 s4] 25 (0, 0)
set_option maxRecDepth 100000 in
set_option maxHeartbeats 1600000 in
theorem lit_calls (x : S39) (g : Nat) (s0 : Int) (v1 v2 : Value) (s3 : Bool) (s4 : Int) (b : Bool) (w : World) (hb : w.heap[g]? = some (devObj s0 v1 v2 s3 s4)) (h : dev_right.f x.f0 x.f1 s0 = some b) :
    Calls Tryd.prog 37 #[.agg #[.int .u32 x.f0, .string x.f1], .pointer (some ⟨g, 0, none⟩)] w fun e w' => e = .returned (.bool (!b)) ∧ Below w.heap.size w w' := by
  have H := Aside0.mk h
  have hb1 := blk_alloc hb (.cells #[.int .u32 x.f0, .string x.f1] 39)
  have hc : (w.alloc (.cells #[.int .u32 x.f0, .string x.f1] 39)).cell? ⟨g, 0, none⟩ = some (.int .u32 s0) := (blk_cell hb1 0).trans rfl
  have HB0 : Aside0 (Below w.heap.size w (w.alloc (.cells #[.int .u32 x.f0, .string x.f1] 39))) := ⟨below_alloc (Below.refl _ _) _⟩
  have hnot : ∀ (x : Bool) (w : World), (Op.unary .not (.bool x)).run Tryd.prog w = .ok (.bool (!x)) w := fun _ _ => rfl
  clear h hb1 hb
  go_enter Tryd.func37, Tryd.ntmps37
  go_wp2_with (go_at_call 35; refine (dev_right.calls x.f0 x.f1 s0 b _ H.out).mono ?_; rintro e w1 ⟨rfl, h1⟩; have HB1 := Aside0.mk h1; clear h1)
  go_ret
  exact ⟨rfl, below_step HB0.out HB1.out⟩
set_option maxRecDepth 100000 in
set_option maxHeartbeats 3200000 in
theorem index_calls (A0 : Option Addr) (c0 : Nat) (l0 : List S39) (g : Nat) (s0 : Int) (v1 v2 : Value) (s3 : Bool) (s4 : Int) (r : Bool) (w : World) (hb : w.heap[g]? = some (devObj s0 v1 v2 s3 s4)) (hr0 : Kd.C k39 w A0 l0.length l0) (hc0 : l0.length ≤ c0) (h : anyF l0 s0 = some r) :
    Calls Tryd.prog 46 #[.slice A0 l0.length c0, .func (.func 37) #[] #[.pointer (some ⟨g, 0, none⟩)]] w fun e w' => ∃ i : Int, e = .returned (.int .i64 i) ∧ Aside0 ((0 ≤ i ↔ r = true) ∧ Below w.heap.size w w') := by
  have hmx := Kd.C_max hr0
  have HR := Aside0.mk hr0
  have HB := Aside0.mk hb
  have H0 := Aside0.mk h
  unfold maxLen at hmx
  clear hr0 hb h hc0
  go_enter Tryd.func46, Tryd.ntmps46
  go_wp2
  go_loopw [8] (fun i wr => ∃ x : Int, i = .int .i64 x ∧ Aside0 (0 ≤ x ∧ x ≤ l0.length) ∧ Aside0 (Below w.heap.size w wr) ∧ Aside0 (anyF (l0.drop x.toNat) s0 = some r)) (fun i _ => l0.length - (intOf i).toNat)
  case atStart => exact ⟨0, rfl, ⟨by omega⟩, ⟨Below.refl _ _⟩, ⟨H0.out⟩⟩
  case round =>
    obtain ⟨x, rfl, HX, HBW, HF⟩ := hrel
    obtain ⟨hx0, hx1⟩ := HX.out
    by_cases hlt : x < l0.length
    · obtain ⟨ad, hA, q0, q1⟩ := at_T39 HR.out x hx0 hlt
      subst hA
      replace q0 := (HBW.out.cell (World.block_lt_of_cell? w _ q0)).trans q0
      replace q1 := (HBW.out.cell (World.block_lt_of_cell? w _ q1)).trans q1
      have hlt2 : decide (x < (l0.length : Int)) = true := decide_eq_true hlt
      have p0 := eq_true hx0
      have p1 := eq_true hlt
      obtain ⟨e, he⟩ : ∃ e, e = rd_T39 l0 x := ⟨_, rfl⟩
      have hd : l0.drop x.toNat = e :: l0.drop (x + 1).toNat := by
        have hl : x.toNat < l0.length := by omega
        rw [List.drop_eq_getElem_cons hl, he, show (x + 1).toNat = x.toNat + 1 by omega]
        congr 1
        unfold rd_T39
        rw [List.getD_eq_getElem?_getD, List.getElem?_eq_getElem hl]
        rfl
      have hF := HF.out
      rw [hd, anyF] at hF
      obtain ⟨b, hb, hF⟩ := Option.bind_eq_some_iff.mp hF
      rw [← he] at q0 q1
      have HW : Aside0 (wr.heap[g]? = some (devObj s0 v1 v2 s3 s4)) := ⟨blk_below HB.out HBW.out⟩
      have HC := Aside0.mk hb
      clear hb hd hx0 hx1 hlt he
      cases b with
      | true =>
        rw [if_pos rfl] at hF
        have HG := Aside0.mk hF
        clear hF
        go_wp2_with (go_at_call 37; refine (lit_calls e g s0 v1 v2 s3 s4 true _ HW.out HC.out).mono ?_; rintro e_ w1 ⟨rfl, h1⟩; have HB1 := Aside0.mk h1; clear h1)
        have hx := HX.out
        have hl : x < l0.length := of_eq_true p1
        have ew : wrap64 (x + 1) = x + 1 := by unfold wrap64; omega
        refine ⟨⟨x + 1, by rw [ew], ⟨by omega⟩, ⟨below_step HBW.out HB1.out⟩, HG⟩, ?_⟩
        rw [ew]
        simp only [intOf]
        omega
      | false =>
        rw [if_neg (by decide)] at hF
        have HG := Aside0.mk hF
        clear hF
        go_wp2_with (go_at_call 37; refine (lit_calls e g s0 v1 v2 s3 s4 false _ HW.out HC.out).mono ?_; rintro e_ w1 ⟨rfl, h1⟩; have HB1 := Aside0.mk h1; clear h1)
        go_ret
        have hr := Option.some.inj HG.out
        have hx := HX.out
        exact ⟨x, rfl, ⟨⟨fun _ => hr.symm, fun _ => hx.1⟩, below_step HBW.out HB1.out⟩⟩
    · have hge : decide (x < (l0.length : Int)) = false := decide_eq_false hlt
      go_wp2
      go_ret
      have hF := HF.out
      rw [List.drop_eq_nil_of_le (by omega), anyF] at hF
      have hr := Option.some.inj hF
      refine ⟨-1, rfl, ⟨⟨fun h => absurd h (by decide), fun h => ?_⟩, HBW.out⟩⟩
      rw [← hr] at h
      cases h
set_option maxRecDepth 100000 in
theorem slices_ContainsFunc_api_Block_api_Block.calls (A0 : Option Addr) (c0 : Nat) (l0 : List S39) (g : Nat) (s0 : Int) (l1 l2 : List S39) (s3 : Bool) (s4 : Int) (r : Bool) (w : World)
    (hI : ∃ A1 c1 A2 c2, w.heap[g]? = some (.cells #[.int .u32 s0, .slice A1 l1.length c1, .slice A2 l2.length c2, .bool s3, .int .i64 s4] 25 (0, 0))) (hr0 : Kd.C k39 w A0 l0.length l0) (hc0 : l0.length ≤ c0)
    (h : slices_ContainsFunc_api_Block_api_Block.f l0 s0 l1 l2 s3 s4 = some r) :
    Calls Tryd.prog 36 #[.slice A0 l0.length c0, .func (.func 37) #[] #[.pointer (some ⟨g, 0, none⟩)]] w fun e w' => e = .returned (.bool r) ∧ Below w.heap.size w w' := by
  obtain ⟨A1, c1, A2, c2, hb⟩ := hI
  have HC := Aside0.mk (index_calls A0 c0 l0 g s0 (.slice A1 l1.length c1) (.slice A2 l2.length c2) s3 s4 r w hb hr0 hc0 h)
  clear hb hr0 h hc0
  go_enter Tryd.func36, Tryd.ntmps36
  go_wp2_with (go_at_call 46; refine HC.out.mono ?_; rintro e_ w1 ⟨i, rfl, HI⟩)
  go_ret
  have hi := HI.out
  have hE : decide (0 ≤ i) = r := by rw [Bool.eq_iff_iff, decide_eq_true_eq]; exact hi.1
  exact ⟨congrArg (fun b => Ending.returned (.bool b)) hE, hi.2⟩
end Go.Proofs.YtcphflfjhkeooaaDoor.Z
end

section
-- Printed by a program of this session (mp.py) out of the translation.
namespace Go.Proofs.YtcphflfjhkeooaaDoor.Z
open Go.RowKit Go.Proofs.YtcphflfjhkeooaaDoorW.PrintWords Go.Proofs.YtcphflfjhkeooaaDoorW.PrintLast Go.Proofs.YtcphflfjhkeooaaDoorW.PrintMore
attribute [local go_sem] max2_int min2_int max_two min_two max_three min_three max_four min_four   -- for this text's walks alone
set_option linter.unusedVariables false
set_option linter.unusedSimpArgs false

/-! ### dev_Check: function 21 -/
mutual
def dev_Check.j0 : Nat → Bool → Int → List (S39) → List (S39) → Bool → Int → Option (Int)
  | 0, _, _, _, _, _, _ => none
  | k + 1, x3, x120000, x120001, x120002, x120003, x120004 => dev_Check.l0 k x3 x120001 (x120001.length : Int) 0 x120000 x120001 x120002 x120003 x120004
def dev_Check.l0 : Nat → Bool → List (S39) → Int → Int → Int → List (S39) → List (S39) → Bool → Int → Option (Int)
  | 0, _, _, _, _, _, _, _, _, _ => none
  | k + 1, x3, x21, x22, x23, x120000, x120001, x120002, x120003, x120004 => if x23 < x22 then (if 0 ≤ x23 then (if x23 < (x21.length : Int) then (if x3 = true then ((dev_right.f ((rd_T39 x21 x23).f0) ((rd_T39 x21 x23).f1) x120000).bind fun t122 => (if t122 = true then (if ((rd_T39 x21 x23).f1).toList = ([] : List UInt8) then (dev_Check.l0 k false x21 x22 (wrap64 (x23 + 1)) x120000 x120001 x120002 x120003 x120004) else (if x23 = 0 then (dev_Check.l0 k true x21 x22 (wrap64 (x23 + 1)) x120000 x120001 x120002 x120003 x120004) else (if 0 ≤ (wrap64 (x23 - 1)) then (if (wrap64 (x23 - 1)) < (x120001.length : Int) then (dev_Check.l0 k (decide (((rd_T39 x120001 (wrap64 (x23 - 1))).f0) < ((rd_T39 x21 x23).f0))) x21 x22 (wrap64 (x23 + 1)) x120000 x120001 x120002 x120003 x120004) else (none)) else (none)))) else (dev_Check.l0 k false x21 x22 (wrap64 (x23 + 1)) x120000 x120001 x120002 x120003 x120004))) else (dev_Check.l0 k false x21 x22 (wrap64 (x23 + 1)) x120000 x120001 x120002 x120003 x120004)) else (none)) else (none)) else (if x3 = true then ((slices_ContainsFunc_api_Block_api_Block.f x120002 x120000 x120001 x120002 x120003 x120004).bind fun t124 => (if t124 = true then (some 7) else (some 0))) else (some 7))
end
def dev_Check.f (k : Nat) (a0_0 : Int) (l0_1 : List (S39)) (l0_2 : List (S39)) (a0_3 : Bool) (a0_4 : Int) : Option (Int) := if a0_0 ≥ 16 then (if a0_0 ≤ 65536 then (dev_Check.j0 k (decide ((l0_2.length : Int) ≤ 16384)) a0_0 l0_1 l0_2 a0_3 a0_4) else (dev_Check.j0 k false a0_0 l0_1 l0_2 a0_3 a0_4)) else (dev_Check.j0 k false a0_0 l0_1 l0_2 a0_3 a0_4)
theorem dev_Check.mono_l : ∀ k, (∀ y0 y1 y2 y3 y4 y5, LeO (dev_Check.j0 k y0 y1 y2 y3 y4 y5) (dev_Check.j0 (k + 1) y0 y1 y2 y3 y4 y5)) ∧ (∀ y0 y1 y2 y3 y4 y5 y6 y7 y8, LeO (dev_Check.l0 k y0 y1 y2 y3 y4 y5 y6 y7 y8) (dev_Check.l0 (k + 1) y0 y1 y2 y3 y4 y5 y6 y7 y8))
  | 0 => ⟨fun _ _ _ _ _ _ r h => by simp [dev_Check.j0] at h, fun _ _ _ _ _ _ _ _ _ r h => by simp [dev_Check.l0] at h⟩
  | k + 1 => by
    obtain ⟨ih0, ih1⟩ := dev_Check.mono_l k
    refine ⟨?_, ?_⟩
    · intro y0 y1 y2 y3 y4 y5
      unfold dev_Check.j0
      repeat' first
      | (with_reducible exact ih0 _ _ _ _ _ _)
      | (with_reducible exact ih1 _ _ _ _ _ _ _ _ _)
      | (with_reducible exact LeO.refl _)
      | (with_reducible exact LeO.none _)
      | (with_reducible refine LeO.ite ?_ ?_)
      | (with_reducible refine LeO.bind ?_ (fun _ => ?_))
      | exact ih0 _ _ _ _ _ _
      | exact ih1 _ _ _ _ _ _ _ _ _
      | exact LeO.none _
      | refine LeO.ite ?_ ?_
      | refine LeO.bind ?_ (fun _ => ?_)
    · intro y0 y1 y2 y3 y4 y5 y6 y7 y8
      unfold dev_Check.l0
      repeat' first
      | (with_reducible exact ih0 _ _ _ _ _ _)
      | (with_reducible exact ih1 _ _ _ _ _ _ _ _ _)
      | (with_reducible exact LeO.refl _)
      | (with_reducible exact LeO.none _)
      | (with_reducible refine LeO.ite ?_ ?_)
      | (with_reducible refine LeO.bind ?_ (fun _ => ?_))
      | exact ih0 _ _ _ _ _ _
      | exact ih1 _ _ _ _ _ _ _ _ _
      | exact LeO.none _
      | refine LeO.ite ?_ ?_
      | refine LeO.bind ?_ (fun _ => ?_)
theorem dev_Check.mono : ∀ a0 a1 a2 a3 a4 k, LeO (dev_Check.f k a0 a1 a2 a3 a4) (dev_Check.f (k + 1) a0 a1 a2 a3 a4) := by
  intro a0 a1 a2 a3 a4 k
  obtain ⟨ih0, ih1⟩ := dev_Check.mono_l k
  unfold dev_Check.f
  repeat' first
      | (with_reducible exact ih0 _ _ _ _ _ _)
      | (with_reducible exact ih1 _ _ _ _ _ _ _ _ _)
      | (with_reducible exact LeO.refl _)
      | (with_reducible exact LeO.none _)
      | (with_reducible refine LeO.ite ?_ ?_)
      | (with_reducible refine LeO.bind ?_ (fun _ => ?_))
      | exact ih0 _ _ _ _ _ _
      | exact ih1 _ _ _ _ _ _ _ _ _
      | exact LeO.none _
      | refine LeO.ite ?_ ?_
      | refine LeO.bind ?_ (fun _ => ?_)
def dev_Check.T5 : Bool × List (List Nat × List Nat) := (true, [([], []), ([0], [0]), ([1], [1]), ([1], [1]), ([3, 1], [1, 3]), ([2, 4, 1, 1], [1, 2, 4]), ([1, 5], [1, 5]), ([6, 5], [6]), ([7], [7]), ([8, 7], [7, 8]), ([9, 7], [7, 9]), ([7, 10], [7, 10]), ([11, 7], [11]), ([12], [12]), ([13, 12], [12, 13]), ([14, 12, 12], [12, 14]), ([15], [15]), ([16, 15], [15, 16]), ([15], [15]), ([18, 15], [15, 18]), ([17, 19, 15], [15, 17, 19]), ([20, 15], [15, 20]), ([21, 15], [15, 21]), ([15], [15]), ([23, 15], [15, 23]), ([22, 24, 15], [15, 22, 24]), ([15, 25, 12], [12, 15, 25]), ([12, 26], [12, 26]), ([27, 15, 0, 1, 2, 3, 4, 5, 6, 7, 8, 9, 10, 11, 12, 13, 14, 15, 16, 17, 18, 19, 20, 21, 22, 23, 24, 25, 26, 27], [0, 27])])
def dev_Check.B5 : List Nat := [0, 1, 3, 3, 11, 31, 63, 127, 255, 511, 1023, 2047, 4095, 8191, 16383, 32767, 65535, 131071, 65535, 327679, 1048575, 2097151, 4194303, 65535, 8454143, 33554431, 67108863, 134217727, 268435455]
theorem dev_Check.tab5 : rtab .any (opsOf Tryd.f21 5) = dev_Check.T5 := by kernel_rfl
theorem dev_Check.bits5 : waitsOk dev_Check.T5.2 dev_Check.B5 = true := by kernel_rfl
set_option maxHeartbeats 8000000 in
set_option maxRecDepth 100000 in
theorem dev_Check.calls (k : Nat) (a0_0 : Int) (A0_1 : Option Addr) (c0_1 : Nat) (l0_1 : List (S39)) (A0_2 : Option Addr) (c0_2 : Nat) (l0_2 : List (S39)) (a0_3 : Bool) (a0_4 : Int) (r : Int) (w : World) (hr0_1 : Kd.C k39 w A0_1 l0_1.length l0_1) (hc0_1 : l0_1.length ≤ c0_1) (hr0_2 : Kd.C k39 w A0_2 l0_2.length l0_2) (hc0_2 : l0_2.length ≤ c0_2) (h : dev_Check.f k a0_0 l0_1 l0_2 a0_3 a0_4 = some r) :
    Calls Tryd.prog 21 #[.agg #[.int .u32 a0_0, .slice A0_1 l0_1.length c0_1, .slice A0_2 l0_2.length c0_2, .bool a0_3, .int .i64 a0_4]] w fun e w' => e = .returned (.int .i64 r) ∧ Below w.heap.size w w' := by
  have hmf_ : ∀ (fn : Fn) (first cap : Array Value) (w : World), (Instr.makeFunc fn first cap).run Tryd.prog w = .ok (.func fn first cap) w := fun _ _ _ _ => rfl
  have hu25 := Tryd.underlying25
  have hu39 := Tryd.underlying39
  have HR0_1 := Aside0.mk hr0_1
  have HC0_1 := Aside0.mk hc0_1
  clear hr0_1 hc0_1
  have HR0_2 := Aside0.mk hr0_2
  have HC0_2 := Aside0.mk hc0_2
  clear hr0_2 hc0_2
  have HB := Aside0.mk (Below.refl w.heap.size w)
  have H : (if a0_0 ≥ 16 then (if a0_0 ≤ 65536 then (dev_Check.j0 k (decide ((l0_2.length : Int) ≤ 16384)) a0_0 l0_1 l0_2 a0_3 a0_4) else (dev_Check.j0 k false a0_0 l0_1 l0_2 a0_3 a0_4)) else (dev_Check.j0 k false a0_0 l0_1 l0_2 a0_3 a0_4)) = some r := h
  clear h
  have HC2 := Aside0.mk H
  clear H
  go_enter Tryd.func21, Tryd.ntmps21
  go_upto_region 1 with (first | ((with_reducible refine gate_dst (N := 1) rfl ?_); (try (refine gate_guard (by rfl) ?_; dsimp only)); refine bx_ (N := 1) (cs := #[.int .u32 a0_0, .slice A0_1 l0_1.length c0_1, .slice A0_2 l0_2.length c0_2, .bool a0_3, .int .i64 a0_4]) (t := 25) ?_; intro gb119 hg w3 hbox hb; have n0_ := Aside0.mk (below_step bel_ hb); have n1_ := Aside0.mk (hbox); have n2_ := Aside0.mk ((by rw [hg]; exact (below_size bel_) : w.heap.size ≤ gb119)); have n3_ := Aside0.mk ((by rw [hg]; exact (below_size bel_) : w.heap.size ≤ gb119)); clear HB; have HB := n0_; have BK119 := n1_; have GW119 := n2_; have GE119 := n3_; clear n0_ n1_ n2_ n3_; clear hb hbox hg))
  (try simp only [Act.put, List.setIfInBounds_toArray, List.set_cons_zero, List.set_cons_succ])
  go_cut [3] (fun v3 wc => ∃ (kq : Nat) (x3_1 : Bool), v3 = .bool x3_1 ∧ Aside0 (dev_Check.j0 kq x3_1 a0_0 l0_1 l0_2 a0_3 a0_4 = some r) ∧ Aside0 (kq ≤ k) ∧ Aside0 (wc.heap[gb119]? = some (.cells #[.int .u32 a0_0, (.slice A0_1 l0_1.length c0_1), (.slice A0_2 l0_2.length c0_2), .bool a0_3, .int .i64 a0_4] 25 (0, 0))) ∧ Aside0 (Below w.heap.size w wc))
  case first =>
    have H := HC2.out
    clear HC2
    by_cases c4 : a0_0 ≥ 16
    · rw [if_pos c4] at H
      have c4b0 : decide (16 ≤ a0_0) = true := decide_eq_true c4
      clear c4
      (first | rw [c4b0] | (simp only [i64_w, i32_w]; rw [c4b0]) | skip)
      by_cases c5 : a0_0 ≤ 65536
      · rw [if_pos c5] at H
        have c5b0 : decide (a0_0 ≤ 65536) = true := decide_eq_true c5
        clear c5
        have H' := Aside0.mk H
        clear H
        obtain ⟨hcz6_0, hcz6_1, hcz6_2, hcz6_3, hcz6_4⟩ := cl5_ BK119
        obtain ⟨hfz6_0, hfz6_1, hfz6_2, hfz6_3, hfz6_4⟩ := fz5_ BK119
        go_wp2
        go_meet
        case rel => exact ⟨_, (decide ((l0_2.length : Int) ≤ 16384)), (by first | rfl | (simp; done) | (simp [*]; done)), H', ⟨by first | omega | exact Nat.le_refl _⟩, ⟨bk_ BK119⟩, ⟨bel_⟩⟩
      · rw [if_neg c5] at H
        have c5b0 : decide (a0_0 ≤ 65536) = false := decide_eq_false c5
        clear c5
        have H' := Aside0.mk H
        clear H
        obtain ⟨hcz7_0, hcz7_1, hcz7_2, hcz7_3, hcz7_4⟩ := cl5_ BK119
        obtain ⟨hfz7_0, hfz7_1, hfz7_2, hfz7_3, hfz7_4⟩ := fz5_ BK119
        go_wp2
        go_meet
        case rel => exact ⟨_, (false), (by first | rfl | (simp; done) | (simp [*]; done)), H', ⟨by first | omega | exact Nat.le_refl _⟩, ⟨bk_ BK119⟩, ⟨bel_⟩⟩
    · rw [if_neg c4] at H
      have c4b0 : decide (16 ≤ a0_0) = false := decide_eq_false c4
      clear c4
      (first | rw [c4b0] | (simp only [i64_w, i32_w]; rw [c4b0]) | skip)
      have H' := Aside0.mk H
      clear H
      obtain ⟨hcz8_0, hcz8_1, hcz8_2, hcz8_3, hcz8_4⟩ := cl5_ BK119
      obtain ⟨hfz8_0, hfz8_1, hfz8_2, hfz8_3, hfz8_4⟩ := fz5_ BK119
      go_wp2
      go_meet
      case rel => exact ⟨_, (false), (by first | rfl | (simp; done) | (simp [*]; done)), H', ⟨by first | omega | exact Nat.le_refl _⟩, ⟨bk_ BK119⟩, ⟨bel_⟩⟩
  case rest =>
    clear HC2
    try clear c2
    try clear p2
    try clear c4
    try clear c4b0
    try clear c5
    try clear c5b0
    try clear hcz6_0
    try clear hcz6_1
    try clear hcz6_2
    try clear hcz6_3
    try clear hcz6_4
    try clear hcz7_0
    try clear hcz7_1
    try clear hcz7_2
    try clear hcz7_3
    try clear hcz7_4
    try clear hcz8_0
    try clear hcz8_1
    try clear hcz8_2
    try clear hcz8_3
    try clear hcz8_4
    try clear hfz6_0
    try clear hfz6_1
    try clear hfz6_2
    try clear hfz6_3
    try clear hfz6_4
    try clear hfz7_0
    try clear hfz7_1
    try clear hfz7_2
    try clear hfz7_3
    try clear hfz7_4
    try clear hfz8_0
    try clear hfz8_1
    try clear hfz8_2
    try clear hfz8_3
    try clear hfz8_4
    obtain ⟨kq, x3_1, rfl, HA, HJ1, BK119, HB⟩ := hcut
    cases kq with
    | zero => exact absurd HA.out (by simp [dev_Check.j0])
    | succ kj1 =>
      have H := HA.out
      clear HA
      simp only [dev_Check.j0] at H
      have H' := Aside0.mk H
      clear H
      obtain ⟨hcz9_0, hcz9_1, hcz9_2, hcz9_3, hcz9_4⟩ := cl5_ BK119
      obtain ⟨hfz9_0, hfz9_1, hfz9_2, hfz9_3, hfz9_4⟩ := fz5_ BK119
      go_wp2
      go_loopg [3, 23] kj1 (fun kq v3 v23 w' => ∃ (x3_2 : Bool) (x23_2 : Int), v3 = .bool x3_2 ∧ v23 = .int .i64 x23_2 ∧ Aside0 (dev_Check.l0 kq x3_2 l0_1 (l0_1.length : Int) x23_2 a0_0 l0_1 l0_2 a0_3 a0_4 = some r) ∧ Aside0 (kq ≤ kj1) ∧ Aside0 (w'.heap[gb119]? = some (.cells #[.int .u32 a0_0, (.slice A0_1 l0_1.length c0_1), (.slice A0_2 l0_2.length c0_2), .bool a0_3, .int .i64 a0_4] 25 (0, 0))) ∧ Aside0 (Below w.heap.size w w'))
      case atStart => exact ⟨(x3_1), (0), (by first | rfl | (simp; done) | (simp [*]; done)), (by first | rfl | (simp; done) | (simp [*]; done)), H', ⟨Nat.le_refl _⟩, ⟨bk_ BK119⟩, ⟨bel_⟩⟩
      case round =>
        clear H'
        try clear c2
        try clear p2
        try clear c4
        try clear c4b0
        try clear c5
        try clear c5b0
        try clear hcz6_0
        try clear hcz6_1
        try clear hcz6_2
        try clear hcz6_3
        try clear hcz6_4
        try clear hcz7_0
        try clear hcz7_1
        try clear hcz7_2
        try clear hcz7_3
        try clear hcz7_4
        try clear hcz8_0
        try clear hcz8_1
        try clear hcz8_2
        try clear hcz8_3
        try clear hcz8_4
        try clear hcz9_0
        try clear hcz9_1
        try clear hcz9_2
        try clear hcz9_3
        try clear hcz9_4
        try clear hfz6_0
        try clear hfz6_1
        try clear hfz6_2
        try clear hfz6_3
        try clear hfz6_4
        try clear hfz7_0
        try clear hfz7_1
        try clear hfz7_2
        try clear hfz7_3
        try clear hfz7_4
        try clear hfz8_0
        try clear hfz8_1
        try clear hfz8_2
        try clear hfz8_3
        try clear hfz8_4
        try clear hfz9_0
        try clear hfz9_1
        try clear hfz9_2
        try clear hfz9_3
        try clear hfz9_4
        try clear p2
        obtain ⟨x3_2, x23_2, rfl, rfl, HA, HK2, BK119, HB⟩ := hrel
        cases gk with
        | zero => exact absurd HA.out (by simp [dev_Check.l0])
        | succ k2 =>
          have H := HA.out
          clear HA
          simp only [dev_Check.l0] at H
          by_cases c10 : x23_2 < (l0_1.length : Int)
          · rw [if_pos c10] at H
            have c10b0 : decide (x23_2 < (l0_1.length : Int)) = true := decide_eq_true c10
            clear c10
            by_cases c11 : 0 ≤ x23_2
            · rw [if_pos c11] at H
              have c11b0 : decide (0 ≤ x23_2) = true := decide_eq_true c11
              clear c11
              by_cases c12 : x23_2 < (l0_1.length : Int)
              · rw [if_pos c12] at H
                have c12b0 : decide (x23_2 < (l0_1.length : Int)) = true := decide_eq_true c12
                clear c12
                by_cases c13 : x3_2 = true
                · subst c13
                  have H1 : ((dev_right.f ((rd_T39 l0_1 x23_2).f0) ((rd_T39 l0_1 x23_2).f1) a0_0).bind fun t122 => (if t122 = true then (if ((rd_T39 l0_1 x23_2).f1).toList = ([] : List UInt8) then (dev_Check.l0 k2 false l0_1 (l0_1.length : Int) (wrap64 (x23_2 + 1)) a0_0 l0_1 l0_2 a0_3 a0_4) else (if x23_2 = 0 then (dev_Check.l0 k2 true l0_1 (l0_1.length : Int) (wrap64 (x23_2 + 1)) a0_0 l0_1 l0_2 a0_3 a0_4) else (if 0 ≤ (wrap64 (x23_2 - 1)) then (if (wrap64 (x23_2 - 1)) < (l0_1.length : Int) then (dev_Check.l0 k2 (decide (((rd_T39 l0_1 (wrap64 (x23_2 - 1))).f0) < ((rd_T39 l0_1 x23_2).f0))) l0_1 (l0_1.length : Int) (wrap64 (x23_2 + 1)) a0_0 l0_1 l0_2 a0_3 a0_4) else (none)) else (none)))) else (dev_Check.l0 k2 false l0_1 (l0_1.length : Int) (wrap64 (x23_2 + 1)) a0_0 l0_1 l0_2 a0_3 a0_4))) = some r := by rw [if_pos rfl] at H; exact H
                  clear H
                  have H := H1
                  clear H1
                  replace H := Option.bind_eq_some_iff.mp H
                  obtain ⟨t122, A140, H⟩ := H
                  replace H : (if t122 = true then (if ((rd_T39 l0_1 x23_2).f1).toList = ([] : List UInt8) then (dev_Check.l0 k2 false l0_1 (l0_1.length : Int) (wrap64 (x23_2 + 1)) a0_0 l0_1 l0_2 a0_3 a0_4) else (if x23_2 = 0 then (dev_Check.l0 k2 true l0_1 (l0_1.length : Int) (wrap64 (x23_2 + 1)) a0_0 l0_1 l0_2 a0_3 a0_4) else (if 0 ≤ (wrap64 (x23_2 - 1)) then (if (wrap64 (x23_2 - 1)) < (l0_1.length : Int) then (dev_Check.l0 k2 (decide (((rd_T39 l0_1 (wrap64 (x23_2 - 1))).f0) < ((rd_T39 l0_1 x23_2).f0))) l0_1 (l0_1.length : Int) (wrap64 (x23_2 + 1)) a0_0 l0_1 l0_2 a0_3 a0_4) else (none)) else (none)))) else (dev_Check.l0 k2 false l0_1 (l0_1.length : Int) (wrap64 (x23_2 + 1)) a0_0 l0_1 l0_2 a0_3 a0_4)) = some r := H
                  have A14 := Aside0.mk A140
                  clear A140
                  by_cases c15 : t122 = true
                  · subst c15
                    have H1 : (if ((rd_T39 l0_1 x23_2).f1).toList = ([] : List UInt8) then (dev_Check.l0 k2 false l0_1 (l0_1.length : Int) (wrap64 (x23_2 + 1)) a0_0 l0_1 l0_2 a0_3 a0_4) else (if x23_2 = 0 then (dev_Check.l0 k2 true l0_1 (l0_1.length : Int) (wrap64 (x23_2 + 1)) a0_0 l0_1 l0_2 a0_3 a0_4) else (if 0 ≤ (wrap64 (x23_2 - 1)) then (if (wrap64 (x23_2 - 1)) < (l0_1.length : Int) then (dev_Check.l0 k2 (decide (((rd_T39 l0_1 (wrap64 (x23_2 - 1))).f0) < ((rd_T39 l0_1 x23_2).f0))) l0_1 (l0_1.length : Int) (wrap64 (x23_2 + 1)) a0_0 l0_1 l0_2 a0_3 a0_4) else (none)) else (none)))) = some r := by rw [if_pos rfl] at H; exact H
                    clear H
                    have H := H1
                    clear H1
                    by_cases c16 : ((rd_T39 l0_1 x23_2).f1).toList = ([] : List UInt8)
                    · rw [if_pos c16] at H
                      have c16b0 : (((rd_T39 l0_1 x23_2).f1).toList == ([] : List UInt8)) = true := beq_iff_eq.mpr c16
                      have c16b1 : (((rd_T39 l0_1 x23_2).f1).toList != ([] : List UInt8)) = false := bne_eq_false_iff_eq.mpr c16
                      clear c16
                      have H' := Aside0.mk H
                      clear H
                      have p120 : 0 ≤ (x23_2 : Int) := of_decide_eq_true (by first | (with_reducible assumption) | assumption)
                      have q120 : x23_2 < (l0_1.length : Int) := of_decide_eq_true (by first | (with_reducible assumption) | assumption)
                      obtain ⟨ad120, e120, hx120_0, hx120_1⟩ := at_T39 HR0_1.out x23_2 p120 q120
                      cases e120
                      replace hx120_0 := (HB.out.cell (World.block_lt_of_cell? w _ hx120_0)).trans hx120_0
                      replace hx120_1 := (HB.out.cell (World.block_lt_of_cell? w _ hx120_1)).trans hx120_1
                      replace p120 := eq_true p120
                      replace q120 := eq_true q120
                      try go_wp2_with (first | ((with_reducible refine gate_dst (N := 5) rfl ?_); (try (refine gate_guard (by rfl) ?_; dsimp only)); refine bx_ (N := 5) (cs := #[.int .u32 0, .string (⟨#[]⟩ : ByteArray)]) (t := 39) ?_; intro gb121 hg w17 hbox hb; have BK121 := Aside0.mk (hbox); have GW121 := ge_ hg; have GE121 := ge_ hg; have NB119_121 := nl_ BK119 hg; have NB121_119 := ng_ BK119 hg; replace BK119 := kb_ BK119 hb; replace HB := hb_ hb; clear hb hbox hg; have hnb18 := NB121_119.out; have hnc18 := NB119_121.out; obtain ⟨hcz19_0, hcz19_1⟩ := cl2_ BK121; obtain ⟨hfz19_0, hfz19_1⟩ := fz2_ BK121))
                      have n0_ : Aside0 (((w17.setCell ⟨gb121, 0, none⟩ (.int .u32 ((rd_T39 l0_1 x23_2).f0))).setCell ⟨gb121, 1, none⟩ (.string ((rd_T39 l0_1 x23_2).f1))).heap[gb119]? = some (.cells #[.int .u32 a0_0, .slice (some ad120) l0_1.length c0_1, .slice A0_2 l0_2.length c0_2, .bool a0_3, .int .i64 a0_4] 25 (0, 0))) := ⟨bs_⟩
                      have n1_ : Aside0 (((w17.setCell ⟨gb121, 0, none⟩ (.int .u32 ((rd_T39 l0_1 x23_2).f0))).setCell ⟨gb121, 1, none⟩ (.string ((rd_T39 l0_1 x23_2).f1))).heap[gb121]? = some (.cells #[.int .u32 ((rd_T39 l0_1 x23_2).f0), .string ((rd_T39 l0_1 x23_2).f1)] 39 (0, 0))) := ⟨bs_⟩
                      have n2_ : Aside0 (Below w.heap.size w ((w17.setCell ⟨gb121, 0, none⟩ (.int .u32 ((rd_T39 l0_1 x23_2).f0))).setCell ⟨gb121, 1, none⟩ (.string ((rd_T39 l0_1 x23_2).f1)))) := ⟨bel_⟩
                      (try clear BK119)
                      (try clear BK121)
                      (try clear HB)
                      generalize ((w17.setCell ⟨gb121, 0, none⟩ (.int .u32 ((rd_T39 l0_1 x23_2).f0))).setCell ⟨gb121, 1, none⟩ (.string ((rd_T39 l0_1 x23_2).f1))) = w20 at n0_ n1_ n2_ ⊢
                      have BK119 := n0_
                      have BK121 := n1_
                      have HB := n2_
                      clear n0_ n1_ n2_
                      replace BK119 := Aside0.mk (blk_drew BK119.out)
                      replace BK121 := Aside0.mk (blk_drew BK121.out)
                      replace HB := Aside0.mk (below_drew1 HB.out)
                      refine start_ (n := 29) (S := fun w' => w'.cell? ⟨gb121, 0, none⟩ = some (.int .u32 ((rd_T39 l0_1 x23_2).f0)) ∧ w'.cell? ⟨gb121, 1, none⟩ = some (.string ((rd_T39 l0_1 x23_2).f1)) ∧ w'.cell? ⟨gb119, 0, none⟩ = some (.int .u32 a0_0) ∧ w'.cell? ⟨gb119, 1, none⟩ = some (.slice (some ad120) l0_1.length c0_1) ∧ w'.cell? ⟨gb119, 2, none⟩ = some (.slice A0_2 l0_2.length c0_2) ∧ w'.cell? ⟨gb119, 3, none⟩ = some (.bool a0_3) ∧ w'.cell? ⟨gb119, 4, none⟩ = some (.int .i64 a0_4)) (ds := []) #[false, false, false, false, false, false, false, false, false, false, false, false, false, false, false, false, false, false, false, false, false, false, false, false, false, false, false, false, false] (by kernel_rfl) rfl rfl hc_ (fun hHeld => ?_); refine with_tabW dev_Check.tab5 dev_Check.bits5 (fun HT_ HW_ => ?_)
                      generalize w20.drew = w21 at BK119 BK121 HB hHeld ⊢
                      refine pu_ 0 28 ?_
                      refine pu_ 1 29 ?_
                      refine pu_ 3 31 ?_
                      refine tk7_ 2 30 ?_
                      refine tk7_ 4 32 ?_
                      refine on_ 5 33 (fun K hK => ?_)
                      refine goes_ Tryd.func35 (by kernel_rfl) rfl #[.agg #[.int .u32 ((rd_T39 l0_1 x23_2).f0), .string ((rd_T39 l0_1 x23_2).f1)], .int .u32 a0_0] (by rfl) rfl rfl (by (try simp only [List.map_toArray, List.map_cons, List.map_nil]); first | done | rfl | (simp only [List.length_drop, List.length_take]; rfl)) ?_
                      with_reducible refine (dev_right.calls ((rd_T39 l0_1 x23_2).f0) ((rd_T39 l0_1 x23_2).f1) a0_0 true _ A14.out).mono ?_
                      rintro e w22 ⟨rfl, hb⟩
                      refine ⟨_, rfl, ?_⟩
                      replace BK119 := kb_ BK119 hb
                      replace BK121 := kb_ BK121 hb
                      replace HB := hb_ hb
                      (try clear hb)
                      (try clear hb2)
                      (try clear hk)
                      (try clear hi)
                      refine hK.out _ _ hc_ (fun hHeld => ?_)
                      clear hK K
                      refine nm_ 33 ?_
                      refine pu_ 6 34 ?_
                      refine pu_ 7 35 ?_
                      refine pu_ 8 36 ?_
                      refine tk7_ 9 37 ?_
                      refine pu_ 10 38 ?_
                      refine pu_ 11 39 ?_
                      refine pu_ 12 40 ?_
                      refine un_ 13 41 ?_
                      refine un_ 14 42 ?_
                      refine un_ 15 43 ?_
                      refine un_ 16 44 ?_
                      refine un_ 17 45 ?_
                      refine un_ 18 46 ?_
                      refine un_ 19 47 ?_
                      refine un_ 20 48 ?_
                      refine un_ 21 49 ?_
                      refine un_ 22 50 ?_
                      refine un_ 23 51 ?_
                      refine un_ 24 52 ?_
                      refine un_ 25 53 ?_
                      refine un_ 26 54 ?_
                      refine pu_ 27 55 ?_
                      refine pu_ 28 3 ?_
                      refine done_ (done_of HT_.out (by kernel_rfl)) ?_
                      try go_wp2
                      go_roundg k2
                      case measure => have := HJ1.out; have := HK2.out; omega
                      case rel => exact ⟨(false), (wrap64 (x23_2 + 1)), (by first | rfl | (simp; done) | (simp [*]; done)), (by first | rfl | (simp; done) | (simp [*]; done)), H', ⟨by have := HJ1.out; have := HK2.out; omega⟩, ⟨bk_ BK119⟩, ⟨bel_⟩⟩
                    · rw [if_neg c16] at H
                      have c16b0 : (((rd_T39 l0_1 x23_2).f1).toList == ([] : List UInt8)) = false := beq_eq_false_iff_ne.mpr c16
                      have c16b1 : (((rd_T39 l0_1 x23_2).f1).toList != ([] : List UInt8)) = true := bne_iff_ne.mpr c16
                      by_cases c23 : x23_2 = 0
                      · rw [if_pos c23] at H
                        have c23b0 : (x23_2 == 0) = true := beq_iff_eq.mpr c23
                        have c23b1 : (x23_2 != 0) = false := bne_eq_false_iff_eq.mpr c23
                        clear c23
                        have H' := Aside0.mk H
                        clear H
                        have p120 : 0 ≤ (x23_2 : Int) := of_decide_eq_true (by first | (with_reducible assumption) | assumption)
                        have q120 : x23_2 < (l0_1.length : Int) := of_decide_eq_true (by first | (with_reducible assumption) | assumption)
                        obtain ⟨ad120, e120, hx120_0, hx120_1⟩ := at_T39 HR0_1.out x23_2 p120 q120
                        cases e120
                        replace hx120_0 := (HB.out.cell (World.block_lt_of_cell? w _ hx120_0)).trans hx120_0
                        replace hx120_1 := (HB.out.cell (World.block_lt_of_cell? w _ hx120_1)).trans hx120_1
                        replace p120 := eq_true p120
                        replace q120 := eq_true q120
                        try go_wp2_with (first | ((with_reducible refine gate_dst (N := 5) rfl ?_); (try (refine gate_guard (by rfl) ?_; dsimp only)); refine bx_ (N := 5) (cs := #[.int .u32 0, .string (⟨#[]⟩ : ByteArray)]) (t := 39) ?_; intro gb121 hg w24 hbox hb; have BK121 := Aside0.mk (hbox); have GW121 := ge_ hg; have GE121 := ge_ hg; have NB119_121 := nl_ BK119 hg; have NB121_119 := ng_ BK119 hg; replace BK119 := kb_ BK119 hb; replace HB := hb_ hb; clear hb hbox hg; have hnb25 := NB121_119.out; have hnc25 := NB119_121.out; obtain ⟨hcz26_0, hcz26_1⟩ := cl2_ BK121; obtain ⟨hfz26_0, hfz26_1⟩ := fz2_ BK121))
                        have n0_ : Aside0 (((w24.setCell ⟨gb121, 0, none⟩ (.int .u32 ((rd_T39 l0_1 x23_2).f0))).setCell ⟨gb121, 1, none⟩ (.string ((rd_T39 l0_1 x23_2).f1))).heap[gb119]? = some (.cells #[.int .u32 a0_0, .slice (some ad120) l0_1.length c0_1, .slice A0_2 l0_2.length c0_2, .bool a0_3, .int .i64 a0_4] 25 (0, 0))) := ⟨bs_⟩
                        have n1_ : Aside0 (((w24.setCell ⟨gb121, 0, none⟩ (.int .u32 ((rd_T39 l0_1 x23_2).f0))).setCell ⟨gb121, 1, none⟩ (.string ((rd_T39 l0_1 x23_2).f1))).heap[gb121]? = some (.cells #[.int .u32 ((rd_T39 l0_1 x23_2).f0), .string ((rd_T39 l0_1 x23_2).f1)] 39 (0, 0))) := ⟨bs_⟩
                        have n2_ : Aside0 (Below w.heap.size w ((w24.setCell ⟨gb121, 0, none⟩ (.int .u32 ((rd_T39 l0_1 x23_2).f0))).setCell ⟨gb121, 1, none⟩ (.string ((rd_T39 l0_1 x23_2).f1)))) := ⟨bel_⟩
                        (try clear BK119)
                        (try clear BK121)
                        (try clear HB)
                        generalize ((w24.setCell ⟨gb121, 0, none⟩ (.int .u32 ((rd_T39 l0_1 x23_2).f0))).setCell ⟨gb121, 1, none⟩ (.string ((rd_T39 l0_1 x23_2).f1))) = w27 at n0_ n1_ n2_ ⊢
                        have BK119 := n0_
                        have BK121 := n1_
                        have HB := n2_
                        clear n0_ n1_ n2_
                        replace BK119 := Aside0.mk (blk_drew BK119.out)
                        replace BK121 := Aside0.mk (blk_drew BK121.out)
                        replace HB := Aside0.mk (below_drew1 HB.out)
                        refine start_ (n := 29) (S := fun w' => w'.cell? ⟨gb121, 0, none⟩ = some (.int .u32 ((rd_T39 l0_1 x23_2).f0)) ∧ w'.cell? ⟨gb121, 1, none⟩ = some (.string ((rd_T39 l0_1 x23_2).f1)) ∧ w'.cell? ⟨gb119, 0, none⟩ = some (.int .u32 a0_0) ∧ w'.cell? ⟨gb119, 1, none⟩ = some (.slice (some ad120) l0_1.length c0_1) ∧ w'.cell? ⟨gb119, 2, none⟩ = some (.slice A0_2 l0_2.length c0_2) ∧ w'.cell? ⟨gb119, 3, none⟩ = some (.bool a0_3) ∧ w'.cell? ⟨gb119, 4, none⟩ = some (.int .i64 a0_4)) (ds := []) #[false, false, false, false, false, false, false, false, false, false, false, false, false, false, false, false, false, false, false, false, false, false, false, false, false, false, false, false, false] (by kernel_rfl) rfl rfl hc_ (fun hHeld => ?_); refine with_tabW dev_Check.tab5 dev_Check.bits5 (fun HT_ HW_ => ?_)
                        generalize w27.drew = w28 at BK119 BK121 HB hHeld ⊢
                        refine pu_ 0 28 ?_
                        refine pu_ 1 29 ?_
                        refine pu_ 3 31 ?_
                        refine tk7_ 2 30 ?_
                        refine tk7_ 4 32 ?_
                        refine on_ 5 33 (fun K hK => ?_)
                        refine goes_ Tryd.func35 (by kernel_rfl) rfl #[.agg #[.int .u32 ((rd_T39 l0_1 x23_2).f0), .string ((rd_T39 l0_1 x23_2).f1)], .int .u32 a0_0] (by rfl) rfl rfl (by (try simp only [List.map_toArray, List.map_cons, List.map_nil]); first | done | rfl | (simp only [List.length_drop, List.length_take]; rfl)) ?_
                        with_reducible refine (dev_right.calls ((rd_T39 l0_1 x23_2).f0) ((rd_T39 l0_1 x23_2).f1) a0_0 true _ A14.out).mono ?_
                        rintro e w29 ⟨rfl, hb⟩
                        refine ⟨_, rfl, ?_⟩
                        replace BK119 := kb_ BK119 hb
                        replace BK121 := kb_ BK121 hb
                        replace HB := hb_ hb
                        (try clear hb)
                        (try clear hb2)
                        (try clear hk)
                        (try clear hi)
                        refine hK.out _ _ hc_ (fun hHeld => ?_)
                        clear hK K
                        refine nm_ 33 ?_
                        refine pu_ 6 34 ?_
                        refine pu_ 7 35 ?_
                        refine pu_ 8 36 ?_
                        refine tk7_ 9 37 ?_
                        refine pu_ 10 38 ?_
                        refine pu_ 11 39 ?_
                        refine pu_ 12 40 ?_
                        refine pu_ 13 41 ?_
                        refine pu_ 14 42 ?_
                        refine pu_ 15 43 ?_
                        refine un_ 16 44 ?_
                        refine un_ 17 45 ?_
                        refine un_ 18 46 ?_
                        refine un_ 19 47 ?_
                        refine un_ 20 48 ?_
                        refine un_ 21 49 ?_
                        refine un_ 22 50 ?_
                        refine un_ 23 51 ?_
                        refine un_ 24 52 ?_
                        refine un_ 25 53 ?_
                        refine pu_ 26 54 ?_
                        refine pu_ 27 55 ?_
                        refine pu_ 28 3 ?_
                        refine done_ (done_of HT_.out (by kernel_rfl)) ?_
                        try go_wp2
                        go_roundg k2
                        case measure => have := HJ1.out; have := HK2.out; omega
                        case rel => exact ⟨(true), (wrap64 (x23_2 + 1)), (by first | rfl | (simp; done) | (simp [*]; done)), (by first | rfl | (simp; done) | (simp [*]; done)), H', ⟨by have := HJ1.out; have := HK2.out; omega⟩, ⟨bk_ BK119⟩, ⟨bel_⟩⟩
                      · rw [if_neg c23] at H
                        have c23b0 : (x23_2 == 0) = false := beq_eq_false_iff_ne.mpr c23
                        have c23b1 : (x23_2 != 0) = true := bne_iff_ne.mpr c23
                        obtain ⟨ji30, hji30⟩ : ∃ j_ : Int, (wrap64 (x23_2 - 1)) = j_ := ⟨_, rfl⟩
                        replace H : (if 0 ≤ (ji30) then (if (ji30) < (l0_1.length : Int) then (dev_Check.l0 k2 (decide (((rd_T39 l0_1 (ji30)).f0) < ((rd_T39 l0_1 x23_2).f0))) l0_1 (l0_1.length : Int) (wrap64 (x23_2 + 1)) a0_0 l0_1 l0_2 a0_3 a0_4) else (none)) else (none)) = some r := by first | (rw [hji30] at H; exact H) | (simp only [hji30] at H ⊢; exact H)
                        (try rw [hji30] at A14)
                        have hji30w : (IntKind.i64.wrap (x23_2 - 1)) = ji30 := (i64_w _).trans hji30
                        by_cases c31 : 0 ≤ (ji30)
                        · rw [if_pos c31] at H
                          have c31b0 : decide (0 ≤ (ji30)) = true := decide_eq_true c31
                          clear c31
                          by_cases c32 : (ji30) < (l0_1.length : Int)
                          · rw [if_pos c32] at H
                            have c32b0 : decide ((ji30) < (l0_1.length : Int)) = true := decide_eq_true c32
                            clear c32
                            have H' := Aside0.mk H
                            clear H
                            have p120 : 0 ≤ (x23_2 : Int) := of_decide_eq_true (by first | (with_reducible assumption) | assumption)
                            have q120 : x23_2 < (l0_1.length : Int) := of_decide_eq_true (by first | (with_reducible assumption) | assumption)
                            obtain ⟨ad120, e120, hx120_0, hx120_1⟩ := at_T39 HR0_1.out x23_2 p120 q120
                            cases e120
                            replace hx120_0 := (HB.out.cell (World.block_lt_of_cell? w _ hx120_0)).trans hx120_0
                            replace hx120_1 := (HB.out.cell (World.block_lt_of_cell? w _ hx120_1)).trans hx120_1
                            replace p120 := eq_true p120
                            replace q120 := eq_true q120
                            try go_wp2_with (first | ((with_reducible refine gate_dst (N := 5) rfl ?_); (try (refine gate_guard (by rfl) ?_; dsimp only)); refine bx_ (N := 5) (cs := #[.int .u32 0, .string (⟨#[]⟩ : ByteArray)]) (t := 39) ?_; intro gb121 hg w33 hbox hb; have BK121 := Aside0.mk (hbox); have GW121 := ge_ hg; have GE121 := ge_ hg; have NB119_121 := nl_ BK119 hg; have NB121_119 := ng_ BK119 hg; replace BK119 := kb_ BK119 hb; replace HB := hb_ hb; clear hb hbox hg; have hnb34 := NB121_119.out; have hnc34 := NB119_121.out; obtain ⟨hcz35_0, hcz35_1⟩ := cl2_ BK121; obtain ⟨hfz35_0, hfz35_1⟩ := fz2_ BK121))
                            have n0_ : Aside0 (((w33.setCell ⟨gb121, 0, none⟩ (.int .u32 ((rd_T39 l0_1 x23_2).f0))).setCell ⟨gb121, 1, none⟩ (.string ((rd_T39 l0_1 x23_2).f1))).heap[gb119]? = some (.cells #[.int .u32 a0_0, .slice (some ad120) l0_1.length c0_1, .slice A0_2 l0_2.length c0_2, .bool a0_3, .int .i64 a0_4] 25 (0, 0))) := ⟨bs_⟩
                            have n1_ : Aside0 (((w33.setCell ⟨gb121, 0, none⟩ (.int .u32 ((rd_T39 l0_1 x23_2).f0))).setCell ⟨gb121, 1, none⟩ (.string ((rd_T39 l0_1 x23_2).f1))).heap[gb121]? = some (.cells #[.int .u32 ((rd_T39 l0_1 x23_2).f0), .string ((rd_T39 l0_1 x23_2).f1)] 39 (0, 0))) := ⟨bs_⟩
                            have n2_ : Aside0 (Below w.heap.size w ((w33.setCell ⟨gb121, 0, none⟩ (.int .u32 ((rd_T39 l0_1 x23_2).f0))).setCell ⟨gb121, 1, none⟩ (.string ((rd_T39 l0_1 x23_2).f1)))) := ⟨bel_⟩
                            (try clear BK119)
                            (try clear BK121)
                            (try clear HB)
                            generalize ((w33.setCell ⟨gb121, 0, none⟩ (.int .u32 ((rd_T39 l0_1 x23_2).f0))).setCell ⟨gb121, 1, none⟩ (.string ((rd_T39 l0_1 x23_2).f1))) = w36 at n0_ n1_ n2_ ⊢
                            have BK119 := n0_
                            have BK121 := n1_
                            have HB := n2_
                            clear n0_ n1_ n2_
                            replace BK119 := Aside0.mk (blk_drew BK119.out)
                            replace BK121 := Aside0.mk (blk_drew BK121.out)
                            replace HB := Aside0.mk (below_drew1 HB.out)
                            have p123 : 0 ≤ ((ji30) : Int) := of_decide_eq_true (by first | (with_reducible assumption) | assumption)
                            have q123 : (ji30) < (l0_1.length : Int) := of_decide_eq_true (by first | (with_reducible assumption) | assumption)
                            obtain ⟨ad123, e123, hx123_0, hx123_1⟩ := at_T39 HR0_1.out (ji30) p123 q123
                            have hw123_1 := hx123_1
                            have hw123_0 := hx123_0
                            obtain rfl : ad120 = ad123 := (by injection e123)
                            replace hx123_0 := (HB.out.cell (World.block_lt_of_cell? w _ hx123_0)).trans hx123_0
                            replace hx123_1 := (HB.out.cell (World.block_lt_of_cell? w _ hx123_1)).trans hx123_1
                            replace p123 := eq_true p123
                            replace q123 := eq_true q123
                            refine start_ (n := 29) (S := fun w' => w'.cell? ⟨gb121, 0, none⟩ = some (.int .u32 ((rd_T39 l0_1 x23_2).f0)) ∧ w'.cell? ⟨gb121, 1, none⟩ = some (.string ((rd_T39 l0_1 x23_2).f1)) ∧ w'.cell? ⟨gb119, 0, none⟩ = some (.int .u32 a0_0) ∧ w'.cell? ⟨gb119, 1, none⟩ = some (.slice (some ad120) l0_1.length c0_1) ∧ w'.cell? ⟨gb119, 2, none⟩ = some (.slice A0_2 l0_2.length c0_2) ∧ w'.cell? ⟨gb119, 3, none⟩ = some (.bool a0_3) ∧ w'.cell? ⟨gb119, 4, none⟩ = some (.int .i64 a0_4) ∧ w'.cell? (ad120.add (((ji30)).toNat * 2)) = some (.int .u32 ((rd_T39 l0_1 (ji30)).f0)) ∧ w'.cell? ⟨(ad120.add (((ji30)).toNat * 2)).block, (ad120.add (((ji30)).toNat * 2)).off + 1, none⟩ = some (.string ((rd_T39 l0_1 (ji30)).f1))) (ds := []) #[false, false, false, false, false, false, false, false, false, false, false, false, false, false, false, false, false, false, false, false, false, false, false, false, false, false, false, false, false] (by kernel_rfl) rfl rfl ⟨(blk_cell BK121.out 0).trans rfl, (blk_cell BK121.out 1).trans rfl, (blk_cell BK119.out 0).trans rfl, (blk_cell BK119.out 1).trans rfl, (blk_cell BK119.out 2).trans rfl, (blk_cell BK119.out 3).trans rfl, (blk_cell BK119.out 4).trans rfl, ((HB.out.cell (World.block_lt_of_cell? w _ hw123_0)).trans hw123_0), ((HB.out.cell (World.block_lt_of_cell? w _ hw123_1)).trans hw123_1)⟩ (fun hHeld => ?_); refine with_tabW dev_Check.tab5 dev_Check.bits5 (fun HT_ HW_ => ?_)
                            generalize w36.drew = w37 at BK119 BK121 HB hx123_0 hx123_1 hHeld ⊢
                            refine pu_ 0 28 ?_
                            refine pu_ 1 29 ?_
                            refine pu_ 3 31 ?_
                            refine tk9_ 2 30 ?_
                            refine tk9_ 4 32 ?_
                            refine on_ 5 33 (fun K hK => ?_)
                            refine goes_ Tryd.func35 (by kernel_rfl) rfl #[.agg #[.int .u32 ((rd_T39 l0_1 x23_2).f0), .string ((rd_T39 l0_1 x23_2).f1)], .int .u32 a0_0] (by rfl) rfl rfl (by (try simp only [List.map_toArray, List.map_cons, List.map_nil]); first | done | rfl | (simp only [List.length_drop, List.length_take]; rfl)) ?_
                            with_reducible refine (dev_right.calls ((rd_T39 l0_1 x23_2).f0) ((rd_T39 l0_1 x23_2).f1) a0_0 true _ A14.out).mono ?_
                            rintro e w38 ⟨rfl, hb⟩
                            refine ⟨_, rfl, ?_⟩
                            replace BK119 := kb_ BK119 hb
                            replace BK121 := kb_ BK121 hb
                            replace HB := hb_ hb
                            (try clear hb)
                            (try clear hb2)
                            (try clear hk)
                            (try clear hi)
                            refine hK.out _ _ ⟨(blk_cell BK121.out 0).trans rfl, (blk_cell BK121.out 1).trans rfl, (blk_cell BK119.out 0).trans rfl, (blk_cell BK119.out 1).trans rfl, (blk_cell BK119.out 2).trans rfl, (blk_cell BK119.out 3).trans rfl, (blk_cell BK119.out 4).trans rfl, ((HB.out.cell (World.block_lt_of_cell? w _ hw123_0)).trans hw123_0), ((HB.out.cell (World.block_lt_of_cell? w _ hw123_1)).trans hw123_1)⟩ (fun hHeld => ?_)
                            clear hK K
                            refine nm_ 33 ?_
                            refine pu_ 6 34 ?_
                            refine pu_ 7 35 ?_
                            refine pu_ 8 36 ?_
                            refine tk9_ 9 37 ?_
                            refine pu_ 10 38 ?_
                            refine pu_ 11 39 ?_
                            refine pu_ 12 40 ?_
                            refine pu_ 13 41 ?_
                            refine pu_ 14 42 ?_
                            refine pu_ 15 43 ?_
                            refine pu_ 16 44 ?_
                            refine pu_ 18 46 ?_
                            refine pu_ 19 47 ?_
                            refine pu_ 23 51 ?_
                            refine tk9_ 17 45 ?_
                            refine pu_ 20 48 ?_
                            refine pu_ 21 49 ?_
                            refine tk9_ 22 50 ?_
                            refine tk9_ 24 52 ?_
                            refine pu_ 25 53 ?_
                            refine pu_ 26 54 ?_
                            refine pu_ 27 55 ?_
                            refine pu_ 28 3 ?_
                            refine done_ (done_of HT_.out (by kernel_rfl)) ?_
                            try go_wp2
                            go_roundg k2
                            case measure => have := HJ1.out; have := HK2.out; omega
                            case rel => exact ⟨(decide (((rd_T39 l0_1 (ji30)).f0) < ((rd_T39 l0_1 x23_2).f0))), (wrap64 (x23_2 + 1)), (by first | rfl | (simp; done) | (simp only [← hji30] <;> (first | rfl | simp)) | (simp [*]; done)), (by first | rfl | (simp; done) | (simp [*]; done)), H', ⟨by have := HJ1.out; have := HK2.out; omega⟩, ⟨bk_ BK119⟩, ⟨bel_⟩⟩
                          · rw [if_neg c32] at H
                            exact absurd H (by simp)
                        · rw [if_neg c31] at H
                          exact absurd H (by simp)
                  · replace c15 := Bool.eq_false_iff.mpr c15
                    subst c15
                    have H1 : (dev_Check.l0 k2 false l0_1 (l0_1.length : Int) (wrap64 (x23_2 + 1)) a0_0 l0_1 l0_2 a0_3 a0_4) = some r := by rw [if_neg (show ¬ (false = true) by decide)] at H; exact H
                    clear H
                    have H := H1
                    clear H1
                    have H' := Aside0.mk H
                    clear H
                    have p120 : 0 ≤ (x23_2 : Int) := of_decide_eq_true (by first | (with_reducible assumption) | assumption)
                    have q120 : x23_2 < (l0_1.length : Int) := of_decide_eq_true (by first | (with_reducible assumption) | assumption)
                    obtain ⟨ad120, e120, hx120_0, hx120_1⟩ := at_T39 HR0_1.out x23_2 p120 q120
                    cases e120
                    replace hx120_0 := (HB.out.cell (World.block_lt_of_cell? w _ hx120_0)).trans hx120_0
                    replace hx120_1 := (HB.out.cell (World.block_lt_of_cell? w _ hx120_1)).trans hx120_1
                    replace p120 := eq_true p120
                    replace q120 := eq_true q120
                    try go_wp2_with (first | ((with_reducible refine gate_dst (N := 5) rfl ?_); (try (refine gate_guard (by rfl) ?_; dsimp only)); refine bx_ (N := 5) (cs := #[.int .u32 0, .string (⟨#[]⟩ : ByteArray)]) (t := 39) ?_; intro gb121 hg w39 hbox hb; have BK121 := Aside0.mk (hbox); have GW121 := ge_ hg; have GE121 := ge_ hg; have NB119_121 := nl_ BK119 hg; have NB121_119 := ng_ BK119 hg; replace BK119 := kb_ BK119 hb; replace HB := hb_ hb; clear hb hbox hg; have hnb40 := NB121_119.out; have hnc40 := NB119_121.out; obtain ⟨hcz41_0, hcz41_1⟩ := cl2_ BK121; obtain ⟨hfz41_0, hfz41_1⟩ := fz2_ BK121))
                    have n0_ : Aside0 (((w39.setCell ⟨gb121, 0, none⟩ (.int .u32 ((rd_T39 l0_1 x23_2).f0))).setCell ⟨gb121, 1, none⟩ (.string ((rd_T39 l0_1 x23_2).f1))).heap[gb119]? = some (.cells #[.int .u32 a0_0, .slice (some ad120) l0_1.length c0_1, .slice A0_2 l0_2.length c0_2, .bool a0_3, .int .i64 a0_4] 25 (0, 0))) := ⟨bs_⟩
                    have n1_ : Aside0 (((w39.setCell ⟨gb121, 0, none⟩ (.int .u32 ((rd_T39 l0_1 x23_2).f0))).setCell ⟨gb121, 1, none⟩ (.string ((rd_T39 l0_1 x23_2).f1))).heap[gb121]? = some (.cells #[.int .u32 ((rd_T39 l0_1 x23_2).f0), .string ((rd_T39 l0_1 x23_2).f1)] 39 (0, 0))) := ⟨bs_⟩
                    have n2_ : Aside0 (Below w.heap.size w ((w39.setCell ⟨gb121, 0, none⟩ (.int .u32 ((rd_T39 l0_1 x23_2).f0))).setCell ⟨gb121, 1, none⟩ (.string ((rd_T39 l0_1 x23_2).f1)))) := ⟨bel_⟩
                    (try clear BK119)
                    (try clear BK121)
                    (try clear HB)
                    generalize ((w39.setCell ⟨gb121, 0, none⟩ (.int .u32 ((rd_T39 l0_1 x23_2).f0))).setCell ⟨gb121, 1, none⟩ (.string ((rd_T39 l0_1 x23_2).f1))) = w42 at n0_ n1_ n2_ ⊢
                    have BK119 := n0_
                    have BK121 := n1_
                    have HB := n2_
                    clear n0_ n1_ n2_
                    replace BK119 := Aside0.mk (blk_drew BK119.out)
                    replace BK121 := Aside0.mk (blk_drew BK121.out)
                    replace HB := Aside0.mk (below_drew1 HB.out)
                    refine start_ (n := 29) (S := fun w' => w'.cell? ⟨gb121, 0, none⟩ = some (.int .u32 ((rd_T39 l0_1 x23_2).f0)) ∧ w'.cell? ⟨gb121, 1, none⟩ = some (.string ((rd_T39 l0_1 x23_2).f1)) ∧ w'.cell? ⟨gb119, 0, none⟩ = some (.int .u32 a0_0) ∧ w'.cell? ⟨gb119, 1, none⟩ = some (.slice (some ad120) l0_1.length c0_1) ∧ w'.cell? ⟨gb119, 2, none⟩ = some (.slice A0_2 l0_2.length c0_2) ∧ w'.cell? ⟨gb119, 3, none⟩ = some (.bool a0_3) ∧ w'.cell? ⟨gb119, 4, none⟩ = some (.int .i64 a0_4)) (ds := []) #[false, false, false, false, false, false, false, false, false, false, false, false, false, false, false, false, false, false, false, false, false, false, false, false, false, false, false, false, false] (by kernel_rfl) rfl rfl hc_ (fun hHeld => ?_); refine with_tabW dev_Check.tab5 dev_Check.bits5 (fun HT_ HW_ => ?_)
                    generalize w42.drew = w43 at BK119 BK121 HB hHeld ⊢
                    refine pu_ 0 28 ?_
                    refine pu_ 1 29 ?_
                    refine pu_ 3 31 ?_
                    refine tk7_ 2 30 ?_
                    refine tk7_ 4 32 ?_
                    refine on_ 5 33 (fun K hK => ?_)
                    refine goes_ Tryd.func35 (by kernel_rfl) rfl #[.agg #[.int .u32 ((rd_T39 l0_1 x23_2).f0), .string ((rd_T39 l0_1 x23_2).f1)], .int .u32 a0_0] (by rfl) rfl rfl (by (try simp only [List.map_toArray, List.map_cons, List.map_nil]); first | done | rfl | (simp only [List.length_drop, List.length_take]; rfl)) ?_
                    with_reducible refine (dev_right.calls ((rd_T39 l0_1 x23_2).f0) ((rd_T39 l0_1 x23_2).f1) a0_0 false _ A14.out).mono ?_
                    rintro e w44 ⟨rfl, hb⟩
                    refine ⟨_, rfl, ?_⟩
                    replace BK119 := kb_ BK119 hb
                    replace BK121 := kb_ BK121 hb
                    replace HB := hb_ hb
                    (try clear hb)
                    (try clear hb2)
                    (try clear hk)
                    (try clear hi)
                    refine hK.out _ _ hc_ (fun hHeld => ?_)
                    clear hK K
                    refine nm_ 33 ?_
                    refine pu_ 6 34 ?_
                    refine pu_ 7 35 ?_
                    refine un_ 8 36 ?_
                    refine un_ 9 37 ?_
                    refine un_ 10 38 ?_
                    refine pu_ 11 39 ?_
                    refine pu_ 12 40 ?_
                    refine un_ 13 41 ?_
                    refine un_ 14 42 ?_
                    refine un_ 15 43 ?_
                    refine un_ 16 44 ?_
                    refine un_ 17 45 ?_
                    refine un_ 18 46 ?_
                    refine un_ 19 47 ?_
                    refine un_ 20 48 ?_
                    refine un_ 21 49 ?_
                    refine un_ 22 50 ?_
                    refine un_ 23 51 ?_
                    refine un_ 24 52 ?_
                    refine un_ 25 53 ?_
                    refine un_ 26 54 ?_
                    refine pu_ 27 55 ?_
                    refine pu_ 28 3 ?_
                    refine done_ (done_of HT_.out (by kernel_rfl)) ?_
                    try go_wp2
                    go_roundg k2
                    case measure => have := HJ1.out; have := HK2.out; omega
                    case rel => exact ⟨(false), (wrap64 (x23_2 + 1)), (by first | rfl | (simp; done) | (simp [*]; done)), (by first | rfl | (simp; done) | (simp [*]; done)), H', ⟨by have := HJ1.out; have := HK2.out; omega⟩, ⟨bk_ BK119⟩, ⟨bel_⟩⟩
                · replace c13 := Bool.eq_false_iff.mpr c13
                  subst c13
                  have H1 : (dev_Check.l0 k2 false l0_1 (l0_1.length : Int) (wrap64 (x23_2 + 1)) a0_0 l0_1 l0_2 a0_3 a0_4) = some r := by rw [if_neg (show ¬ (false = true) by decide)] at H; exact H
                  clear H
                  have H := H1
                  clear H1
                  have H' := Aside0.mk H
                  clear H
                  have p120 : 0 ≤ (x23_2 : Int) := of_decide_eq_true (by first | (with_reducible assumption) | assumption)
                  have q120 : x23_2 < (l0_1.length : Int) := of_decide_eq_true (by first | (with_reducible assumption) | assumption)
                  obtain ⟨ad120, e120, hx120_0, hx120_1⟩ := at_T39 HR0_1.out x23_2 p120 q120
                  cases e120
                  replace hx120_0 := (HB.out.cell (World.block_lt_of_cell? w _ hx120_0)).trans hx120_0
                  replace hx120_1 := (HB.out.cell (World.block_lt_of_cell? w _ hx120_1)).trans hx120_1
                  replace p120 := eq_true p120
                  replace q120 := eq_true q120
                  try go_wp2_with (first | ((with_reducible refine gate_dst (N := 5) rfl ?_); (try (refine gate_guard (by rfl) ?_; dsimp only)); refine bx_ (N := 5) (cs := #[.int .u32 0, .string (⟨#[]⟩ : ByteArray)]) (t := 39) ?_; intro gb121 hg w45 hbox hb; have BK121 := Aside0.mk (hbox); have GW121 := ge_ hg; have GE121 := ge_ hg; have NB119_121 := nl_ BK119 hg; have NB121_119 := ng_ BK119 hg; replace BK119 := kb_ BK119 hb; replace HB := hb_ hb; clear hb hbox hg; have hnb46 := NB121_119.out; have hnc46 := NB119_121.out; obtain ⟨hcz47_0, hcz47_1⟩ := cl2_ BK121; obtain ⟨hfz47_0, hfz47_1⟩ := fz2_ BK121))
                  have n0_ : Aside0 (((w45.setCell ⟨gb121, 0, none⟩ (.int .u32 ((rd_T39 l0_1 x23_2).f0))).setCell ⟨gb121, 1, none⟩ (.string ((rd_T39 l0_1 x23_2).f1))).heap[gb119]? = some (.cells #[.int .u32 a0_0, .slice (some ad120) l0_1.length c0_1, .slice A0_2 l0_2.length c0_2, .bool a0_3, .int .i64 a0_4] 25 (0, 0))) := ⟨bs_⟩
                  have n1_ : Aside0 (((w45.setCell ⟨gb121, 0, none⟩ (.int .u32 ((rd_T39 l0_1 x23_2).f0))).setCell ⟨gb121, 1, none⟩ (.string ((rd_T39 l0_1 x23_2).f1))).heap[gb121]? = some (.cells #[.int .u32 ((rd_T39 l0_1 x23_2).f0), .string ((rd_T39 l0_1 x23_2).f1)] 39 (0, 0))) := ⟨bs_⟩
                  have n2_ : Aside0 (Below w.heap.size w ((w45.setCell ⟨gb121, 0, none⟩ (.int .u32 ((rd_T39 l0_1 x23_2).f0))).setCell ⟨gb121, 1, none⟩ (.string ((rd_T39 l0_1 x23_2).f1)))) := ⟨bel_⟩
                  (try clear BK119)
                  (try clear BK121)
                  (try clear HB)
                  generalize ((w45.setCell ⟨gb121, 0, none⟩ (.int .u32 ((rd_T39 l0_1 x23_2).f0))).setCell ⟨gb121, 1, none⟩ (.string ((rd_T39 l0_1 x23_2).f1))) = w48 at n0_ n1_ n2_ ⊢
                  have BK119 := n0_
                  have BK121 := n1_
                  have HB := n2_
                  clear n0_ n1_ n2_
                  replace BK119 := Aside0.mk (blk_drew BK119.out)
                  replace BK121 := Aside0.mk (blk_drew BK121.out)
                  replace HB := Aside0.mk (below_drew1 HB.out)
                  refine start_ (n := 29) (S := fun w' => True) (ds := []) #[false, false, false, false, false, false, false, false, false, false, false, false, false, false, false, false, false, false, false, false, false, false, false, false, false, false, false, false, false] (by kernel_rfl) rfl rfl trivial (fun hHeld => ?_); refine with_tabW dev_Check.tab5 dev_Check.bits5 (fun HT_ HW_ => ?_)
                  generalize w48.drew = w49 at BK119 BK121 HB hHeld ⊢
                  refine pu_ 0 28 ?_
                  refine pu_ 1 29 ?_
                  refine un_ 2 30 ?_
                  refine un_ 3 31 ?_
                  refine un_ 4 32 ?_
                  refine un_ 5 33 ?_
                  refine pu_ 6 34 ?_
                  refine pu_ 7 35 ?_
                  refine un_ 8 36 ?_
                  refine un_ 9 37 ?_
                  refine un_ 10 38 ?_
                  refine pu_ 11 39 ?_
                  refine pu_ 12 40 ?_
                  refine un_ 13 41 ?_
                  refine un_ 14 42 ?_
                  refine un_ 15 43 ?_
                  refine un_ 16 44 ?_
                  refine un_ 17 45 ?_
                  refine un_ 18 46 ?_
                  refine un_ 19 47 ?_
                  refine un_ 20 48 ?_
                  refine un_ 21 49 ?_
                  refine un_ 22 50 ?_
                  refine un_ 23 51 ?_
                  refine un_ 24 52 ?_
                  refine un_ 25 53 ?_
                  refine un_ 26 54 ?_
                  refine pu_ 27 55 ?_
                  refine pu_ 28 3 ?_
                  refine done_ (done_of HT_.out (by kernel_rfl)) ?_
                  try go_wp2
                  go_roundg k2
                  case measure => have := HJ1.out; have := HK2.out; omega
                  case rel => exact ⟨(false), (wrap64 (x23_2 + 1)), (by first | rfl | (simp; done) | (simp [*]; done)), (by first | rfl | (simp; done) | (simp [*]; done)), H', ⟨by have := HJ1.out; have := HK2.out; omega⟩, ⟨bk_ BK119⟩, ⟨bel_⟩⟩
              · rw [if_neg c12] at H
                exact absurd H (by simp)
            · rw [if_neg c11] at H
              exact absurd H (by simp)
          · rw [if_neg c10] at H
            have c10b0 : decide (x23_2 < (l0_1.length : Int)) = false := decide_eq_false c10
            clear c10
            by_cases c50 : x3_2 = true
            · subst c50
              have H1 : ((slices_ContainsFunc_api_Block_api_Block.f l0_2 a0_0 l0_1 l0_2 a0_3 a0_4).bind fun t124 => (if t124 = true then (some 7) else (some 0))) = some r := by rw [if_pos rfl] at H; exact H
              clear H
              have H := H1
              clear H1
              replace H := Option.bind_eq_some_iff.mp H
              obtain ⟨t124, A510, H⟩ := H
              replace H : (if t124 = true then (some 7) else (some 0)) = some r := H
              have A51 := Aside0.mk A510
              clear A510
              by_cases c52 : t124 = true
              · subst c52
                have H1 : (some 7) = some r := by rw [if_pos rfl] at H; exact H
                clear H
                have H := H1
                clear H1
                obtain rfl := Option.some.inj H
                obtain ⟨hcz53_0, hcz53_1, hcz53_2, hcz53_3, hcz53_4⟩ := cl5_ BK119
                obtain ⟨hfz53_0, hfz53_1, hfz53_2, hfz53_3, hfz53_4⟩ := fz5_ BK119
                go_wp2_with (first | (go_at_call 36; (with_reducible refine (slices_ContainsFunc_api_Block_api_Block.calls _ _ l0_2 gb119 a0_0 l0_1 l0_2 a0_3 a0_4 true _ ?side1 ?side2 ?side3 A51.out).mono ?_); (case side1 => exact ⟨_, _, _, _, (bk_ BK119)⟩); (case side2 => exact cb_ HR0_2); (case side3 => exact HC0_2.out); rintro e w54 ⟨rfl, hb⟩; replace BK119 := kb_ BK119 hb; replace HB := hb_ hb; (try clear hb); (try clear hb2); (try clear hk); (try clear hi)))
                go_ret
                exact ⟨by first | rfl | (simp [errW_none, errW_some] <;> rfl) | (simp [*, errW_none, errW_some] <;> rfl), bel_⟩
              · replace c52 := Bool.eq_false_iff.mpr c52
                subst c52
                have H1 : (some 0) = some r := by rw [if_neg (show ¬ (false = true) by decide)] at H; exact H
                clear H
                have H := H1
                clear H1
                obtain rfl := Option.some.inj H
                obtain ⟨hcz55_0, hcz55_1, hcz55_2, hcz55_3, hcz55_4⟩ := cl5_ BK119
                obtain ⟨hfz55_0, hfz55_1, hfz55_2, hfz55_3, hfz55_4⟩ := fz5_ BK119
                go_wp2_with (first | (go_at_call 36; (with_reducible refine (slices_ContainsFunc_api_Block_api_Block.calls _ _ l0_2 gb119 a0_0 l0_1 l0_2 a0_3 a0_4 false _ ?side1 ?side2 ?side3 A51.out).mono ?_); (case side1 => exact ⟨_, _, _, _, (bk_ BK119)⟩); (case side2 => exact cb_ HR0_2); (case side3 => exact HC0_2.out); rintro e w56 ⟨rfl, hb⟩; replace BK119 := kb_ BK119 hb; replace HB := hb_ hb; (try clear hb); (try clear hb2); (try clear hk); (try clear hi)))
                go_ret
                exact ⟨by first | rfl | (simp [errW_none, errW_some] <;> rfl) | (simp [*, errW_none, errW_some] <;> rfl), bel_⟩
            · replace c50 := Bool.eq_false_iff.mpr c50
              subst c50
              have H1 : (some 7) = some r := by rw [if_neg (show ¬ (false = true) by decide)] at H; exact H
              clear H
              have H := H1
              clear H1
              obtain rfl := Option.some.inj H
              go_wp2
              go_ret
              exact ⟨by first | rfl | (simp [errW_none, errW_some] <;> rfl) | (simp [*, errW_none, errW_some] <;> rfl), bel_⟩

end Go.Proofs.YtcphflfjhkeooaaDoor.Z
end
