/- This session's own texts, laid together (a part that several claims share). -/
import Derived.Test.YtnngbhdofgodiaaGreatDoorProg
import Derived.Laws.Strings
import Derived.Below
import Derived.Deep.Draws
import Derived.Deep.AppendLies
import Derived.Maps.AppendAt
import Derived.OwnWalk
import Derived.Laws.BytesArg
import Derived.Laws.MakeOwn
import Derived.Laws.OwnMore
import Derived.Deep.OwnRows
import Derived.Tactics
import Derived.Lib.ConvBytes
import Derived.Laws.Slices
import Derived.WalkKit
import Derived.KernelRfl
import Derived.RowKit3
import Derived.Deep.LoopGhost
import Derived.Deep.QuietTactic
import Derived.BigQuiet
import Derived.WideLaws
import Derived.Deep.DeepCutAuto
import Derived.Deep.CutBlock
import Derived.Deep.RegionHeld3
import Derived.Laws.Rows
import Derived.Lib.AppendStr
import Derived.ArgAppend
import Derived.Laws.IdiomCopy
import Derived.OrdersHeld
import Derived.Laws.BitsLemmas
import Derived.RowKit
import Derived.Test.YtnngbhdofgodiaaGreatDoorWWords
import Derived.Test.YtnngbhdofgodiaaGreatDoorWLast
import Derived.Test.YtnngbhdofgodiaaGreatDoorWTab
import Derived.Test.YtnngbhdofgodiaaGreatDoorWQPut
import Derived.Test.YtnngbhdofgodiaaGreatDoorWApart
import Derived.Test.YtnngbhdofgodiaaGreatDoorWArr
import Derived.Test.YtnngbhdofgodiaaGreatDoorWZeros
import Derived.Test.YtnngbhdofgodiaaGreatDoorWFoot
import Derived.Test.YtnngbhdofgodiaaGreatDoorWKept
import Derived.Test.YtnngbhdofgodiaaGreatDoorWShare
import Derived.Test.YtnngbhdofgodiaaGreatDoorWN
import Derived.Test.YtnngbhdofgodiaaGreatDoorWEqStruct
import Derived.Test.YtnngbhdofgodiaaGreatDoorWRepsOne
import Derived.Test.YtnngbhdofgodiaaGreatDoorWGuard
import Derived.Test.YtnngbhdofgodiaaGreatDoorWNEv
import Derived.Test.YtnngbhdofgodiaaGreatDoorWMore
import Derived.WalkMore
import Derived.Lib.SliceRun
import Derived.Lib.AppendZeros
import Derived.Lib.Overlaps
import Derived.Deep.AppendSrc
import Derived.Deep.RegionLaw
import Derived.WalkSpells
import Derived.IntWalk
import Derived.Deep.DeepFit
import Derived.Shelf.RegionOpenPlain
import Derived.Lib.AppendZerosOnto
import Derived.Laws.NewBlocks
import Derived.Lib.Strings
section
/- The order of texts, byte by byte; what the walk takes of a text's > and <=. -/
namespace Go.Proofs.YtnngbhdofgodiaaGreatDoor.Z
open Go
theorem bl_irrefl : ∀ x : List UInt8, Op.bytesLess x x = false
  | [] => rfl
  | a :: x => by simp [Op.bytesLess, bl_irrefl x]
theorem bl_trans : ∀ {x y z : List UInt8}, Op.bytesLess x y = true → Op.bytesLess y z = true → Op.bytesLess x z = true
  | _, [], _, h, _ => by simp [Op.bytesLess] at h
  | [], _ :: _, [], _, h => by simp [Op.bytesLess] at h
  | _ :: _, _ :: _, [], _, h => by simp [Op.bytesLess] at h
  | [], _ :: _, _ :: _, _, _ => rfl
  | a :: x, b :: y, c :: z, h, k => by
    simp only [Op.bytesLess, Bool.or_eq_true, decide_eq_true_eq, Bool.and_eq_true, beq_iff_eq] at h k ⊢
    rcases h with h | ⟨rfl, h⟩ <;> rcases k with k | ⟨rfl, k⟩
    · exact .inl (UInt8.lt_trans h k)
    · exact .inl h
    · exact .inl k
    · exact .inr ⟨rfl, bl_trans h k⟩
theorem bl_total : ∀ x y : List UInt8, x = y ∨ Op.bytesLess x y = true ∨ Op.bytesLess y x = true
  | [], [] => .inl rfl
  | [], _ :: _ => .inr (.inl rfl)
  | _ :: _, [] => .inr (.inr rfl)
  | a :: x, b :: y => by
    simp only [Op.bytesLess, Bool.or_eq_true, decide_eq_true_eq, Bool.and_eq_true, beq_iff_eq]
    rcases Nat.lt_trichotomy a.toNat b.toNat with h | h | h
    · exact .inr (.inl (.inl (UInt8.lt_iff_toNat_lt.2 h)))
    · obtain rfl := UInt8.toNat_inj.1 h
      rcases bl_total x y with rfl | k | k
      · exact .inl rfl
      · exact .inr (.inl (.inr ⟨rfl, k⟩))
      · exact .inr (.inr (.inr ⟨rfl, k⟩))
    · exact .inr (.inr (.inl (UInt8.lt_iff_toNat_lt.2 h)))
theorem bl_asymm {x y : List UInt8} (h : Op.bytesLess x y = true) : Op.bytesLess y x = false := by
  cases k : Op.bytesLess y x
  · rfl
  · have := bl_trans h k; rw [bl_irrefl] at this; cases this
theorem bl_ne {x y : List UInt8} (h : Op.bytesLess x y = true) : x ≠ y := by rintro rfl; rw [bl_irrefl] at h; cases h
theorem bl_leq (x y : List UInt8) : (Op.bytesLess x y || x == y) = !Op.bytesLess y x := by
  rcases bl_total x y with rfl | h | h
  · simp [bl_irrefl]
  · simp [h, bl_asymm h]
  · have : (x == y) = false := by simpa using (bl_ne h).symm
    simp [h, bl_asymm h, this]
theorem bl_gtr (x y : List UInt8) : (!(Op.bytesLess x y || x == y)) = Op.bytesLess y x := by rw [bl_leq]; simp
@[go_sem] theorem binOp_string_gtr_ (t : TypeId) (a b : ByteArray) : binOp .gtr t (.string a) (.string b) = pure (.bool (Op.bytesLess b.toList a.toList)) := by
  simp [binOp, Op.stringOp]
  rw [← Bool.not_or, bl_gtr]
@[go_sem] theorem binOp_string_leq_ (t : TypeId) (a b : ByteArray) : binOp .leq t (.string a) (.string b) = pure (.bool !(Op.bytesLess b.toList a.toList)) := by
  simp [binOp, Op.stringOp]
  rw [bl_leq]
@[go_sem] theorem binOp_string_geq_ (t : TypeId) (a b : ByteArray) : binOp .geq t (.string a) (.string b) = pure (.bool !(Op.bytesLess a.toList b.toList)) := by
  simp [binOp, Op.stringOp]
end Go.Proofs.YtnngbhdofgodiaaGreatDoor.Z
end

section
-- Printed by a program of this session (mp.py) out of the translation.
namespace Go.Proofs.YtnngbhdofgodiaaGreatDoor.Z
open Go.RowKit Go.Proofs.YtnngbhdofgodiaaGreatDoorW.PrintWords Go.Proofs.YtnngbhdofgodiaaGreatDoorW.PrintLast Go.Proofs.YtnngbhdofgodiaaGreatDoorW.PrintMore
attribute [local go_sem] max2_int min2_int max_two min_two max_three min_three max_four min_four   -- for this text's walks alone
set_option linter.unusedVariables false
set_option linter.unusedSimpArgs false



def errW : Option Int → Value
  | none => .nilIface
  | some c => .iface 0 (.int .i64 c)
theorem errW_none : errW none = .nilIface := rfl
theorem errW_some (c : Int) : errW (some c) = .iface 0 (.int .i64 c) := rfl

theorem info5 : (Tryz.prog.info? 5).map (fun i => (i.zero, i.size, i.bytes)) = some (some (.int .u8 0), 1, 1) := by kernel_rfl
theorem info26 : (Tryz.prog.info? 26).map (fun i => (i.zero, i.size, i.bytes)) = some (some (.int .i64 0), 1, 8) := by kernel_rfl
theorem info54 : (Tryz.prog.info? 54).map (fun i => (i.zero, i.size, i.bytes)) = some (some (.agg #[(.string ⟨#[]⟩), (.string ⟨#[]⟩)]), 2, 32) := by kernel_rfl
-- the values' own types
/-! #### struct type 54 -/
structure S54 where
  f0 : ByteArray
  f1 : ByteArray
def z54 : S54 := ⟨(⟨#[]⟩ : ByteArray), (⟨#[]⟩ : ByteArray)⟩
def k54 : Kd S54 := Kd.iso (Kd.pair Kd.string Kd.string) (fun x : S54 => (x.f0, x.f1))
theorem k54_open {w : World} {x : S54} {cs : List Value} (h : k54.K w x cs) : cs = [.string x.f0, .string x.f1] := by
  obtain ⟨_, _, rfl, rfl, rfl⟩ := h
  exact rfl
theorem k54_openM {w : World} {base : Nat} {ok : Nat → Prop} {x : S54} {cs : List Value} (h : k54.M w base ok x cs) : cs = [.string x.f0, .string x.f1] := by
  obtain ⟨_, _, rfl, rfl, rfl⟩ := h
  exact rfl
theorem k54_mk (w : World) (x : S54)  : k54.K w x [.string x.f0, .string x.f1] := ⟨[.string x.f0], [.string x.f1], rfl, rfl, rfl⟩
theorem k54_mkM (w : World) (base : Nat) (ok : Nat → Prop) (x : S54)  : k54.M w base ok x [.string x.f0, .string x.f1] := ⟨[.string x.f0], [.string x.f1], rfl, rfl, rfl⟩
def rd_T54 (xs : List S54) (i : Int) : S54 := xs.getD i.toNat z54
theorem at_T54 {w : World} {A : Option Addr} {n : Nat} {xs : List S54} (h : Kd.C k54 w A n xs) (i : Int) (h0 : 0 ≤ i) (h1 : i < n) : ∃ ad , A = some ad ∧ w.cell? (ad.add (i.toNat * 2)) = some (.string (rd_T54 xs i).f0) ∧ w.cell? ⟨(ad.add (i.toNat * 2)).block, (ad.add (i.toNat * 2)).off + 1, none⟩ = some (.string (rd_T54 xs i).f1) := by
  obtain ⟨ad, c, e, _, hK, hc0⟩ := Kd.C_get h z54 i h0 h1
  have hc : ∀ j u, c[j]? = some u → w.cell? (ad.add (i.toNat * 2 + j)) = some u := hc0
  obtain rfl := k54_open hK
  exact ⟨ad, e, hc 0 _ rfl, by rw [← add_field _ _ 1 (by omega)]; exact hc 1 _ rfl⟩

/-! #### struct type 43 -/
structure S43 where
  f0 : ByteArray
  f1 : Bool
  f2 : ByteArray
def z43 : S43 := ⟨(⟨#[]⟩ : ByteArray), false, (⟨#[]⟩ : ByteArray)⟩
def k43 : Kd S43 := Kd.iso (Kd.pair Kd.string (Kd.pair Kd.bool Kd.string)) (fun x : S43 => (x.f0, x.f1, x.f2))
theorem k43_open {w : World} {x : S43} {cs : List Value} (h : k43.K w x cs) : cs = [.string x.f0, .bool x.f1, .string x.f2] := by
  obtain ⟨_, _, rfl, rfl, ⟨_, _, rfl, rfl, rfl⟩⟩ := h
  exact rfl
theorem k43_openM {w : World} {base : Nat} {ok : Nat → Prop} {x : S43} {cs : List Value} (h : k43.M w base ok x cs) : cs = [.string x.f0, .bool x.f1, .string x.f2] := by
  obtain ⟨_, _, rfl, rfl, ⟨_, _, rfl, rfl, rfl⟩⟩ := h
  exact rfl
theorem k43_mk (w : World) (x : S43)  : k43.K w x [.string x.f0, .bool x.f1, .string x.f2] := ⟨[.string x.f0], [.bool x.f1, .string x.f2], rfl, rfl, ⟨[.bool x.f1], [.string x.f2], rfl, rfl, rfl⟩⟩
theorem k43_mkM (w : World) (base : Nat) (ok : Nat → Prop) (x : S43)  : k43.M w base ok x [.string x.f0, .bool x.f1, .string x.f2] := ⟨[.string x.f0], [.bool x.f1, .string x.f2], rfl, rfl, ⟨[.bool x.f1], [.string x.f2], rfl, rfl, rfl⟩⟩
def rd_T43 (xs : List S43) (i : Int) : S43 := xs.getD i.toNat z43
theorem at_T43 {w : World} {A : Option Addr} {n : Nat} {xs : List S43} (h : Kd.C k43 w A n xs) (i : Int) (h0 : 0 ≤ i) (h1 : i < n) : ∃ ad , A = some ad ∧ w.cell? (ad.add (i.toNat * 3)) = some (.string (rd_T43 xs i).f0) ∧ w.cell? ⟨(ad.add (i.toNat * 3)).block, (ad.add (i.toNat * 3)).off + 1, none⟩ = some (.bool (rd_T43 xs i).f1) ∧ w.cell? ⟨(ad.add (i.toNat * 3)).block, (ad.add (i.toNat * 3)).off + 2, none⟩ = some (.string (rd_T43 xs i).f2) := by
  obtain ⟨ad, c, e, _, hK, hc0⟩ := Kd.C_get h z43 i h0 h1
  have hc : ∀ j u, c[j]? = some u → w.cell? (ad.add (i.toNat * 3 + j)) = some u := hc0
  obtain rfl := k43_open hK
  exact ⟨ad, e, hc 0 _ rfl, by rw [← add_field _ _ 1 (by omega)]; exact hc 1 _ rfl, by rw [← add_field _ _ 2 (by omega)]; exact hc 2 _ rfl⟩

end Go.Proofs.YtnngbhdofgodiaaGreatDoor.Z
end

section
/- How a round function comes to its answer: the steps. -/
namespace Go.Proofs.YtnngbhdofgodiaaGreatDoor.Z
open Go.RowKit Go.Proofs.YtnngbhdofgodiaaGreatDoorW.PrintWords Go.Proofs.YtnngbhdofgodiaaGreatDoorW.PrintLast
set_option linter.unusedVariables false
theorem Ev.val {α : Type} {g : Nat → Option α} {a b : α} (h : Ev g a) (e : a = b) : Ev g b := e ▸ h
theorem Ev.const {α : Type} {x : Option α} {r : α} (h : x = some r) : Ev (fun _ => x) r := ⟨0, fun _ _ => h⟩
theorem Ev.ifp {α : Type} {c : Prop} [Decidable c] {f g : Nat → Option α} {r : α} (hc : c) (h : Ev f r) : Ev (fun k => if c then f k else g k) r := Ev.congr (fun k => if_pos hc) h
theorem Ev.ifn {α : Type} {c : Prop} [Decidable c] {f g : Nat → Option α} {r : α} (hc : ¬ c) (h : Ev g r) : Ev (fun k => if c then f k else g k) r := Ev.congr (fun k => if_neg hc) h
theorem Ev.ite {α : Type} {c : Prop} [Decidable c] {f g : Nat → Option α} {r : α} (h : c → Ev f r) (h2 : ¬ c → Ev g r) : Ev (fun k => if c then f k else g k) r := by
  by_cases hc : c
  · exact Ev.ifp hc (h hc)
  · exact Ev.ifn hc (h2 hc)
theorem Ev.bindc {α β : Type} {x : Option α} {f : Nat → α → Option β} {a : α} {r : β} (h : x = some a) (k : Ev (fun n => f n a) r) : Ev (fun n => x.bind (f n)) r := Ev.bind (Ev.const h) k
theorem Ev.both {α : Type} {g : Nat → Option α} {a b : α} (h : Ev g a) (h2 : Ev g b) : a = b := by
  obtain ⟨K, h⟩ := h
  obtain ⟨K2, h2⟩ := h2
  have e1 := h (max K K2) (by omega)
  have e2 := h2 (max K K2) (by omega)
  rw [e1] at e2
  exact Option.some.inj e2
theorem w64 {i : Int} (h0 : -9223372036854775808 ≤ i) (h1 : i ≤ 9223372036854775807) : wrap64 i = i := by unfold wrap64; omega
theorem bytes_inj {a b : ByteArray} (h : a.toList = b.toList) : a = b := by
  rw [ByteArray.toList_eq, ByteArray.toList_eq] at h
  cases a; cases b; simp_all
end Go.Proofs.YtnngbhdofgodiaaGreatDoor.Z
end

section
/- Lists of items, over lists: right ones, what changes make of one, what the changes between two are. -/
namespace Go.Proofs.YtnngbhdofgodiaaGreatDoor.Z
open Go.RowKit Go.Proofs.YtnngbhdofgodiaaGreatDoorW.PrintWords Go.Proofs.YtnngbhdofgodiaaGreatDoorW.PrintLast
set_option linter.unusedVariables false
abbrev It := S54
abbrev Ch := S43
abbrev key (x : It) : List UInt8 := x.f0.toList
abbrev ck (c : Ch) : List UInt8 := c.f0.toList
theorem it_ext {x y : It} (h0 : x.f0.toList = y.f0.toList) (h1 : x.f1.toList = y.f1.toList) : x = y := by
  cases x; cases y
  simp only [S54.mk.injEq]
  exact ⟨bytes_inj h0, bytes_inj h1⟩
theorem ch_ext {x y : Ch} (h0 : x.f0.toList = y.f0.toList) (h1 : x.f1 = y.f1) (h2 : x.f2.toList = y.f2.toList) : x = y := by
  cases x; cases y
  simp only [S43.mk.injEq]
  exact ⟨bytes_inj h0, h1, bytes_inj h2⟩
def okK (k : ByteArray) : Bool := decide (k.toList ≠ [] ∧ k.size ≤ 48)
def okI (x : It) : Bool := okK x.f0 && decide (x.f1.size ≤ 160)
def okF : Option It → List It → Bool
  | _, [] => true
  | p, x :: l => okI x && (match p with | none => true | some q => Op.bytesLess (key q) (key x)) && okF (some x) l
def okL (l : List It) : Bool := okF none l
def Asc (l : List It) : Prop := l.Pairwise (fun x y => Op.bytesLess (key x) (key y) = true)
theorem okF_iff : ∀ (l : List It) (p : Option It), okF p l = true ↔ (∀ x ∈ l, okI x = true) ∧ Asc (p.toList ++ l)
  | [], none => by simp [okF, Asc]
  | [], some q => by simp [okF, Asc]
  | x :: l, none => by
    have ih := okF_iff l (some x)
    simp only [okF, Bool.and_true, Bool.and_eq_true, ih, Option.toList, List.nil_append, List.mem_cons, forall_eq_or_imp, List.singleton_append]
    constructor
    · rintro ⟨a, b, c⟩; exact ⟨⟨a, b⟩, c⟩
    · rintro ⟨⟨a, b⟩, c⟩; exact ⟨a, b, c⟩
  | x :: l, some q => by
    have ih := okF_iff l (some x)
    simp only [okF, Bool.and_eq_true, ih, Option.toList, List.mem_cons, forall_eq_or_imp, List.singleton_append]
    constructor
    · rintro ⟨⟨a, d⟩, b, c⟩
      refine ⟨⟨a, b⟩, ?_⟩
      unfold Asc at c ⊢
      refine List.pairwise_cons.2 ⟨fun y hy => ?_, c⟩
      rcases List.mem_cons.1 hy with rfl | hy
      · exact d
      · exact bl_trans d ((List.pairwise_cons.1 c).1 y hy)
    · rintro ⟨⟨a, b⟩, c⟩
      unfold Asc at c ⊢
      have := List.pairwise_cons.1 c
      exact ⟨⟨a, this.1 x (List.mem_cons_self ..)⟩, b, this.2⟩
theorem okL_iff (l : List It) : okL l = true ↔ (∀ x ∈ l, okI x = true) ∧ Asc l := by
  unfold okL; rw [okF_iff]; simp
theorem Asc.cons {x : It} {l : List It} (h : Asc (x :: l)) : (∀ y ∈ l, Op.bytesLess (key x) (key y) = true) ∧ Asc l := List.pairwise_cons.1 h
theorem Asc.parts {a b : List It} (h : Asc (a ++ b)) : Asc a ∧ Asc b ∧ ∀ x ∈ a, ∀ y ∈ b, Op.bytesLess (key x) (key y) = true := List.pairwise_append.1 h
theorem Asc.app {a b : List It} (h1 : Asc a) (h2 : Asc b) (h3 : ∀ x ∈ a, ∀ y ∈ b, Op.bytesLess (key x) (key y) = true) : Asc (a ++ b) := List.pairwise_append.2 ⟨h1, h2, h3⟩
def okc (c : Ch) : Bool := okK c.f0 && decide (c.f2.size ≤ 160) && (c.f1 || decide (c.f2.toList = []))
def okC (l : List Ch) : Bool := l.all okc
-- where a key is
def lo (l : List It) (k : List UInt8) : List It := l.takeWhile (fun x => Op.bytesLess (key x) k)
def up (l : List It) (k : List UInt8) : List It := l.dropWhile (fun x => Op.bytesLess (key x) k)
def fnd (l : List It) (k : List UInt8) : Bool := match up l k with | x :: _ => key x == k | [] => false
def hi (l : List It) (k : List UInt8) : List It := (up l k).dropWhile (fun x => key x == k)
def new_ (c : Ch) : List It := if c.f1 then [⟨c.f0, c.f2⟩] else []
def put (l : List It) (c : Ch) : List It := lo l (ck c) ++ new_ c ++ hi l (ck c)
theorem lo_up (l : List It) (k : List UInt8) : lo l k ++ up l k = l := List.takeWhile_append_dropWhile
theorem lo_mem {l : List It} {k : List UInt8} : ∀ x ∈ lo l k, Op.bytesLess (key x) k = true := by
  unfold lo
  induction l with
  | nil => simp
  | cons y l ih =>
    intro x hx
    rw [List.takeWhile_cons] at hx
    split at hx
    next h => rcases List.mem_cons.1 hx with rfl | hx
              · exact h
              · exact ih x hx
    next h => cases hx
theorem up_head {l : List It} {k : List UInt8} {x : It} {r : List It} (h : up l k = x :: r) : Op.bytesLess (key x) k = false := by
  unfold up at h
  induction l with
  | nil => simp at h
  | cons y l ih =>
    rw [List.dropWhile_cons] at h
    split at h
    next => exact ih h
    next hn => injection h with h1 _; subst h1; simpa using hn
theorem up_ge {l : List It} (ha : Asc l) {k : List UInt8} : ∀ x ∈ up l k, Op.bytesLess (key x) k = false := by
  intro x hx
  cases hu : up l k with
  | nil => rw [hu] at hx; cases hx
  | cons y r =>
    have h1 := up_head hu
    rw [hu] at hx
    rcases List.mem_cons.1 hx with rfl | hx
    · exact h1
    · have h2 : Asc (lo l k ++ y :: r) := by rw [← hu, lo_up]; exact ha
      have h3 := (h2.parts.2.1.cons).1 x hx
      cases hb : Op.bytesLess (key x) k
      · rfl
      · have := bl_trans h3 hb; rw [this] at h1; cases h1
/-- The three parts of a right list about a key. -/
theorem parts_of {l : List It} (ha : Asc l) (k : List UInt8) : ∃ mid, l = lo l k ++ mid ++ hi l k ∧ up l k = mid ++ hi l k ∧ (∀ x ∈ lo l k, Op.bytesLess (key x) k = true) ∧ (∀ x ∈ hi l k, Op.bytesLess k (key x) = true) ∧
    ((mid = [] ∧ fnd l k = false) ∨ (∃ x, mid = [x] ∧ key x = k ∧ fnd l k = true)) := by
  cases hu : up l k with
  | nil =>
    have hh : hi l k = [] := by unfold hi; rw [hu]; rfl
    refine ⟨[], ?_, by rw [hh]; rfl, lo_mem, by rw [hh]; simp, .inl ⟨rfl, by unfold fnd; rw [hu]⟩⟩
    have := lo_up l k
    rw [hu] at this
    rw [hh]; simpa using this.symm
  | cons y r =>
    have h2 : Asc (lo l k ++ y :: r) := by rw [← hu, lo_up]; exact ha
    have hr := (h2.parts.2.1.cons).1
    have hy := up_head hu
    have hl : l = lo l k ++ y :: r := by rw [← hu, lo_up]
    by_cases he : key y = k
    · have hd : r.dropWhile (fun x => key x == k) = r := by
        cases r with
        | nil => rfl
        | cons z r =>
          have hz := hr z (List.mem_cons_self ..)
          have : (key z == k) = false := by rw [beq_eq_false_iff_ne]; rintro hk; rw [← he] at hk; exact bl_ne hz hk.symm
          rw [List.dropWhile_cons]; simp [this]
      have hh : hi l k = r := by
        unfold hi; rw [hu, List.dropWhile_cons]
        simp only [he, beq_self_eq_true, if_true]
        exact hd
      refine ⟨[y], by rw [hh]; simpa using hl, by rw [hh]; rfl, lo_mem, ?_, .inr ⟨y, rfl, he, by unfold fnd; rw [hu]; simpa using he⟩⟩
      rw [hh]; intro x hx; rw [← he]; exact hr x hx
    · have hk : Op.bytesLess k (key y) = true := by
        rcases bl_total (key y) k with h | h | h
        · exact absurd h he
        · have h' : Op.bytesLess (key y) k = true := h
          rw [hy] at h'; cases h'
        · exact h
      have hb : (key y == k) = false := by rw [beq_eq_false_iff_ne]; exact he
      have hh : hi l k = y :: r := by unfold hi; rw [hu, List.dropWhile_cons]; simp [hb]
      refine ⟨[], by rw [hh]; simpa using hl, by rw [hh]; rfl, lo_mem, ?_, .inl ⟨rfl, by unfold fnd; rw [hu]; exact hb⟩⟩
      rw [hh]; intro x hx
      rcases List.mem_cons.1 hx with rfl | hx
      · exact hk
      · exact bl_trans hk (hr x hx)
theorem lo_parts {pre rest : List It} {k : List UInt8} (h1 : ∀ x ∈ pre, Op.bytesLess (key x) k = true) (h2 : ∀ x ∈ rest, Op.bytesLess (key x) k = false) : lo (pre ++ rest) k = pre ∧ up (pre ++ rest) k = rest := by
  unfold lo up
  induction pre with
  | nil =>
    cases rest with
    | nil => exact ⟨rfl, rfl⟩
    | cons x r => have := h2 x (List.mem_cons_self ..); simp [this]
  | cons x pre ih =>
    have hx := h1 x (List.mem_cons_self ..)
    have := ih (fun y hy => h1 y (List.mem_cons_of_mem _ hy))
    simp [hx, this.1, this.2]
theorem put_parts {pre mid post : List It} {c : Ch} (h1 : ∀ x ∈ pre, Op.bytesLess (key x) (ck c) = true) (h2 : ∀ x ∈ mid, key x = ck c) (h3 : ∀ x ∈ post, Op.bytesLess (ck c) (key x) = true) : put (pre ++ mid ++ post) c = pre ++ new_ c ++ post := by
  have hr : ∀ x ∈ mid ++ post, Op.bytesLess (key x) (ck c) = false := by
    intro x hx
    rcases List.mem_append.1 hx with hx | hx
    · rw [h2 x hx]; exact bl_irrefl _
    · exact bl_asymm (h3 x hx)
  rw [List.append_assoc]
  have hl := lo_parts h1 hr
  unfold put hi
  rw [hl.1, hl.2]
  congr 1
  have hd : post.dropWhile (fun x => key x == ck c) = post := by
    cases post with
    | nil => rfl
    | cons z r =>
      have : (key z == ck c) = false := by rw [beq_eq_false_iff_ne]; exact (bl_ne (h3 z (List.mem_cons_self ..))).symm
      simp [this]
  induction mid with
  | nil => exact hd
  | cons x mid ih =>
    have hx : (key x == ck c) = true := by simpa using h2 x (List.mem_cons_self ..)
    rw [List.cons_append, List.dropWhile_cons, if_pos hx]
    exact ih (fun y hy => h2 y (List.mem_cons_of_mem _ hy)) (fun y hy => hr y (by simp at hy ⊢; exact .inr hy)) (lo_parts h1 (fun y hy => hr y (by simp at hy ⊢; exact .inr hy)))
theorem new_ok {c : Ch} (hc : okc c = true) : ∀ x ∈ new_ c, okI x = true := by
  intro x hx
  unfold new_ at hx
  split at hx
  next => rw [List.mem_singleton.1 hx]; unfold okc at hc; unfold okI; simp only [Bool.and_eq_true] at hc ⊢; exact ⟨hc.1.1, hc.1.2⟩
  next => cases hx
theorem new_key {c : Ch} : ∀ x ∈ new_ c, key x = ck c := by
  intro x hx
  unfold new_ at hx
  split at hx
  next => rw [List.mem_singleton.1 hx]
  next => cases hx
theorem new_asc (c : Ch) : Asc (new_ c) := by
  unfold new_ Asc
  split <;> simp
theorem put_ok {l : List It} {c : Ch} (hl : okL l = true) (hc : okc c = true) : okL (put l c) = true := by
  rw [okL_iff] at hl ⊢
  obtain ⟨h1, h2⟩ := hl
  obtain ⟨mid, hp, hu, hlo, hhi, hm⟩ := parts_of h2 (ck c)
  have hA : Asc (lo l (ck c) ++ (mid ++ hi l (ck c))) := by rw [← List.append_assoc, ← hp]; exact h2
  have hmem : ∀ x, x ∈ lo l (ck c) ∨ x ∈ hi l (ck c) → x ∈ l := by
    intro x hx; rw [hp]; simp only [List.mem_append]; rcases hx with hx | hx
    · exact .inl (.inl hx)
    · exact .inr hx
  refine ⟨fun x hx => ?_, ?_⟩
  · unfold put at hx
    simp only [List.mem_append] at hx
    rcases hx with (hx | hx) | hx
    · exact h1 x (hmem x (.inl hx))
    · exact new_ok hc x hx
    · exact h1 x (hmem x (.inr hx))
  · unfold put
    rw [List.append_assoc]
    refine hA.parts.1.app ((new_asc c).app hA.parts.2.1.parts.2.1 fun x hx y hy => by rw [new_key x hx]; exact hhi y hy) fun x hx y hy => ?_
    rcases List.mem_append.1 hy with hy | hy
    · rw [new_key y hy]; exact hlo x hx
    · exact hA.parts.2.2 x hx y (List.mem_append_right _ hy)
theorem put_len (l : List It) (c : Ch) : (put l c).length ≤ l.length + 1 := by
  have h1 := congrArg List.length (lo_up l (ck c))
  rw [List.length_append] at h1
  have h2 : (hi l (ck c)).length ≤ (up l (ck c)).length := List.Sublist.length_le (List.dropWhile_sublist _)
  unfold put new_
  simp only [List.length_append]
  split <;> simp <;> omega
-- what is there
def look (l : List It) (k : List UInt8) : Option ByteArray := (l.find? (fun x => key x == k)).map (·.f1)
theorem look_app (a b : List It) (k : List UInt8) : look (a ++ b) k = (look a k).or (look b k) := by
  unfold look; rw [List.find?_append]; cases h : a.find? (fun x => key x == k) <;> simp
theorem look_none {l : List It} {k : List UInt8} (h : ∀ x ∈ l, key x ≠ k) : look l k = none := by
  unfold look
  rw [List.find?_eq_none.2 (fun x hx => by simpa using h x hx)]; rfl
theorem look_cons (x : It) (l : List It) (k : List UInt8) : look (x :: l) k = if key x = k then some x.f1 else look l k := by
  unfold look
  rw [List.find?_cons]
  by_cases h : key x = k
  · simp [h]
  · have : (key x == k) = false := by rw [beq_eq_false_iff_ne]; exact h
    rw [if_neg h, this]
theorem look_put {l : List It} (ha : Asc l) (c : Ch) (k : List UInt8) : look (put l c) k = if ck c = k then (if c.f1 then some c.f2 else none) else look l k := by
  obtain ⟨mid, hp, hu, hlo, hhi, hm⟩ := parts_of ha (ck c)
  have hl : look l k = ((look (lo l (ck c)) k).or (look mid k)).or (look (hi l (ck c)) k) := by
    have := congrArg (fun z => look z k) hp
    simp only [look_app] at this
    exact this
  unfold put
  rw [look_app, look_app, hl]
  by_cases hk : ck c = k
  · subst hk
    rw [look_none (l := lo l (ck c)) (fun x hx => bl_ne (hlo x hx)), look_none (l := hi l (ck c)) (fun x hx => (bl_ne (hhi x hx)).symm)]
    simp only [if_true, Option.none_or, Option.or_none]
    unfold new_
    by_cases hf : c.f1 = true
    · simp [hf, look_cons]
    · simp only [hf, if_false, Bool.false_eq_true]; rfl
  · rw [if_neg hk, look_none (l := new_ c) (fun x hx => by rw [new_key x hx]; exact hk), look_none (l := mid) (fun x hx => by
      rcases hm with ⟨rfl, _⟩ | ⟨y, rfl, hy, _⟩
      · cases hx
      · rw [List.mem_singleton.1 hx, hy]; exact hk)]
theorem look_ext : ∀ {a b : List It}, Asc a → Asc b → (∀ k, (look a k).map (·.toList) = (look b k).map (·.toList)) → a = b
  | [], [], _, _, _ => rfl
  | [], y :: b, _, _, h => by have := h (key y); rw [look_cons] at this; simp [look] at this
  | x :: a, [], _, _, h => by have := h (key x); rw [look_cons] at this; simp [look] at this
  | x :: a, y :: b, ha, hb, h => by
    have hx := ha.cons.1
    have hy := hb.cons.1
    rcases bl_total (key x) (key y) with hk | hk | hk
    · have h0 := h (key x)
      rw [look_cons, look_cons, if_pos rfl, if_pos hk.symm] at h0
      obtain rfl : x = y := it_ext hk (by simpa using h0)
      refine congrArg (x :: ·) (look_ext ha.cons.2 hb.cons.2 fun k => ?_)
      by_cases hkk : key x = k
      · subst hkk
        rw [look_none (fun z hz => (bl_ne (hx z hz)).symm), look_none (fun z hz => (bl_ne (hy z hz)).symm)]
      · have := h k
        rwa [look_cons, look_cons, if_neg hkk, if_neg hkk] at this
    · have h0 := h (key x)
      rw [look_cons, if_pos rfl, look_none (l := y :: b) (fun z hz => by
        rcases List.mem_cons.1 hz with rfl | hz
        · exact (bl_ne hk).symm
        · exact (bl_ne (bl_trans hk (hy z hz))).symm)] at h0
      cases h0
    · have h0 := h (key y)
      rw [look_cons (x := y), if_pos rfl, look_none (l := x :: a) (fun z hz => by
        rcases List.mem_cons.1 hz with rfl | hz
        · exact (bl_ne hk).symm
        · exact (bl_ne (bl_trans hk (hx z hz))).symm)] at h0
      cases h0
-- the reference's Done
def doneR (c : Ch) : Bool → List It → List It
  | f, [] => if f then [] else [⟨c.f0, c.f2⟩]
  | f, x :: l => (if !f && !Op.bytesLess (key x) (ck c) then [⟨c.f0, c.f2⟩] else []) ++ (if key x = ck c then [] else [x]) ++ doneR c (f || !Op.bytesLess (key x) (ck c)) l
theorem doneR_true (c : Ch) : ∀ l : List It, (∀ x ∈ l, key x ≠ ck c) → doneR c true l = l
  | [], _ => rfl
  | x :: l, h => by
    unfold doneR
    rw [if_neg (h x (List.mem_cons_self ..))]
    simp only [Bool.not_true, Bool.false_and, Bool.false_eq_true, if_false, List.nil_append, Bool.true_or, List.cons_append, List.cons.injEq, true_and]
    exact doneR_true c l (fun y hy => h y (List.mem_cons_of_mem _ hy))
theorem doneR_put {l : List It} (ha : Asc l) (c : Ch) : doneR c (!c.f1) l = put l c := by
  obtain ⟨mid, hp, hu, hlo, hhi, hm⟩ := parts_of ha (ck c)
  have pre : ∀ (p r : List It), (∀ x ∈ p, Op.bytesLess (key x) (ck c) = true) → doneR c (!c.f1) (p ++ r) = p ++ doneR c (!c.f1) r := by
    intro p r hp
    induction p with
    | nil => rfl
    | cons x p ih =>
      have hx := hp x (List.mem_cons_self ..)
      rw [List.cons_append]
      conv => lhs; unfold doneR
      rw [if_neg (bl_ne hx), hx]
      simp only [Bool.not_true, Bool.and_false, Bool.false_eq_true, if_false, List.nil_append, Bool.or_false, List.cons_append, List.cons.injEq, true_and]
      exact ih (fun y hy => hp y (List.mem_cons_of_mem _ hy))
  conv => lhs; rw [hp, List.append_assoc]
  rw [pre _ _ hlo]
  unfold put
  rw [List.append_assoc]
  congr 1
  have hne : ∀ x ∈ hi l (ck c), key x ≠ ck c := fun x hx => (bl_ne (hhi x hx)).symm
  rcases hm with ⟨rfl, _⟩ | ⟨x, rfl, hx, _⟩
  · rw [List.nil_append]
    cases hh : hi l (ck c) with
    | nil => cases hf : c.f1 <;> simp [doneR, new_, hf]
    | cons y r =>
      rw [hh] at hhi hne
      have hy := bl_asymm (hhi y (List.mem_cons_self ..))
      conv => lhs; unfold doneR
      rw [if_neg (hne y (List.mem_cons_self ..)), hy]
      have ht := doneR_true c r (fun z hz => hne z (List.mem_cons_of_mem _ hz))
      cases hf : c.f1 <;> simp [new_, hf, ht]
  · rw [List.singleton_append]
    conv => lhs; unfold doneR
    have hb : Op.bytesLess (key x) (ck c) = false := by rw [hx]; exact bl_irrefl _
    rw [if_pos hx, hb]
    have ht := doneR_true c _ hne
    cases hf : c.f1 <;> simp [new_, hf, ht]
def apl (l : List It) (cs : List Ch) : List It := cs.foldl put l
theorem apl_ok : ∀ {cs : List Ch} {l : List It}, okL l = true → okC cs = true → okL (apl l cs) = true
  | [], _, h, _ => h
  | c :: cs, l, h, hc => by
    unfold okC at hc
    rw [List.all_cons, Bool.and_eq_true] at hc
    exact apl_ok (cs := cs) (put_ok h hc.1) hc.2
theorem apl_len : ∀ (cs : List Ch) (l : List It), (apl l cs).length ≤ l.length + cs.length
  | [], l => by simp [apl]
  | c :: cs, l => by
    have := apl_len cs (put l c)
    have h2 := put_len l c
    simp only [apl, List.foldl_cons, List.length_cons] at this ⊢
    omega
-- the changes between two
def dl (x : It) : Ch := ⟨x.f0, false, ⟨#[]⟩⟩
def ad (x : It) : Ch := ⟨x.f0, true, x.f1⟩
def diffL : List It → List It → List Ch
  | a, [] => a.map dl
  | [], y :: b => ad y :: diffL [] b
  | x :: a, y :: b => if Op.bytesLess (key x) (key y) then dl x :: diffL a (y :: b) else if key x = key y then (if x.f1.toList = y.f1.toList then diffL a b else ad y :: diffL a b) else ad y :: diffL (x :: a) b
termination_by a b => a.length + b.length
theorem diffL_len : ∀ (a b : List It), (diffL a b).length ≤ a.length + b.length
  | a, [] => by rw [diffL]; simp
  | [], y :: b => by have := diffL_len [] b; rw [diffL]; simp at this ⊢; omega
  | x :: a, y :: b => by
    rw [diffL]
    have h1 := diffL_len a (y :: b)
    have h2 := diffL_len a b
    have h3 := diffL_len (x :: a) b
    simp only [List.length_cons] at h1 h2 h3 ⊢
    split
    · simp; omega
    · split
      · split
        · omega
        · simp; omega
      · simp; omega
termination_by a b => a.length + b.length
theorem diffL_key : ∀ {a b : List It} {c : Ch}, c ∈ diffL a b → (∃ x ∈ a, ck c = key x) ∨ (∃ y ∈ b, ck c = key y)
  | a, [], c, h => by
    rw [diffL] at h
    obtain ⟨x, hx, rfl⟩ := List.mem_map.1 h
    exact .inl ⟨x, hx, rfl⟩
  | [], y :: b, c, h => by
    rw [diffL] at h
    rcases List.mem_cons.1 h with rfl | h
    · exact .inr ⟨y, List.mem_cons_self .., rfl⟩
    · rcases diffL_key h with ⟨x, hx, _⟩ | ⟨z, hz, e⟩
      · cases hx
      · exact .inr ⟨z, List.mem_cons_of_mem _ hz, e⟩
  | x :: a, y :: b, c, h => by
    rw [diffL] at h
    have up2 : ∀ {a' b' : List It}, ((∃ x ∈ a', ck c = key x) ∨ (∃ y ∈ b', ck c = key y)) → (∀ z ∈ a', z ∈ x :: a) → (∀ z ∈ b', z ∈ y :: b) → (∃ z ∈ x :: a, ck c = key z) ∨ (∃ z ∈ y :: b, ck c = key z) := by
      rintro a' b' (⟨z, hz, e⟩ | ⟨z, hz, e⟩) h1 h2
      · exact .inl ⟨z, h1 z hz, e⟩
      · exact .inr ⟨z, h2 z hz, e⟩
    have hy : ck (ad y) = key y := rfl
    split at h
    · rcases List.mem_cons.1 h with rfl | h
      · exact .inl ⟨x, List.mem_cons_self .., rfl⟩
      · exact up2 (diffL_key h) (fun z hz => List.mem_cons_of_mem _ hz) (fun z hz => hz)
    · split at h
      · split at h
        · exact up2 (diffL_key h) (fun z hz => List.mem_cons_of_mem _ hz) (fun z hz => List.mem_cons_of_mem _ hz)
        · rcases List.mem_cons.1 h with rfl | h
          · exact .inr ⟨y, List.mem_cons_self .., rfl⟩
          · exact up2 (diffL_key h) (fun z hz => List.mem_cons_of_mem _ hz) (fun z hz => List.mem_cons_of_mem _ hz)
      · rcases List.mem_cons.1 h with rfl | h
        · exact .inr ⟨y, List.mem_cons_self .., rfl⟩
        · exact up2 (diffL_key h) (fun z hz => hz) (fun z hz => List.mem_cons_of_mem _ hz)
termination_by a b => a.length + b.length
/-- A property of each of the changes, by the four ways. -/
theorem diffL_each {Q : Ch → Prop} : ∀ {a b : List It}, (∀ x ∈ a, Q (dl x)) → (∀ y ∈ b, Q (ad y)) → ∀ c ∈ diffL a b, Q c
  | a, [], h1, h2, c, h => by
    rw [diffL] at h
    obtain ⟨x, hx, rfl⟩ := List.mem_map.1 h
    exact h1 x hx
  | [], y :: b, h1, h2, c, h => by
    rw [diffL] at h
    rcases List.mem_cons.1 h with rfl | h
    · exact h2 y (List.mem_cons_self ..)
    · exact diffL_each h1 (fun z hz => h2 z (List.mem_cons_of_mem _ hz)) c h
  | x :: a, y :: b, h1, h2, c, h => by
    rw [diffL] at h
    have ha := fun z hz => h1 z (List.mem_cons_of_mem _ hz)
    have hb := fun z hz => h2 z (List.mem_cons_of_mem _ hz)
    split at h
    · rcases List.mem_cons.1 h with rfl | h
      · exact h1 x (List.mem_cons_self ..)
      · exact diffL_each ha h2 c h
    · split at h
      · split at h
        · exact diffL_each ha hb c h
        · rcases List.mem_cons.1 h with rfl | h
          · exact h2 y (List.mem_cons_self ..)
          · exact diffL_each ha hb c h
      · rcases List.mem_cons.1 h with rfl | h
        · exact h2 y (List.mem_cons_self ..)
        · exact diffL_each h1 hb c h
termination_by a b => a.length + b.length
end Go.Proofs.YtnngbhdofgodiaaGreatDoor.Z
end

section
/- Small lemmas that the printed texts and the hand contracts share. -/
namespace Go.Proofs.YtnngbhdofgodiaaGreatDoor.Z
open Go.RowKit Go.Proofs.YtnngbhdofgodiaaGreatDoorW.PrintWords Go.Proofs.YtnngbhdofgodiaaGreatDoorW.PrintLast
/-- A body that lies in a scope and makes no jump. -/
theorem wp_scope_post {P : Program} {fn : Func} {R : Ending → World → Prop} {c : Code} {a : Act} {w : World} (h : c.wp P (bodyPost P fn R) a w) : (Code.scope c).wp P (bodyPost P fn R) a w := by
  refine wp_scope_straight ?_
  intro b k cs
  obtain ⟨e, a', w', hq, harr⟩ := h b k cs
  refine ⟨e, a', w', ?_, harr⟩
  cases e <;> first | exact hq | exact hq.elim
/-- A call of what a place holds: a plain function. -/
theorem gate_dyn {P : Program} {ops : Array Oper} {rest : List Oper} {o : Oper} {a : Act} {Q : Exit → Act → World → Prop} {W : World} {t : Tmp} {xs : Array Operand} {ts : Array TypeId}
    (_ho : o.op = .call { callee := .value (.tmp t), args := xs, argTypes := ts }) (h : wpList P ops Q (o :: rest) a W) : wpList P ops Q (o :: rest) a W := h
theorem goesD_ {P : Program} {ops : Array Oper} {Q : Exit → Act → World → Prop} {rest : List Oper} {oi : Oper} {a : Act} {w : World} (N : Option Tmp) (hd : oi.dst = N) (hg : oi.guard = none) {f : FuncId} {fn : Func} {x : Operand} {xs : Array Operand} {ts : Array TypeId} (hf : P.funcs[f]? = some fn) (hname : (fn.name == "runtime.NumGoroutine") = false) (hb : fn.body.isSome = true) (args : Array Value)
    (hop : oi.op = .call { callee := .value x, args := xs, argTypes := ts }) (hx : a.eval x = .func (.func f) #[] #[]) (hargs : xs.map a.eval = args)
    (h : Calls P f args w fun e w' => ∃ v, e = .returned v ∧ wpList P ops Q rest (a.put N v) w') : wpList P ops Q (oi :: rest) a w := by
  refine wpList_plain hg fun K hK => ?_
  have he := enters_ hf hname hb args w
  have hrun : (execOp a.eval oi).run P w = .ok (.enter f args) w := by
    unfold execOp
    simp [hop, resolve, Deferred.ofValue, invoke, hx, hargs, he]
  unfold Oper.wp
  rw [hrun, Oper.upon_enter]
  refine h.mono fun e w'' hh => ?_
  obtain ⟨v, rfl, hk⟩ := hh
  subst hd
  exact hK _ _ hk
/-- Where a slice's cells lie, plainly. -/
theorem addr_plain {w : World} {ad : Addr} {i : Nat} {v : Value} (h : w.cell? (ad.add i) = some v) (h0 : i = 0) : ad = ⟨ad.block, ad.off, none⟩ ∧ ad.block < w.heap.size := by
  subst h0
  rw [show ad.add 0 = ad from rfl] at h
  obtain ⟨b, o, s⟩ := ad
  cases s with
  | none => exact ⟨rfl, World.block_lt_of_cell? w _ h⟩
  | some s => simp only [World.cell?] at h; split at h <;> simp at h
theorem C_strings {w : World} {A : Option Addr} {n : Nat} {l : List ByteArray} (h : Kd.C Kd.string w A n l) (hn : 0 < n) :
    ∃ b o, A = some ⟨b, o, none⟩ ∧ b < w.heap.size ∧ ∀ j x, l[j]? = some x → w.cell? ⟨b, o + j, none⟩ = some (.string x) := by
  obtain ⟨hl, _, hc0⟩ := h
  obtain ⟨ad, rfl, hc⟩ := hc0 hn

  have hcell : ∀ j x, l[j]? = some x → w.cell? (ad.add j) = some (.string x) := by
    intro j x hx
    obtain ⟨c, hs, hr, hcell⟩ := hc j x hx
    have hr' : c = [.string x] := hr
    subst hr'
    have := hcell 0 _ rfl
    simpa [show (Kd.string).sz = 1 from rfl] using this
  obtain ⟨x0, hx0⟩ : ∃ x, l[0]? = some x := ⟨l[0]'(by omega), List.getElem?_eq_getElem (by omega)⟩
  obtain ⟨hp, hlt⟩ := addr_plain (hcell 0 x0 hx0) rfl
  refine ⟨ad.block, ad.off, by rw [← hp], hlt, fun j x hx => ?_⟩
  have := hcell j x hx
  rw [hp, add_at] at this
  exact this
end Go.Proofs.YtnngbhdofgodiaaGreatDoor.Z
end

section
/- Rows of the call's own, cell by cell: what copy, clear and append in place do to them. -/
namespace Go.Proofs.YtnngbhdofgodiaaGreatDoor.Z
open Go.RowKit Go.Proofs.YtnngbhdofgodiaaGreatDoorW.PrintWords Go.Proofs.YtnngbhdofgodiaaGreatDoorW.PrintLast
set_option linter.unusedVariables false
set_option linter.unusedSimpArgs false
theorem run_copy_k {P : Program} (w : World) (dT sT ty elem : TypeId) (b o dLen dCap : Nat) (a : Addr) (sLen sCap k : Nat) (cs : List Value)
    (hu : P.underlying dT = some (.slice elem)) (hs : (P.info? elem).map (·.size) = some k) (hn : cs.length = Nat.min sLen dLen * k)
    (hsrc : ∀ j v, cs[j]? = some v → w.cell? (a.add j) = some v) (hc : ∀ j, j < cs.length → (w.cell? ⟨b, o + j, none⟩).isSome = true) (hf : ∀ j, j < cs.length → w.frozen? ⟨b, o + j, none⟩ = false) (h1 : ∀ v ∈ cs, v.oneCell' = true) :
    (Builtin.copy_ #[dT, sT] ty #[.slice (some ⟨b, o, none⟩) dLen dCap, .slice (some a) sLen sCap]).run P w = .ok (goInt (Nat.min sLen dLen)) (w.setCells b o cs) := by
  have hl := run_loadCells_list (P := P) w a cs hsrc
  have hst := run_storeCells_cells (P := P) b o cs 0 w (by simpa using hc) (by simpa using hf) h1
  cases hq : P.info? elem with
  | none => simp [hq] at hs
  | some i =>
    have hi : i.size = k := by simpa [hq] using hs
    simp [Builtin.copy_, run_underlying hu, Builtin.lenOf, Builtin.firstCells, sizeOf, typeInfo, hq, hi, ← hn, hl, hst]
theorem run_clear_k {P : Program} (w : World) (t e ty : TypeId) (z : Value) (ht : P.underlying t = some (.slice e)) (hv : ∀ w, (zeroValue e).run P w = .ok z w) (h1 : ∀ u ∈ z.cells.toList, u.oneCell' = true) (b o n c : Nat) (hn : 0 < n)
    (hc : ∀ j, j < n * z.cells.size → (w.cell? ⟨b, o + j, none⟩).isSome = true) (hf : ∀ j, j < n * z.cells.size → w.frozen? ⟨b, o + j, none⟩ = false) :
    (Builtin.clear_ #[t] ty #[.slice (some ⟨b, o, none⟩) n c]).run P w = .ok (.tuple #[]) (w.setCells b o (Builtin.zeroCells z.cells n).toList) := by
  have hlen : (Builtin.zeroCells z.cells n).toList.length = n * z.cells.size := by rw [Array.length_toList, size_zeroCells]
  have hst := run_storeCells_cells (P := P) b o (Builtin.zeroCells z.cells n).toList 0 w (by rw [hlen]; simpa using hc) (by rw [hlen]; simpa using hf) (by
    intro u hu
    simp only [Builtin.zeroCells, Array.toList_map, List.mem_map] at hu
    obtain ⟨i, hi, rfl⟩ := hu
    have hi2 : i < n * z.cells.size := by simpa using hi
    have hz : 0 < z.cells.size := by rcases Nat.eq_zero_or_pos z.cells.size with h | h; · rw [h] at hi2; omega
                                     · exact h
    have hlt := Nat.mod_lt i hz
    rw [getElem!_pos z.cells _ hlt]
    exact h1 _ (by simp))
  simp only [Nat.add_zero] at hst
  obtain ⟨m, rfl⟩ : ∃ m, n = m + 1 := ⟨n - 1, by omega⟩
  simp [Builtin.clear_, run_underlying ht, hv, hst]
theorem wpList_clear_run {P : Program} (w : World) {ops : Array Oper} {rest : List Oper} {o : Oper} {a : Act} {Q : Exit → Act → World → Prop} (hgd : o.guard = none) (d : Operand) (t : TypeId)
    (ho : o.op = .call { callee := .builtin .clear, args := #[d], argTypes := #[t] }) (v : Value) (hd : a.eval d = v) {v' : Value} {w' : World}
    (hr : (Builtin.clear_ #[t] o.type #[v]).run P w = .ok v' w') (h : wpList P ops Q rest (a.put o.dst v') w') : wpList P ops Q (o :: rest) a w := by
  refine wpList_plain hgd fun _ hK => ?_
  unfold Oper.wp execOp
  simp only [ho, resolve, invoke, builtin, Sem.run_bind, Sem.run_pure, Result.andThen_ok, List.map_toArray, List.map_cons, List.map_nil, hd, hr]
  exact hK _ _ h
theorem wpList_copy_run_ {P : Program} (w : World) {ops : Array Oper} {rest : List Oper} {o : Oper} {a : Act} {Q : Exit → Act → World → Prop} (hgd : o.guard = none) (d s : Operand) (t t' : TypeId)
    (ho : o.op = .call { callee := .builtin .copy, args := #[d, s], argTypes := #[t, t'] }) (v u : Value) (hd : a.eval d = v) (hs : a.eval s = u) {v' : Value} {w' : World}
    (hr : (Builtin.copy_ #[t, t'] o.type #[v, u]).run P w = .ok v' w') (h : wpList P ops Q rest (a.put o.dst v') w') : wpList P ops Q (o :: rest) a w := by
  refine wpList_plain hgd fun _ hK => ?_
  unfold Oper.wp execOp
  simp only [ho, resolve, invoke, builtin, Sem.run_bind, Sem.run_pure, Result.andThen_ok, List.map_toArray, List.map_cons, List.map_nil, hd, hs, hr]
  exact hK _ _ h
/-- A copy as one step of a region that draws its order. -/
theorem step_copy_run_ {P : Program} {ops : Array Oper} {o : Oper} {a : Act} {w : World} {K : Act → World → Prop} {Q : Exit → Act → World → Prop} {E : Prop}
    (hg : o.guard = none) (d x : Operand) (dT sT : TypeId) (hop : o.op = Op.call { callee := Callee.builtin Builtin.copy, args := #[d, x], argTypes := #[dT, sT] })
    (v u : Value) (hd : a.eval d = v) (hx : a.eval x = u) {v' : Value} {w' : World} (hr : (Builtin.copy_ #[dT, sT] o.type #[v, u]).run P w = .ok v' w') (hK : K (a.put o.dst v') w') :
    if Region.wanted o (yielded ops a.tmps) = true then Oper.wp P o a w K Q else E := by
  have hw : Region.wanted o (yielded ops a.tmps) = true := by simp [Region.wanted, hg]
  rw [if_pos hw]
  unfold Oper.wp
  simp [execOp, hop, resolve, invoke, builtin, hd, hx, hr, Result.andThen]
  exact hK
/-- Flat elements: what they are hangs on no world. -/
theorem flat_M {α : Type} {d : Kd α} (hE : d.E = []) {w w' : World} {base : Nat} {ok ok' : Nat → Prop} {x : α} {cs : List Value} (h : d.M w base ok x cs) : d.M w' base ok' x cs := by
  have h1 := d.M_bound h
  have h2 : d.M w base (fun _ => False) x cs := d.M_mono (fun k hk => by obtain ⟨_, _, _, q, hq, _⟩ := hk; rw [hE] at hq; cases hq) h1
  exact d.M_mono (fun _ hk => hk.elim) (d.M_move (fun _ hk => hk.elim) h2)
theorem flat_one {α : Type} {d : Kd α} {w : World} {base : Nat} {ok : Nat → Prop} {xs : List α} {cs : List Value} (h : Reps (d.M w base ok) d.sz xs cs) (hs : 0 < d.sz) : ∀ u ∈ cs, u.oneCell' = true := by
  intro u hu
  obtain ⟨i, hi, rfl⟩ := List.getElem_of_mem hu
  have hl := h.1
  have hj : i / d.sz < xs.length := by rw [Nat.div_lt_iff_lt_mul hs]; omega
  have h2 := h.2 _ _ (List.getElem?_eq_getElem hj)
  refine d.K_one (d.K_of_M h2) _ ?_
  have hm := Nat.mod_lt i hs
  have hd := Nat.div_add_mod i d.sz
  have hmul : i / d.sz * d.sz = d.sz * (i / d.sz) := Nat.mul_comm _ _
  refine List.mem_iff_getElem?.2 ⟨i % d.sz, ?_⟩
  rw [List.getElem?_take, if_pos hm, List.getElem?_drop, show i / d.sz * d.sz + i % d.sz = i by omega, List.getElem?_eq_getElem hi]
/-- A row that is not empty, cell by cell. -/
theorem R_row {α : Type} {d : Kd α} {e base : Nat} {ok : Nat → Prop} {w : World} {v : Value} {xs : List α} (hE : d.E = []) (h : d.R e w base ok v xs) (hn : 0 < xs.length) :
    ∃ g cap cur inner, v = .slice (some ⟨g, 0, none⟩) xs.length cap ∧ base ≤ g ∧ ok g ∧ w.heap[g]? = some (.cells cur e (0, 0)) ∧ xs.length ≤ cap ∧ cap ≤ maxLen ∧ cur.size = cap * d.sz ∧ inner.length = xs.length * d.sz ∧
      cur.toList.take (xs.length * d.sz) = inner ∧ ∀ w' ok', Reps (d.M w' base ok') d.sz xs inner := by
  obtain ⟨h0, inner, ho, hr⟩ := h
  obtain ⟨h1, h2⟩ := ho
  rcases h2 with ⟨_, h2⟩ | ⟨g, cap, cur, rfl, hb, hg, hnc, hc, hsz, ht⟩
  · omega
  · exact ⟨g, cap, cur, inner, rfl, hb, h0 g rfl, hg, hnc, hc, hsz, h1, ht, fun w' ok' => hr.imp_ (fun _ _ hm => flat_M hE hm)⟩
theorem R_of_row {α : Type} {d : Kd α} {e base : Nat} {ok : Nat → Prop} {w : World} {xs : List α} {g cap : Nat} {cur : Array Value} {inner : List Value} (hb : base ≤ g) (hok : ok g) (hg : w.heap[g]? = some (.cells cur e (0, 0)))
    (hnc : xs.length ≤ cap) (hc : cap ≤ maxLen) (hsz : cur.size = cap * d.sz) (hl : inner.length = xs.length * d.sz) (ht : cur.toList.take (xs.length * d.sz) = inner) (hr : ∀ ok', Reps (d.M w base ok') d.sz xs inner) :
    d.R e w base ok (.slice (some ⟨g, 0, none⟩) xs.length cap) xs :=
  ⟨fun k hk => by have : g = k := by simpa [Value.ownBlock] using hk
                  subst this; exact hok, inner, ⟨hl, .inr ⟨g, cap, cur, rfl, hb, hg, hnc, hc, hsz, ht⟩⟩, hr _⟩
theorem row_cell {w : World} {g e : Nat} {cur : Array Value} (hg : w.heap[g]? = some (.cells cur e (0, 0))) (j : Nat) : w.cell? ⟨g, j, none⟩ = cur.toList[j]? := by
  rw [blk_cell hg j]; simp
theorem row_some {w : World} {g e : Nat} {cur : Array Value} (hg : w.heap[g]? = some (.cells cur e (0, 0))) (j : Nat) (h : j < cur.size) : (w.cell? ⟨g, j, none⟩).isSome = true := by
  rw [row_cell hg j, List.getElem?_eq_getElem (by simpa using h)]; rfl
theorem below_setCells {w0 w : World} {B g : Nat} (h : Below B w0 w) (hg : B ≤ g) (o : Nat) (vs : List Value) : Below B w0 (w.setCells g o vs) := by
  obtain ⟨h1, h2, h3, h4⟩ := setCells_same g vs o w
  exact ⟨h1.trans h.os, h2.trans h.tape, h3.trans h.output, by rw [h4]; exact h.size, fun k hk => (setCells_far vs o k (by omega)).trans (h.block k hk)⟩
theorem kept_setCells {w W : World} {S : Nat → Prop} {g : Nat} (h : Kept w W S) (hg : S g ∨ w.heap.size ≤ g) (o : Nat) (vs : List Value) : Kept w (W.setCells g o vs) S := by
  obtain ⟨_, _, _, h4⟩ := setCells_same g vs o W
  refine ⟨by rw [h4]; exact h.1, fun i hi hn => ?_⟩
  rw [setCells_far vs o i (by rintro rfl; rcases hg with hg | hg; · exact hn hg
                              · omega)]
  exact h.2 i hi hn
theorem reps_cells {α : Type} {R : α → List Value → Prop} {k : Nat} {xs : List α} {cs : List Value} (h : Reps R k xs cs) : cs.length = xs.length * k := h.1
/-- What is read, as one list of cells. -/
theorem C_cells {α : Type} {d : Kd α} {w : World} {A : Option Addr} {n : Nat} {l : List α} (h : d.C w A n l) (hn : 0 < n) :
    ∃ ad inner, A = some ad ∧ Reps (d.K w) d.sz l inner ∧ ∀ j u, inner[j]? = some u → w.cell? (ad.add j) = some u := by
  obtain ⟨hl, _, hc0⟩ := h
  obtain ⟨ad, rfl, hc⟩ := hc0 hn
  have pre : ∀ m, m ≤ l.length → ∃ inner, Reps (d.K w) d.sz (l.take m) inner ∧ ∀ j u, inner[j]? = some u → w.cell? (ad.add j) = some u := by
    intro m
    induction m with
    | zero => exact fun _ => ⟨[], by simpa using Reps.none _ _, fun j u hu => by simp at hu⟩
    | succ m ih =>
      intro hm
      obtain ⟨inner, h1, h2⟩ := ih (by omega)
      obtain ⟨c, hs, hK, hcell⟩ := hc m _ (List.getElem?_eq_getElem (by omega))
      refine ⟨inner ++ c, ?_, fun j u hu => ?_⟩
      · rw [List.take_succ_eq_append_getElem (by omega)]
        exact h1.snoc hK hs
      · have hil : inner.length = m * d.sz := by rw [h1.1, List.length_take, Nat.min_eq_left (by omega)]
        rcases Nat.lt_or_ge j inner.length with hj | hj
        · rw [List.getElem?_append_left hj] at hu; exact h2 j u hu
        · rw [List.getElem?_append_right hj] at hu
          have := hcell (j - inner.length) u hu
          rw [hil, show m * d.sz + (j - m * d.sz) = j by omega] at this
          exact this
  obtain ⟨inner, h1, h2⟩ := pre l.length (Nat.le_refl _)
  rw [List.take_length] at h1
  exact ⟨ad, inner, rfl, h1, h2⟩
/-- What is read of an own row that may change lies elsewhere. -/
theorem C_apart {α : Type} {d : Kd α} {w : World} {A : Option Addr} {l : List α} {S : Nat → Prop} (h : ∀ W_, Kept w W_ S → d.C W_ A l.length l) (hn : 0 < l.length) (hs : 0 < d.sz) :
    ∃ b o inner, A = some ⟨b, o, none⟩ ∧ b < w.heap.size ∧ ¬ S b ∧ Reps (d.K w) d.sz l inner ∧ ∀ j u, inner[j]? = some u → w.cell? ⟨b, o + j, none⟩ = some u := by
  obtain ⟨ad, inner, rfl, hr, hc⟩ := C_cells (h w (Kept.refl _ _)) hn
  have hil : 0 < inner.length := by rw [hr.1]; exact Nat.mul_pos hn hs
  have h0 := hc 0 _ (List.getElem?_eq_getElem hil)
  obtain ⟨hp, hlt⟩ := addr_plain h0 rfl
  refine ⟨ad.block, ad.off, inner, by rw [← hp], hlt, fun hS => ?_, hr, fun j u hu => by have := hc j u hu; rw [hp, add_at] at this; exact this⟩
  -- a world in which that block is another thing
  have hk : Kept w { w with heap := w.heap.setIfInBounds ad.block (.map #[] 0) } S := by
    refine ⟨by simp, fun i hi hn => ?_⟩
    have : ad.block ≠ i := by rintro rfl; exact hn hS
    simp [Array.getElem?_setIfInBounds, this]
  obtain ⟨ad2, inner2, he, hr2, hc2⟩ := C_cells (h _ hk) hn
  injection he with he
  subst he
  have h2 := hc2 0 _ (List.getElem?_eq_getElem (by rw [hr2.1]; exact Nat.mul_pos hn hs))
  rw [show ad.add 0 = ad from rfl] at h2
  unfold World.cell? at h2
  simp [Array.getElem?_setIfInBounds, hlt] at h2
end Go.Proofs.YtnngbhdofgodiaaGreatDoor.Z
end

section
/- slices.Clone, Delete of one element, Insert of one element, at lists of items. -/
namespace Go.Proofs.YtnngbhdofgodiaaGreatDoor.Z
open Go.RowKit Go.Proofs.YtnngbhdofgodiaaGreatDoorW.PrintWords Go.Proofs.YtnngbhdofgodiaaGreatDoorW.PrintLast
set_option linter.unusedVariables false
theorem info_Item : (Tryz.prog.info? 54).map (fun i => (i.zero, i.size, i.bytes)) = some (some (.agg #[.string ⟨#[]⟩, .string ⟨#[]⟩]), 2, 32) := by kernel_rfl
set_option linter.unusedSimpArgs false
theorem k54_KM {w : World} {base : Nat} {ok : Nat → Prop} {x : S54} {cs : List Value} (h : k54.K w x cs) : k54.M w base ok x cs := by
  obtain rfl := k54_open h
  exact k54_mkM _ _ _ _
theorem k54_E : k54.E = [] := rfl
theorem k54_sz : k54.sz = 2 := rfl
def slices_Clone_api_Item_api_Item.f (l0 : List S54) : Option (List S54) := if l0.length * 32 ≤ 140737488355328 then some l0 else none
set_option maxRecDepth 100000 in
set_option maxHeartbeats 2000000 in
theorem slices_Clone_api_Item_api_Item.calls (A0 : Option Addr) (c0 : Nat) (l0 : List S54) (r : List S54) (w : World) (hr0 : Kd.C k54 w A0 l0.length l0) (hc0 : l0.length ≤ c0) (h : slices_Clone_api_Item_api_Item.f l0 = some r) :
    Calls Tryz.prog 20 #[.slice A0 l0.length c0] w fun e w' => ∃ v0_ : Value, e = .returned (v0_) ∧ Kd.R k54 54 w' w.heap.size (fun _ => True) v0_ r ∧ Below w.heap.size w w' := by
  unfold slices_Clone_api_Item_api_Item.f at h
  split at h
  case isFalse => cases h
  case isTrue hbig =>
    obtain rfl := Option.some.inj h
    have q22 : ∀ (w : World) (a : Option Addr) (n c n' c' : Nat), (binOp .eql 22 (.slice a n c) (.slice none n' c')).run Tryz.prog w = .ok (.bool a.isNone) w := fun w a n c n' c' => Lib.run_eql_slice_nil w _ _ a n c n' c' Tryz.underlying22
    have hmx := Kd.C_max hr0
    cases A0 with
    | none =>
      have hl : l0 = [] := by
        rcases Nat.eq_zero_or_pos l0.length with h0 | h0
        · exact List.eq_nil_of_length_eq_zero h0
        · obtain ⟨ad, _, he, _⟩ := C_cells hr0 h0; cases he
      subst hl
      clear hr0 hbig
      go_enter Tryz.func20, Tryz.ntmps20
      go_wp2
      go_ret
      exact ⟨_, rfl, Kd.R_nil _ _ _ _ _, Below.refl _ _⟩
    | some ad =>
      obtain ⟨i0, hi, hz0, hz1, hz2⟩ := info_parts info_Item
      obtain ⟨inner, hrep, hcell⟩ : ∃ inner, Reps (k54.K w) k54.sz l0 inner ∧ ∀ j u, inner[j]? = some u → w.cell? (ad.add j) = some u := by
        rcases Nat.eq_zero_or_pos l0.length with h0 | h0
        · have hl : l0 = [] := List.eq_nil_of_length_eq_zero h0
          subst hl; exact ⟨[], Reps.none _ _, fun j u hu => by simp at hu⟩
        · obtain ⟨ad2, inner, he, h1, h2⟩ := C_cells hr0 h0
          injection he with he; subst he; exact ⟨inner, h1, h2⟩
      have hrepM : ∀ w' base ok, Reps (k54.M w' base ok) k54.sz l0 inner := fun w' base ok => hrep.imp_ (fun _ _ hk => flat_M (base := base) k54_E (k54_KM (base := base) (ok := ok) hk))
      have hone := flat_one (hrepM w 0 (fun _ => True)) (by decide)
      have hil : inner.length = l0.length * 2 := hrep.1
      have HC := Aside0.mk hcell
      have HM := Aside0.mk hrepM
      have HI := Aside0.mk hil
      have HO := Aside0.mk hone
      clear hr0 hrep hcell hrepM hil hone
      go_enter Tryz.func20, Tryz.ntmps20
      go_wp2_with (at_builtin; refine wpList_append_own _ rfl _ _ 22 rfl w.heap.size 54 i0 _ 2 32 Tryz.underlying22 hi hz0 hz1 hz2 (by rfl) (by decide) _ _ _ rfl (World.ownsRow_made w #[] 0 (Nat.le_refl _) (Nat.zero_le _) (by simp)) ad l0.length c0 inner rfl ?qc1 ?qc2 ?qc3 ?qc4 ?qc5 ?qc6 ?_)
      case qc1 => exact HI.out
      case qc2 => intro j u hj; exact Lib.cell?_alloc_some _ (HC.out j u hj)
      case qc3 => exact HO.out
      case qc4 => unfold maxLen; omega
      intro v' w1 hown hgrow hnil
      go_wp2
      go_ret

      refine ⟨v', rfl, ⟨fun _ _ => trivial, inner, hown, ?_⟩, ((Below.refl _ w).alloc (Nat.le_refl _) _).grown hgrow (by simp) (by intro k hk; simp [Value.ownBlock] at hk; omega)⟩
      exact HM.out _ _ _
/-- One element taken out. -/
def slices_Delete_api_Item_api_Item.f (l0 : List S54) (a1 a2 : Int) : Option (List S54) := if 0 ≤ a1 ∧ a1 < l0.length ∧ a2 = a1 + 1 then some (l0.take a1.toNat ++ l0.drop (a1.toNat + 1)) else none
theorem take_cut {α : Type} (l : List α) (a b : Nat) (mid : List α) (tl : List α) (h : a ≤ l.length) (hm : mid.length = b) (n : Nat) (hn : n = a + b) : (l.take a ++ mid ++ tl).take n = l.take a ++ mid := by
  subst hn
  rw [List.take_append_of_le_length (by rw [List.length_append, List.length_take]; omega), List.take_of_length_le (by rw [List.length_append, List.length_take]; omega)]
set_option maxRecDepth 100000 in
set_option maxHeartbeats 4000000 in
theorem slices_Delete_api_Item_api_Item.calls (P0_ : Nat → Prop) (u9000_ : Value) (l0 : List S54) (a1 a2 : Int) (r : List S54) (w0 w : World) (hB : Below w0.heap.size w0 w) (ho0 : Kd.R k54 54 w w0.heap.size P0_ u9000_ l0) (h : slices_Delete_api_Item_api_Item.f l0 a1 a2 = some r) :
    Calls Tryz.prog 22 #[u9000_, .int .i64 a1, .int .i64 a2] w fun e w' => ∃ v0_ : Value, e = .returned (v0_) ∧ Kd.R k54 54 w' w0.heap.size (fun k_ => (P0_ k_ ∨ w.heap.size ≤ k_)) v0_ r ∧ Below w0.heap.size w0 w' ∧ Kept w w' (fun k_ => P0_ k_) := by
  unfold slices_Delete_api_Item_api_Item.f at h
  split at h
  case isFalse => cases h
  case isTrue hh =>
    obtain ⟨h1, h2, rfl⟩ := hh
    obtain rfl := Option.some.inj h
    clear h
    obtain ⟨i, rfl⟩ : ∃ i : Nat, a1 = i := ⟨a1.toNat, (Int.toNat_of_nonneg h1).symm⟩
    obtain ⟨g, cap, cur, inner, rfl, hbg, hok, hg, hnc, hcm, hsz, hil, hti, hrep⟩ := R_row k54_E ho0 (by omega)
    rw [k54_sz] at hsz hil hti
    obtain ⟨m, hn0⟩ : ∃ m, l0.length = i + m + 1 := ⟨l0.length - 1 - i, by omega⟩
    obtain ⟨n, hnm⟩ : ∃ n, n = i + m := ⟨_, rfl⟩
    have hn : l0.length = n + 1 := by omega
    have hin : i ≤ n := by omega
    rw [Int.toNat_natCast]
    have hcur : cur.toList.length = cap * 2 := by rw [Array.length_toList]; exact hsz
    unfold maxLen at hcm
    -- what stands behind it
    obtain ⟨news, hnews⟩ : ∃ news, news = inner.drop ((i + 1) * 2) := ⟨_, rfl⟩
    have hnl : news.length = (n - i) * 2 := by rw [hnews, List.length_drop, hil]; omega
    have hone : ∀ u ∈ news, u.oneCell' = true := fun u hu => flat_one (hrep w P0_) (by decide) u (by rw [hnews] at hu; exact List.mem_of_mem_drop hu)
    have hsrc : ∀ j u, news[j]? = some u → cur.toList[(i + 1) * 2 + j]? = some u := by
      intro j u hu
      rw [hnews, ← hti, List.getElem?_drop, List.getElem?_take] at hu
      split at hu
      · exact hu
      · cases hu
    have hgd : w.drew.heap[g]? = some (.cells cur 54 (0, 0)) := hg
    obtain ⟨cur1, hg1, hs1, ht1⟩ := setCells_row news (i * 2) w.drew cur hgd (by rw [hsz]; omega)
    obtain ⟨W1, hW1⟩ : ∃ W1, W1 = w.drew.setCells g (i * 2) news := ⟨_, rfl⟩
    rw [← hW1] at hg1
    have hz : (Builtin.zeroCells (Value.agg #[.string ⟨#[]⟩, .string ⟨#[]⟩]).cells 1).toList.length = 2 := by rw [Array.length_toList, size_zeroCells]; rfl
    obtain ⟨cur2, hg2, hs2, ht2⟩ := setCells_row (Builtin.zeroCells (Value.agg #[.string ⟨#[]⟩, .string ⟨#[]⟩]).cells 1).toList (n * 2) W1 cur1 hg1 (by rw [hz, hs1, hsz]; omega)
    obtain ⟨i0, hi, hz0, hz1, hz2⟩ := info_parts info_Item
    have hzero : ∀ w, (zeroValue 54).run Tryz.prog w = .ok (.agg #[.string ⟨#[]⟩, .string ⟨#[]⟩]) w := fun w => by simp [zeroValue, typeInfo, hi, hz0]
    have hclear := run_clear_k W1 22 54 0 (.agg #[.string ⟨#[]⟩, .string ⟨#[]⟩]) Tryz.underlying22 hzero (by decide) g (n * 2) 1 (cap - n) (by decide)
      (fun j hj => by rw [show (Value.agg #[.string ⟨#[]⟩, .string ⟨#[]⟩]).cells.size = 2 from rfl] at hj; exact row_some hg1 _ (by rw [hs1, hsz]; omega)) (fun j hj => blk_frozen hg1 _)
    obtain ⟨W2, hW2⟩ : ∃ W2, W2 = W1.setCells g (n * 2) (Builtin.zeroCells (Value.agg #[.string ⟨#[]⟩, .string ⟨#[]⟩]).cells 1).toList := ⟨_, rfl⟩
    rw [← hW2] at hclear hg2
    -- the end
    have hend : Kd.R k54 54 W2 w0.heap.size (fun k_ => (P0_ k_ ∨ w.heap.size ≤ k_)) (.slice (some ⟨g, 0, none⟩) n cap) (l0.take i ++ l0.drop (i + 1)) ∧ Below w0.heap.size w0 W2 ∧ Kept w W2 (fun k_ => P0_ k_) := by
      have hl : (l0.take i ++ l0.drop (i + 1)).length = n := by rw [List.length_append, List.length_take, List.length_drop]; omega
      refine ⟨?_, ?_, ?_⟩
      · have hR := R_of_row (d := k54) (e := 54) (base := w0.heap.size) (ok := fun k_ => (P0_ k_ ∨ w.heap.size ≤ k_)) (w := W2) (xs := l0.take i ++ l0.drop (i + 1)) (cap := cap) (inner := inner.take (i * 2) ++ news) hbg (.inl hok) hg2 (by omega) (by unfold maxLen; omega) (by rw [k54_sz, hs2, hs1, hsz])
          (by rw [k54_sz, hl, List.length_append, List.length_take, hnl, hil]; omega)
          (by
            rw [k54_sz, hl, ht2, ht1, List.append_assoc, List.append_assoc]
            have e1 : (cur.toList.take (i * 2) ++ (news ++ cur.toList.drop (i * 2 + news.length))).take (n * 2) = inner.take (i * 2) ++ news := by
              rw [← List.append_assoc, take_cut _ (i * 2) news.length _ _ (by omega) rfl (n * 2) (by omega), ← hti, List.take_take, Nat.min_eq_left (by omega)]
            rw [List.take_append_of_le_length (by rw [List.length_take, List.length_append, List.length_take, List.length_append, List.length_drop]; omega), List.take_take, Nat.min_self, e1])
          (fun ok' => by
            refine Kd.reps_append ?_ ?_
            · exact Kd.reps_take (hrep W2 ok') (by omega)
            · rw [hnews]; exact Kd.reps_drop (hrep W2 ok'))
        rw [hl] at hR
        exact hR
      · rw [hW2, hW1]
        exact below_setCells (below_setCells (below_drew hB) hbg _ _) hbg _ _
      · rw [hW2, hW1]
        exact kept_setCells (kept_setCells ((Kept.refl w _).drew) (.inl hok) _ _) (.inl hok) _ _
    have hsT : ∀ W : World, (sizeOf 54).run Tryz.prog W = .ok 2 W := fun W => by simp [sizeOf, typeInfo, hi, hz1]
    obtain ⟨ad, hcutB, had⟩ : ∃ ad : Addr, (∀ W : World, (Instr.slice 22 (.slice (some ⟨g, 0, none⟩) (i + m + 1) cap) (some (.int .i64 ((i : Int) + 1))) none none).run Tryz.prog W = .ok (.slice (some ad) m (cap - (i + 1))) W) ∧ ∀ j u, news[j]? = some u → w.drew.cell? (ad.add j) = some u := by
      have hel : Tryz.prog.elem 22 = 54 := by simp [Program.elem, Tryz.underlying22]
      have hu : Tryz.prog.underlying 22 = some (.slice (Tryz.prog.elem 22)) := by rw [hel]; exact Tryz.underlying22
      have hrun : ∀ W : World, (Instr.slice 22 (.slice (some ⟨g, 0, none⟩) (i + m + 1) cap) (some (.int .i64 ((i : Int) + 1))) none none).run Tryz.prog W = .ok (sliced (some ⟨g, 0, none⟩) (i + 1) (i + m + 1) cap 2) W := fun W => by
        rw [run_slice_l W 22 (some ⟨g, 0, none⟩) (i + m + 1) cap hu .i64 ((i : Int) + 1) (by omega) (by omega), hel]
        have : ((i : Int) + 1).toNat = i + 1 := by omega
        simp [hsT, Result.andThen, this]
      by_cases hc : cap = i + 1
      · refine ⟨⟨g, 0, none⟩, fun W => ?_, fun j u hu => ?_⟩
        · rw [hrun W]; unfold sliced; rw [if_pos hc, show i + m + 1 - (i + 1) = m by omega]
        · have := (List.getElem?_eq_some_iff.1 hu).1; omega
      · refine ⟨⟨g, (i + 1) * 2, none⟩, fun W => ?_, fun j u hu => ?_⟩
        · rw [hrun W]; unfold sliced; rw [if_neg hc, show i + m + 1 - (i + 1) = m by omega]; simp [Addr.add]
        · rw [add_at]
          show w.cell? _ = _
          rw [row_cell hg]
          exact hsrc j u hu
    have hcutA : ∀ W : World, (Instr.slice 22 (.slice (some ⟨g, 0, none⟩) (i + m + 1) cap) none (some (.int .i64 (i : Int))) none).run Tryz.prog W = .ok (.slice (some ⟨g, 0, none⟩) i cap) W := fun W => by
      have hel : Tryz.prog.elem 22 = 54 := by simp [Program.elem, Tryz.underlying22]
      have hu : Tryz.prog.underlying 22 = some (.slice (Tryz.prog.elem 22)) := by rw [hel]; exact Tryz.underlying22
      rw [run_slice_h W 22 (some ⟨g, 0, none⟩) (i + m + 1) cap hu .i64 (i : Int) (by omega) (by omega), hel]
      simp [hsT, Result.andThen, sliced, Addr.add]
    have hcutC : ∀ W : World, (Instr.slice 22 (.slice (some ⟨g, 0, none⟩) (i + m) cap) (some (.int .i64 ((i : Int) + (m : Int)))) (some (.int .i64 ((i : Int) + (m : Int) + 1))) none).run Tryz.prog W = .ok (.slice (some ⟨g, n * 2, none⟩) 1 (cap - n)) W := fun W => by
      have hel : Tryz.prog.elem 22 = 54 := by simp [Program.elem, Tryz.underlying22]
      have hu : Tryz.prog.underlying 22 = some (.slice (Tryz.prog.elem 22)) := by rw [hel]; exact Tryz.underlying22
      rw [run_slice_lh W 22 (some ⟨g, 0, none⟩) (i + m) cap hu .i64 .i64 ((i : Int) + (m : Int)) ((i : Int) + (m : Int) + 1) (by omega) (by omega) (by omega), hel]
      have e1 : ((i : Int) + (m : Int)).toNat = i + m := by omega
      have e2 : ((i : Int) + (m : Int) + 1).toNat = i + m + 1 := by omega
      have e3 : ¬ (cap = i + m) := by omega
      simp [hsT, Result.andThen, sliced, Addr.add, e1, e2, e3, hnm]
      intro h0; omega
    have hspare : ∀ j, j < news.length → (w.drew.cell? ⟨g, 0 + i * 2 + j, none⟩).isSome = true ∧ w.drew.frozen? ⟨g, 0 + i * 2 + j, none⟩ = false := fun j hj =>
      ⟨row_some hgd _ (by rw [hsz]; omega), blk_frozen hgd _⟩
    have hb1 : (i : Int) + 1 ≤ (i : Int) + (m : Int) + 1 := by omega
    have hb2 : (i : Int) + (m : Int) + 1 ≤ (cap : Int) := by omega
    have hb3 : ((i : Int) == (i : Int) + 1) = false := by rw [beq_eq_false_iff_ne]; omega
    have hnl2 : news.length = m * 2 := by rw [hnl]; omega
    have hroom : i + m ≤ cap := by omega
    have HADD := Aside0.mk had
    rw [hnm, hW1] at hclear
    rw [hW2, hW1, hnm] at hend
    have HEND := Aside0.mk hend
    have HCL := Aside0.mk hclear
    have HONE := Aside0.mk hone
    have HSP := Aside0.mk hspare
    rw [hn0]
    clear hclear had hone hspare hend hrep ho0 hB ht2 hg2 hs2 ht1 hil hti hnews hn hsrc hcur hs1 hz hg hgd hg1 hnl
    go_enter Tryz.func22, Tryz.ntmps22
    go_wp2
    go_region_law (refine step_append_room rfl _ _ 22 rfl 54 i0 2 Tryz.underlying22 hi hz1 g 0 i cap (by simp [Act.eval, Act.put]) ad m (cap - (i + 1)) news (by simp [Act.eval, Act.put]) hnl2 HADD.out HONE.out hroom HSP.out ?_)
    go_wp2
    rw [HCL.out]
    go_wp2
    go_ret
    exact ⟨_, rfl, HEND.out⟩
/-- One element put in. -/
def slices_Insert_api_Item_api_Item.f (l0 : List S54) (a1 : Int) (l2 : List S54) : Option (List S54) := if 0 ≤ a1 ∧ a1 ≤ l0.length ∧ l2.length = 1 ∧ (l0.length + 1) * 32 ≤ 140737488355328 then some (l0.take a1.toNat ++ l2 ++ l0.drop a1.toNat) else none
set_option maxRecDepth 100000 in
set_option maxHeartbeats 4000000 in
theorem ins_end (P0_ : Nat → Prop) (u : Value) (l0 l2 : List S54) (vb c2 : Nat) (vs : List Value) (w0 w : World) (hB : Below w0.heap.size w0 w) (ho0 : Kd.R k54 54 w w0.heap.size P0_ u l0)
    (hvl : vs.length = 1 * 2) (hl2 : l2.length = 1) (hvc : ∀ j x, vs[j]? = some x → w.cell? ⟨vb, j, none⟩ = some x) (h1v : ∀ x ∈ vs, x.oneCell' = true) (hvM : ∀ w' ok, Reps (k54.M w' w0.heap.size ok) k54.sz l2 vs) (hbig : (l0.length + 1) * 32 ≤ 140737488355328) :
    Calls Tryz.prog 23 #[u, .int .i64 (l0.length : Int), .slice (some ⟨vb, 0, none⟩) 1 c2] w fun e w' => ∃ v0_ : Value, e = .returned (v0_) ∧ Kd.R k54 54 w' w0.heap.size (fun k_ => (P0_ k_ ∨ w.heap.size ≤ k_)) v0_ (l0 ++ l2) ∧ Below w0.heap.size w0 w' ∧ Kept w w' (fun k_ => P0_ k_) := by
  obtain ⟨i0, hi, hz0, hz1, hz2⟩ := info_parts info_Item
  obtain ⟨h0, inner, hown, hrep⟩ := ho0
  have hlow := hB.size
  have HOWN := Aside0.mk hown
  have HVC := Aside0.mk hvc
  have H1V := Aside0.mk h1v
  have HL := Aside0.mk hlow
  have HREP : Aside0 (∀ w' ok, Reps (k54.M w' w0.heap.size ok) k54.sz (l0 ++ l2) (inner ++ vs)) := ⟨fun w' ok => Kd.reps_append (hrep.imp_ (fun _ _ hm => flat_M k54_E hm)) (hvM w' ok)⟩
  have H0 := Aside0.mk h0
  have HB := Aside0.mk hB
  have fin : ∀ v' w1, w1.ownsRow w0.heap.size 54 2 v' (l0.length + 1) (inner ++ vs) → w.grownBy w1 u.ownBlock → (v'.ownBlock = u.ownBlock ∨ v'.ownBlock = some w.heap.size) →
      Kd.R k54 54 w1 w0.heap.size (fun k_ => (P0_ k_ ∨ w.heap.size ≤ k_)) v' (l0 ++ l2) ∧ Below w0.heap.size w0 w1 ∧ Kept w w1 (fun k_ => P0_ k_) := by
    intro v' w1 ho hg hat
    have hb : ∀ k, u.ownBlock = some k → w0.heap.size ≤ k := fun k hk => by
      rcases HOWN.out.2 with ⟨rfl, _⟩ | ⟨g, cap, cur, rfl, hbg, _⟩
      · cases hk
      · have : g = k := by simpa [Value.ownBlock] using hk
        omega
    refine ⟨⟨fun k hk => ?_, inner ++ vs, ?_, HREP.out _ _⟩, HB.out.grown hg HL.out hb, Kept.of_grown hg (Kept.refl _ _) (fun k hk => .inl (H0.out k hk))⟩
    · rcases hat with hat | hat
      · exact .inl (H0.out k (hat ▸ hk))
      · rw [hat] at hk; injection hk with hk; exact .inr (by omega)
    · rw [List.length_append, hl2]; exact ho
  have FIN := Aside0.mk fin
  have hb1 : (l0.length : Int) = (l0.length : Int) := rfl
  have hmx : l0.length ≤ maxLen := by unfold maxLen; omega
  unfold maxLen at hmx
  clear hvc h1v hlow fin
  rcases hown with ⟨hl, ⟨rfl, hn⟩ | ⟨g, cap, cur, rfl, hbg, hg, hnc, hcm, hsz, ht⟩⟩
  · rw [hn] at HOWN FIN hbig ⊢
    clear hl hrep
    go_enter Tryz.func23, Tryz.ntmps23
    go_wp2_with (at_builtin; refine wpList_append_own_at _ rfl _ _ 22 rfl w0.heap.size 54 i0 _ 2 32 Tryz.underlying22 hi hz0 hz1 hz2 (by rfl) (by decide) _ _ _ rfl HOWN.out ⟨vb, 0, none⟩ 1 c2 vs rfl ?qc1 ?qc2 ?qc3 ?qc4 ?qc5 ?qc6 ?_)
    case qc2 => exact HVC.out
    case qc3 => exact H1V.out
    case qc4 => unfold maxLen; omega
    case qc6 => exact HL.out
    intro v' w1 ho hg hn hat
    have ho' : w1.ownsRow w0.heap.size 54 2 v' (0 + 1) (inner ++ vs) := ho
    have HR := Aside0.mk (FIN.out v' w1 ho' hg hat)
    clear ho hg hn hat ho'
    go_wp2
    go_ret
    exact ⟨_, rfl, HR.out⟩
  · unfold maxLen at hcm
    clear hl hrep ht hg hsz hbg
    by_cases hc : cap = l0.length
    · subst hc
      go_enter Tryz.func23, Tryz.ntmps23
      go_wp2_with (at_builtin; refine wpList_append_own_at _ rfl _ _ 22 rfl w0.heap.size 54 i0 _ 2 32 Tryz.underlying22 hi hz0 hz1 hz2 (by rfl) (by decide) _ _ _ rfl HOWN.out ⟨vb, 0, none⟩ 1 c2 vs rfl ?qd1 ?qd2 ?qd3 ?qd4 ?qd5 ?qd6 ?_)
      case qd2 => exact HVC.out
      case qd3 => exact H1V.out
      case qd4 => unfold maxLen; omega
      case qd6 => exact HL.out
      intro v' w1 ho hg hn hat
      have HR := Aside0.mk (FIN.out v' w1 ho hg hat)
      clear ho hg hn hat
      go_wp2
      go_ret
      exact ⟨_, rfl, HR.out⟩
    · go_enter Tryz.func23, Tryz.ntmps23
      go_wp2_with (at_builtin; refine wpList_append_own_at _ rfl _ _ 22 rfl w0.heap.size 54 i0 _ 2 32 Tryz.underlying22 hi hz0 hz1 hz2 (by rfl) (by decide) _ _ _ rfl HOWN.out ⟨vb, 0, none⟩ 1 c2 vs rfl ?qe1 ?qe2 ?qe3 ?qe4 ?qe5 ?qe6 ?_)
      case qe2 => exact HVC.out
      case qe3 => exact H1V.out
      case qe4 => unfold maxLen; omega
      case qe6 => exact HL.out
      intro v' w1 ho hg hn hat
      have HR := Aside0.mk (FIN.out v' w1 ho hg hat)
      clear ho hg hn hat
      go_wp2
      go_ret
      exact ⟨_, rfl, HR.out⟩
theorem ins_cut (cur cur1 cur2 inner vs news : List Value) (i n : Nat) (hti : cur.take (n * 2) = inner) (hn : i < n) (hl : (n + 1) * 2 ≤ cur.length) (hv : vs.length = 2) (hnl : news.length = (n - i) * 2)
    (ht1 : cur1 = cur.take ((i + 1) * 2) ++ news ++ cur.drop ((i + 1) * 2 + news.length)) (ht2 : cur2 = cur1.take (i * 2) ++ vs ++ cur1.drop (i * 2 + vs.length)) : cur2.take ((n + 1) * 2) = inner.take (i * 2) ++ vs ++ news := by
  have e1 : cur1.take (i * 2) = inner.take (i * 2) := by
    rw [ht1, List.append_assoc, List.take_append_of_le_length (by rw [List.length_take]; omega), List.take_take, Nat.min_eq_left (by omega), ← hti, List.take_take, Nat.min_eq_left (by omega)]
  have e2 : cur1.drop (i * 2 + vs.length) = news ++ cur.drop ((i + 1) * 2 + news.length) := by
    rw [ht1, List.append_assoc]
    exact List.drop_left' (by rw [List.length_take]; omega)
  rw [ht2, e1, e2, ← List.append_assoc]
  refine List.take_left' ?_
  have : inner.length = n * 2 := by rw [← hti, List.length_take]; omega
  simp only [List.length_append, List.length_take, hv, hnl]
  omega
theorem mid_len {α : Type} (l l2 : List α) (i : Nat) (hi : i ≤ l.length) (h2 : l2.length = 1) : (l.take i ++ l2 ++ l.drop i).length = l.length + 1 := by
  simp only [List.length_append, List.length_take, List.length_drop, h2]; omega
set_option maxRecDepth 100000 in
set_option maxHeartbeats 4000000 in
theorem ins_room (P0_ : Nat → Prop) (l0 l2 : List S54) (vb c2 g cap i : Nat) (cur curv : Array Value) (inner vs : List Value) (w0 w : World) (hB : Below w0.heap.size w0 w)
    (hbg : w0.heap.size ≤ g) (hok : P0_ g) (hg : w.heap[g]? = some (.cells cur 54 (0, 0))) (hcm : cap ≤ maxLen) (hsz : cur.size = cap * 2) (hil : inner.length = l0.length * 2) (hti : cur.toList.take (l0.length * 2) = inner)
    (hrep : ∀ w' ok', Reps (k54.M w' w0.heap.size ok') k54.sz l0 inner) (hin : i < l0.length) (hroom : l0.length + 1 ≤ cap) (hvb : vb ≠ g) (hvg : w.heap[vb]? = some (.cells curv 54 (0, 0))) (hl2 : l2.length = 1)
    (hvl : vs.length = 2) (hvc : ∀ j x, vs[j]? = some x → w.cell? ⟨vb, j, none⟩ = some x) (h1v : ∀ x ∈ vs, x.oneCell' = true) (hvM : ∀ w' ok, Reps (k54.M w' w0.heap.size ok) k54.sz l2 vs) :
    Calls Tryz.prog 23 #[.slice (some ⟨g, 0, none⟩) l0.length cap, .int .i64 (i : Int), .slice (some ⟨vb, 0, none⟩) 1 c2] w fun e w' => ∃ v0_ : Value, e = .returned (v0_) ∧ Kd.R k54 54 w' w0.heap.size (fun k_ => (P0_ k_ ∨ w.heap.size ≤ k_)) v0_ (l0.take i ++ l2 ++ l0.drop i) ∧ Below w0.heap.size w0 w' ∧ Kept w w' (fun k_ => P0_ k_) := by
  obtain ⟨i0, hi, hz0, hz1, hz2⟩ := info_parts info_Item
  obtain ⟨n, hn⟩ : ∃ n, n = l0.length := ⟨_, rfl⟩
  have hsT : ∀ W : World, (sizeOf 54).run Tryz.prog W = .ok 2 W := fun W => by simp [sizeOf, typeInfo, hi, hz1]
  have hsm : (Tryz.prog.info? 54).map (·.size) = some 2 := by rw [hi]; simp [hz1]
  have hlen := mid_len l0 l2 i (by omega) hl2
  rw [← hn] at hil hti hin hroom hlen ⊢
  unfold maxLen at hcm
  obtain ⟨news, hnews⟩ : ∃ news, news = inner.drop (i * 2) := ⟨_, rfl⟩
  have hnl : news.length = (n - i) * 2 := by rw [hnews, List.length_drop, hil]; omega
  have hone : ∀ u ∈ news, u.oneCell' = true := fun u hu => flat_one (hrep w P0_) (by decide) u (by rw [hnews] at hu; exact List.mem_of_mem_drop hu)
  have hsrc : ∀ j u, news[j]? = some u → cur.toList[i * 2 + j]? = some u := by
    intro j u hu
    rw [hnews, ← hti, List.getElem?_drop, List.getElem?_take] at hu
    split at hu
    · exact hu
    · cases hu
  have hgd : w.drew.heap[g]? = some (.cells cur 54 (0, 0)) := hg
  obtain ⟨cur1, hg1, hs1, ht1⟩ := setCells_row news ((i + 1) * 2) w.drew cur hgd (by rw [hsz]; omega)
  obtain ⟨cur2, hg2, hs2, ht2⟩ := setCells_row vs (i * 2) (w.drew.setCells g ((i + 1) * 2) news) cur1 hg1 (by rw [hs1, hsz]; omega)
  have hend : Kd.R k54 54 ((w.drew.setCells g ((i + 1) * 2) news).setCells g (i * 2) vs) w0.heap.size (fun k_ => (P0_ k_ ∨ w.heap.size ≤ k_)) (.slice (some ⟨g, 0, none⟩) (n + 1) cap) (l0.take i ++ l2 ++ l0.drop i) ∧ Below w0.heap.size w0 ((w.drew.setCells g ((i + 1) * 2) news).setCells g (i * 2) vs) ∧ Kept w ((w.drew.setCells g ((i + 1) * 2) news).setCells g (i * 2) vs) (fun k_ => P0_ k_) := by
    refine ⟨?_, below_setCells (below_setCells (below_drew hB) hbg _ _) hbg _ _, kept_setCells (kept_setCells ((Kept.refl w _).drew) (.inl hok) _ _) (.inl hok) _ _⟩
    have hR := R_of_row (d := k54) (e := 54) (base := w0.heap.size) (ok := fun k_ => (P0_ k_ ∨ w.heap.size ≤ k_)) (xs := l0.take i ++ l2 ++ l0.drop i) (cap := cap) (inner := inner.take (i * 2) ++ vs ++ news) hbg (.inl hok) hg2 (by omega) (by unfold maxLen; omega) (by rw [k54_sz, hs2, hs1, hsz])
      (by rw [k54_sz, hlen, List.length_append, List.length_append, List.length_take, hnl, hvl, hil]; omega)
      (by rw [k54_sz, hlen]; exact ins_cut cur.toList cur1.toList cur2.toList inner vs news i n hti hin (by rw [Array.length_toList, hsz]; omega) hvl hnl ht1 ht2)
      (fun ok' => Kd.reps_append (Kd.reps_append (Kd.reps_take (hrep _ ok') (by omega)) (hvM _ ok')) (by rw [hnews]; exact Kd.reps_drop (hrep _ ok')))
    rw [hlen] at hR
    exact hR
  have hov : ∀ lb cb, (callFunc 38 #[.slice (some ⟨vb, 0, none⟩) 1 c2, .slice (some ⟨g, (i + 1) * 2, none⟩) lb cb]).run Tryz.prog w = .ok (.value (.bool false)) w := fun lb cb => by
    rw [run_callFunc_extern Tryz.func38 (by kernel_rfl) (by kernel_rfl) (by kernel_rfl) (e := Extern.SlicesOverlaps.overlaps #[22, 22] #[4]) (by kernel_rfl),
      Lib.run_overlaps_apart w 22 4 54 Tryz.underlying22 2 hsT ⟨vb, 0, none⟩ ⟨g, (i + 1) * 2, none⟩ 1 c2 lb cb hvb 54 54 curv.size cur.size (by simp [World.shape?, hvg]) (by simp [World.shape?, hg]) (by rw [hsz]; omega) (by simp [World.frozen?, hvg]) (by simp [World.frozen?, hvg])]
    rfl
  have hcp1 : ∀ ty dc sc, (Builtin.copy_ #[22, 22] ty #[.slice (some ⟨g, (i + 1) * 2, none⟩) (n - i) dc, .slice (some ⟨g, i * 2, none⟩) (n + 1 - i) sc]).run Tryz.prog w.drew = .ok (goInt (Nat.min (n + 1 - i) (n - i))) (w.drew.setCells g ((i + 1) * 2) news) := fun ty dc sc =>
    run_copy_k w.drew 22 22 ty 54 g ((i + 1) * 2) (n - i) dc ⟨g, i * 2, none⟩ (n + 1 - i) sc 2 news Tryz.underlying22 hsm (by rw [hnl]; simp only [Nat.min_def]; split <;> omega)
      (fun j v hj => by rw [add_at, row_cell hgd]; exact hsrc j v hj)
      (fun j hj => row_some hgd _ (by rw [hsz]; omega)) (fun j hj => blk_frozen hgd _) hone
  have hcp2 : ∀ ty dc, (Builtin.copy_ #[22, 22] ty #[.slice (some ⟨g, i * 2, none⟩) (n + 1 - i) dc, .slice (some ⟨vb, 0, none⟩) 1 c2]).run Tryz.prog (w.drew.setCells g ((i + 1) * 2) news) = .ok (goInt (Nat.min 1 (n + 1 - i))) ((w.drew.setCells g ((i + 1) * 2) news).setCells g (i * 2) vs) := fun ty dc =>
    run_copy_k _ 22 22 ty 54 g (i * 2) (n + 1 - i) dc ⟨vb, 0, none⟩ 1 c2 2 vs Tryz.underlying22 hsm (by rw [hvl]; simp only [Nat.min_def]; split <;> omega)
      (fun j v hj => by
        have := hvc j v hj
        rw [add_at, Nat.zero_add, World.cell?_of_block (w := w)]
        · exact this
        · exact setCells_far news _ vb (fun e => hvb e))
      (fun j hj => row_some hg1 _ (by rw [hs1, hsz]; omega)) (fun j hj => blk_frozen hg1 _) h1v
  have HEND := Aside0.mk hend
  have HCA := Aside0.mk hcp1
  have HCB := Aside0.mk hcp2
  have hw1 : IntKind.i64.wrap ((i : Int) + 1) = (i : Int) + 1 := by rw [IntKind.wrap_i64]; omega
  have hw2 : IntKind.i64.wrap ((n : Int) + 1) = (n : Int) + 1 := by rw [IntKind.wrap_i64]; omega
  have hin2 : i ≤ n := by omega
  have htn : ((i : Int) + 1).toNat = i + 1 := by omega
  have htn2 : ((n : Int) + 1).toNat = n + 1 := by omega
  have hb2 : ¬ (cap = i + 1) := by omega
  have hb1 : (0 : Int) ≤ (i : Int) + 1 := by omega
  have hb5 : (i : Int) ≤ (n : Int) + 1 := by omega
  have hb3 : (i : Int) + 1 ≤ (n : Int) + 1 := by omega
  have hb4 : ¬ (cap = i) := by omega
  have hz2' : ¬ ((i : Int) = (n : Int)) := by omega
  have hz3 : ¬ ((cap : Int) < (n : Int) + 1) := by omega
  have mixed : Tryz.prog.follows .mixedOrders = true := by kernel_rfl
  clear hn
  clear hend hcp1 hcp2 hg2 hg1 hgd hs2 hs1 ht2 ht1 hsrc hone hnl hnews hrep hti hil hsz hg hvg hvc h1v hvM hB hvl hlen hl2
  go_enter Tryz.func23, Tryz.ntmps23
  go_wp2_with (simp only [hov])
  go_region_law_o (refine step_copy_run_ rfl _ _ 22 22 rfl (.slice (some ⟨g, (i + 1) * 2, none⟩) (n - i) (cap - (i + 1))) (.slice (some ⟨g, i * 2, none⟩) (n + 1 - i) (cap - i)) (by simp [Act.eval, Act.put]) (by simp [Act.eval, Act.put]) (HCA.out _ _ _) ?_)
  go_wp2
  rw [HCB.out]
  go_wp2
  go_ret
  exact ⟨_, rfl, HEND.out⟩
set_option maxRecDepth 100000 in
set_option maxHeartbeats 4000000 in
theorem ins_grow (P0_ : Nat → Prop) (l0 l2 : List S54) (vb c2 g cap i : Nat) (cur curv : Array Value) (inner vs : List Value) (w0 w : World) (hB : Below w0.heap.size w0 w)
    (hbg : w0.heap.size ≤ g) (hok : P0_ g) (hg : w.heap[g]? = some (.cells cur 54 (0, 0))) (hcm : cap ≤ maxLen) (hsz : cur.size = cap * 2) (hil : inner.length = l0.length * 2) (hti : cur.toList.take (l0.length * 2) = inner)
    (hrep : ∀ w' ok', Reps (k54.M w' w0.heap.size ok') k54.sz l0 inner) (hin : i < l0.length) (hnc : l0.length ≤ cap) (hroom : cap < l0.length + 1) (hbig : (l0.length + 1) * 32 ≤ 140737488355328) (hvb : vb ≠ g) (hvg : w.heap[vb]? = some (.cells curv 54 (0, 0))) (hl2 : l2.length = 1)
    (hvl : vs.length = 2) (hvc : ∀ j x, vs[j]? = some x → w.cell? ⟨vb, j, none⟩ = some x) (h1v : ∀ x ∈ vs, x.oneCell' = true) (hvM : ∀ w' ok, Reps (k54.M w' w0.heap.size ok) k54.sz l2 vs) :
    Calls Tryz.prog 23 #[.slice (some ⟨g, 0, none⟩) l0.length cap, .int .i64 (i : Int), .slice (some ⟨vb, 0, none⟩) 1 c2] w fun e w' => ∃ v0_ : Value, e = .returned (v0_) ∧ Kd.R k54 54 w' w0.heap.size (fun k_ => (P0_ k_ ∨ w.heap.size ≤ k_)) v0_ (l0.take i ++ l2 ++ l0.drop i) ∧ Below w0.heap.size w0 w' ∧ Kept w w' (fun k_ => P0_ k_) := by
  obtain ⟨i0, hi, hz0, hz1, hz2⟩ := info_parts info_Item
  obtain ⟨n, hn⟩ : ∃ n, n = l0.length := ⟨_, rfl⟩
  have hsT : ∀ W : World, (sizeOf 54).run Tryz.prog W = .ok 2 W := fun W => by simp [sizeOf, typeInfo, hi, hz1]
  have hsm : (Tryz.prog.info? 54).map (·.size) = some 2 := by rw [hi]; simp [hz1]
  have hlen := mid_len l0 l2 i (by omega) hl2
  rw [← hn] at hil hti hin hroom hlen hbig hnc ⊢
  unfold maxLen at hcm
  obtain ⟨news, hnews⟩ : ∃ news, news = inner.drop (i * 2) := ⟨_, rfl⟩
  have hnl : news.length = (n - i) * 2 := by rw [hnews, List.length_drop, hil]; omega
  have hone0 : ∀ u ∈ inner, u.oneCell' = true := flat_one (hrep w P0_) (by decide)
  have hone : ∀ u ∈ news, u.oneCell' = true := fun u hu => hone0 u (by rw [hnews] at hu; exact List.mem_of_mem_drop hu)
  have hsrc0 : ∀ (j : Nat) (u : Value), inner[j]? = some u → cur.toList[j]? = some u := by
    intro j u hu
    rw [← hti, List.getElem?_take] at hu
    split at hu
    · exact hu
    · cases hu
  have hsrc : ∀ (j : Nat) (u : Value), news[j]? = some u → cur.toList[i * 2 + j]? = some u := fun j u hu => hsrc0 _ u (by rwa [hnews, List.getElem?_drop] at hu)
  have hgb : g < w.heap.size := by
    rcases Nat.lt_or_ge g w.heap.size with h | h
    · exact h
    · rw [Array.getElem?_eq_none h] at hg; cases hg
  have hvbw : vb < w.heap.size := by
    rcases Nat.lt_or_ge vb w.heap.size with h | h
    · exact h
    · rw [Array.getElem?_eq_none h] at hvg; cases hvg
  have hgd : w.drew.heap[g]? = some (.cells cur 54 (0, 0)) := hg
  have hold : (Builtin.firstCells i0.size i (.slice (some ⟨g, 0, none⟩) i cap)).run Tryz.prog w.drew = .ok (inner.take (i * 2)).toArray w.drew := by
    rw [hz1]
    exact run_firstCells_some w.drew 2 i ⟨g, 0, none⟩ i cap (inner.take (i * 2)) (by rw [List.length_take]; omega) (fun j v hj => by
      rw [add_at, row_cell hgd, Nat.zero_add]
      rw [List.getElem?_take] at hj
      split at hj
      · exact hsrc0 j v hj
      · cases hj)
  have hkk : (n : Int) + 1 - (i : Int) = ((n + 1 - i : Nat) : Int) := by omega
  have hik : i + (n + 1 - i) = n + 1 := by omega
  obtain ⟨G, hG⟩ : ∃ G, G = grownCap w (n + 1) cap 54 := ⟨_, rfl⟩
  have hGn : n + 1 ≤ G := by rw [hG]; exact grownCap_ge w _ _ _
  have hG63 : G ≤ 9223372036854775807 := by
    have := grownCap_le_maxLen w (n + 1) cap 54 (by unfold maxLen; omega)
    rw [← hG] at this
    unfold maxLen at this
    omega
  obtain ⟨ROW, hROW⟩ : ∃ ROW : Array Value, ROW = (inner.take (i * 2)).toArray ++ Builtin.zeroCells (Value.agg #[.string ⟨#[]⟩, .string ⟨#[]⟩]).cells (n + 1 - i) ++ Builtin.zeroCells (Value.agg #[.string ⟨#[]⟩, .string ⟨#[]⟩]).cells (G - (n + 1)) := ⟨_, rfl⟩
  have hRs : ROW.size = G * 2 := by
    rw [hROW]
    simp only [Array.size_append, size_zeroCells, List.size_toArray, List.length_take, hil]
    rw [show (Value.agg #[.string ⟨#[]⟩, .string ⟨#[]⟩]).cells.size = 2 from rfl]
    omega
  have hrz : ∀ ty, (Builtin.append_ #[22, 3] ty #[.slice (some ⟨g, 0, none⟩) i cap, .int .i64 ((n : Int) + 1 - (i : Int))]).run Tryz.prog w =
      .ok (.slice (some ⟨w.heap.size, 0, none⟩) (n + 1) G) (w.drew.alloc (.cells ROW 54)) := fun ty => by
    have h := Go.Lib.run_append_grow_zeros w 22 3 ty 54 i0 _ .i64 .i64 Tryz.underlying22 Tryz.underlying3 hi hz0 (some ⟨g, 0, none⟩) i cap (inner.take (i * 2)) hold (n + 1 - i) (by omega) (by omega) (by omega) (by omega) (by rw [hz2]; omega) (by rw [hz2, hik]; exact growslice_fits hroom hbig)
    rw [hik] at h
    rw [hkk, h, ← hG, ← hROW]
  have hg0 : ((w.alloc (.cells ROW 54)).drew).heap[w.heap.size]? = some (.cells ROW 54 (0, 0)) := by
    show (w.heap.push _)[w.heap.size]? = _
    simp
  obtain ⟨cur1, hg1, hs1, ht1⟩ := setCells_row vs (i * 2) ((w.alloc (.cells ROW 54)).drew) ROW hg0 (by rw [hRs]; omega)
  obtain ⟨cur2, hg2, hs2, ht2⟩ := setCells_row news ((i + 1) * 2) (((w.alloc (.cells ROW 54)).drew).setCells w.heap.size (i * 2) vs).drew cur1 hg1 (by rw [hs1, hRs]; omega)
  have hlow := hB.size
  have hend : Kd.R k54 54 (((((w.alloc (.cells ROW 54)).drew).setCells w.heap.size (i * 2) vs).drew).setCells w.heap.size ((i + 1) * 2) news) w0.heap.size (fun k_ => (P0_ k_ ∨ w.heap.size ≤ k_)) (.slice (some ⟨w.heap.size, 0, none⟩) (n + 1) G) (l0.take i ++ l2 ++ l0.drop i) ∧ Below w0.heap.size w0 (((((w.alloc (.cells ROW 54)).drew).setCells w.heap.size (i * 2) vs).drew).setCells w.heap.size ((i + 1) * 2) news) ∧ Kept w (((((w.alloc (.cells ROW 54)).drew).setCells w.heap.size (i * 2) vs).drew).setCells w.heap.size ((i + 1) * 2) news) (fun k_ => P0_ k_) := by
    refine ⟨?_, below_setCells (below_drew (below_setCells (below_drew (below_alloc hB _)) hlow _ _)) hlow _ _, kept_setCells ((kept_setCells (((Kept.refl w _).alloc _).drew) (.inr (Nat.le_refl _)) _ _).drew) (.inr (Nat.le_refl _)) _ _⟩
    have hR := R_of_row (d := k54) (e := 54) (base := w0.heap.size) (ok := fun k_ => (P0_ k_ ∨ w.heap.size ≤ k_)) (xs := l0.take i ++ l2 ++ l0.drop i) (cap := G) (inner := inner.take (i * 2) ++ vs ++ news) hlow (.inr (Nat.le_refl _)) hg2 (by omega) (by unfold maxLen; omega) (by rw [k54_sz, hs2, hs1, hRs])
      (by rw [k54_sz, hlen, List.length_append, List.length_append, List.length_take, hnl, hvl, hil]; omega)
      (by
        rw [k54_sz, hlen, ht2]
        have e0 : ROW.toList.take (i * 2) = inner.take (i * 2) := by
          rw [hROW, Array.toList_append, Array.toList_append, List.append_assoc]
          exact List.take_left' (by rw [List.length_take]; omega)
        have e1 : cur1.toList.take ((i + 1) * 2) = inner.take (i * 2) ++ vs := by
          rw [ht1, e0]
          exact List.take_left' (by rw [List.length_append, List.length_take]; omega)
        rw [e1]
        exact List.take_left' (by simp only [List.length_append, List.length_take, hvl, hnl]; omega))
      (fun ok' => Kd.reps_append (Kd.reps_append (Kd.reps_take (hrep _ ok') (by omega)) (hvM _ ok')) (by rw [hnews]; exact Kd.reps_drop (hrep _ ok')))
    rw [hlen] at hR
    exact hR
  have hcpA : ∀ (W : World), (∀ x, W.cell? x = ((w.alloc (.cells ROW 54)).drew).cell? x) → (∀ x, W.frozen? x = ((w.alloc (.cells ROW 54)).drew).frozen? x) → ∀ ty dc, (Builtin.copy_ #[22, 22] ty #[.slice (some ⟨w.heap.size, i * 2, none⟩) (n + 1 - i) dc, .slice (some ⟨vb, 0, none⟩) 1 c2]).run Tryz.prog W = .ok (goInt (Nat.min 1 (n + 1 - i))) (W.setCells w.heap.size (i * 2) vs) := fun W hWc hWf ty dc =>
    run_copy_k W 22 22 ty 54 w.heap.size (i * 2) (n + 1 - i) dc ⟨vb, 0, none⟩ 1 c2 2 vs Tryz.underlying22 hsm (by rw [hvl]; simp only [Nat.min_def]; split <;> omega)
      (fun j v hj => by
        have := hvc j v hj
        rw [add_at, Nat.zero_add, hWc, World.cell?_of_block (w := w)]
        · exact this
        · show (w.heap.push _)[vb]? = w.heap[vb]?; have hne : vb ≠ w.heap.size := by omega
          simp [Array.getElem?_push, hne])
      (fun j hj => by rw [hWc]; exact row_some hg0 _ (by rw [hRs]; omega)) (fun j hj => by rw [hWf]; exact blk_frozen hg0 _) h1v
  have hgN : g ≠ w.heap.size := by omega
  have hcpB : ∀ (W : World), (∀ x, W.cell? x = (((w.alloc (.cells ROW 54)).drew).setCells w.heap.size (i * 2) vs).cell? x) → (∀ x, W.frozen? x = (((w.alloc (.cells ROW 54)).drew).setCells w.heap.size (i * 2) vs).frozen? x) → ∀ ty dc sc, (Builtin.copy_ #[22, 22] ty #[.slice (some ⟨w.heap.size, (i + 1) * 2, none⟩) (n - i) dc, .slice (some ⟨g, i * 2, none⟩) (n - i) sc]).run Tryz.prog W = .ok (goInt (Nat.min (n - i) (n - i))) (W.setCells w.heap.size ((i + 1) * 2) news) := fun W hWc hWf ty dc sc =>
    run_copy_k W 22 22 ty 54 w.heap.size ((i + 1) * 2) (n - i) dc ⟨g, i * 2, none⟩ (n - i) sc 2 news Tryz.underlying22 hsm (by rw [hnl]; simp only [Nat.min_def]; split <;> omega)
      (fun j v hj => by
        rw [add_at, hWc, World.cell?_of_block (w := w.drew)]
        · rw [row_cell hgd]; exact hsrc j v hj
        · rw [setCells_far vs _ g (fun e => hgN e)]; show (w.heap.push _)[g]? = w.heap[g]?; simp [Array.getElem?_push, hgN])
      (fun j hj => by rw [hWc]; exact row_some hg1 _ (by rw [hs1, hRs]; omega)) (fun j hj => by rw [hWf]; exact blk_frozen hg1 _) hone
  have HEND := Aside0.mk hend
  have HRZ := Aside0.mk hrz
  have HCA := Aside0.mk hcpA
  have HCB := Aside0.mk hcpB
  have hw1 : IntKind.i64.wrap ((i : Int) + 1) = (i : Int) + 1 := by rw [IntKind.wrap_i64]; omega
  have hw2 : IntKind.i64.wrap ((n : Int) + 1) = (n : Int) + 1 := by rw [IntKind.wrap_i64]; omega
  have hw3 : IntKind.i64.wrap ((n : Int) + 1 - (i : Int)) = (n : Int) + 1 - (i : Int) := by rw [IntKind.wrap_i64]; omega
  have hin2 : i ≤ n := by omega
  have htn : ((i : Int) + 1).toNat = i + 1 := by omega
  have hb1 : (0 : Int) ≤ (i : Int) + 1 := by omega
  have hb2 : ¬ (G = i + 1) := by omega
  have hb5 : (i : Int) ≤ (n : Int) + 1 := by omega
  have hb6 : (i : Int) + 1 ≤ (n : Int) + 1 := by omega
  have hb3 : ¬ (G = i) := by omega
  have hb7 : (i : Int) ≤ (cap : Int) := by omega
  have hb4 : ¬ (cap = i) := by omega
  have hz2' : ¬ ((i : Int) = (n : Int)) := by omega
  have hz3 : (cap : Int) < (n : Int) + 1 := by omega
  have mixed : Tryz.prog.follows .mixedOrders = true := by kernel_rfl
  clear hn hend hcpA hcpB hg2 hg1 hg0 hgd hs2 hs1 ht2 ht1 hsrc hsrc0 hone hone0 hnl hnews hrep hti hil hsz hg hvg hvc h1v hvM hB hvl hlen hl2 hold hrz hRs hROW hG hkk hik hnc
  go_enter Tryz.func23, Tryz.ntmps23
  go_wp2_with (at_builtin; refine Go.Lib.wpList_append_run _ rfl _ _ _ _ rfl _ _ rfl rfl _ _ (HRZ.out _) ?_)
  rw [HCA.out (w.alloc (.cells ROW 54)).drew (fun _ => rfl) (fun _ => rfl)]
  go_wp2
  go_region_law_o (refine step_copy_run_ rfl _ _ 22 22 rfl (.slice (some ⟨w.heap.size, (i + 1) * 2, none⟩) (n - i) (G - (i + 1))) (.slice (some ⟨g, i * 2, none⟩) (n - i) (cap - i)) (by simp [Act.eval, Act.put]) (by simp [Act.eval, Act.put]) (HCB.out (((w.alloc (.cells ROW 54)).drew).setCells w.heap.size (i * 2) vs).drew (fun _ => rfl) (fun _ => rfl) _ _ _) ?_)
  go_wp2
  go_ret
  exact ⟨_, rfl, HEND.out⟩
theorem slices_Insert_api_Item_api_Item.calls (P0_ : Nat → Prop) (u9000_ : Value) (l0 : List S54) (a1 : Int) (A2 : Option Addr) (c2 : Nat) (l2 : List S54) (r : List S54) (w0 w : World) (hB : Below w0.heap.size w0 w) (ho0 : Kd.R k54 54 w w0.heap.size P0_ u9000_ l0)
    (hr2 : ∀ W_, Kept w W_ (fun k_ => P0_ k_) → Kd.C k54 W_ A2 l2.length l2) (hc2 : l2.length ≤ c2) (hp2 : ∃ b_ ok_, Kd.R k54 54 w b_ ok_ (.slice A2 l2.length c2) l2) (h : slices_Insert_api_Item_api_Item.f l0 a1 l2 = some r) :
    Calls Tryz.prog 23 #[u9000_, .int .i64 a1, .slice A2 l2.length c2] w fun e w' => ∃ v0_ : Value, e = .returned (v0_) ∧ Kd.R k54 54 w' w0.heap.size (fun k_ => (P0_ k_ ∨ w.heap.size ≤ k_)) v0_ r ∧ Below w0.heap.size w0 w' ∧ Kept w w' (fun k_ => P0_ k_) := by
  unfold slices_Insert_api_Item_api_Item.f at h
  split at h
  case isFalse => cases h
  case isTrue hh =>
    obtain ⟨h1, h2, h3, h4⟩ := hh
    obtain rfl := Option.some.inj h
    obtain ⟨i, rfl⟩ : ∃ i : Nat, a1 = i := ⟨a1.toNat, (Int.toNat_of_nonneg h1).symm⟩
    rw [Int.toNat_natCast]
    obtain ⟨b2, ok2, hp⟩ := hp2
    obtain ⟨vb, capv, curv, vs, he, _, _, hvg, hnv, _, hvsz, hvl, hvt, hvM⟩ := R_row k54_E hp (by omega)
    obtain ⟨b, o, inner2, hA, _, hnP, _, _⟩ := C_apart hr2 (by omega) (by decide)
    injection he with he1 he2 he3
    subst he3
    rw [hA] at he1
    injection he1 with he1
    injection he1 with he1 he4 he5
    subst he1 he4
    subst hA
    rw [k54_sz] at hvsz hvl hvt hvM
    rw [h3] at hvl hvt ⊢
    have hvM' : ∀ w' ok, Reps (k54.M w' w0.heap.size ok) k54.sz l2 vs := fun w' ok => (hvM w' ok).imp_ (fun _ _ hm => k54_KM (k54.K_of_M hm))
    have h1v : ∀ x ∈ vs, x.oneCell' = true := flat_one (hvM' w P0_) (by decide)
    have hvc : ∀ (j : Nat) (x : Value), vs[j]? = some x → w.cell? ⟨b, j, none⟩ = some x := fun j x hx => by
      rw [row_cell hvg]
      rw [← hvt, List.getElem?_take] at hx
      split at hx
      · exact hx
      · cases hx
    by_cases hin : i = l0.length
    · subst hin
      rw [List.take_length, List.drop_length, List.append_nil]
      exact ins_end P0_ u9000_ l0 l2 b c2 vs w0 w hB ho0 hvl h3 hvc h1v hvM' h4
    · obtain ⟨g, cap, cur, inner, rfl, hbg, hok, hg, hnc, hcm, hsz, hil, hti, hrep⟩ := R_row k54_E ho0 (by omega)
      rw [k54_sz] at hsz hil hti
      have hvb : b ≠ g := fun e => hnP (e ▸ hok)
      rcases Nat.lt_or_ge cap (l0.length + 1) with hroom | hroom
      · exact ins_grow P0_ l0 l2 b c2 g cap i cur curv inner vs w0 w hB hbg hok hg hcm hsz hil hti hrep (by omega) hnc hroom h4 hvb hvg h3 hvl hvc h1v hvM'
      · exact ins_room P0_ l0 l2 b c2 g cap i cur curv inner vs w0 w hB hbg hok hg hcm hsz hil hti hrep (by omega) hroom hvb hvg h3 hvl hvc h1v hvM'
end Go.Proofs.YtnngbhdofgodiaaGreatDoor.Z
end

section
/- Short words for what each step of a walk shows alike: facts are told of the world that has come, cells of a block are read, an operation of a region is taken. -/
namespace Go.Proofs.YtnngbhdofgodiaaGreatDoor.Z
open Go.RowKit Go.Proofs.YtnngbhdofgodiaaGreatDoorW.PrintWords Go.Proofs.YtnngbhdofgodiaaGreatDoorW.PrintLast Go.Proofs.YtnngbhdofgodiaaGreatDoorW.PrintMore
set_option linter.unusedVariables false
/-- From one world to the next: orders drawn, blocks made. -/
theorem wx_ {w w1 : World} (h : Below w.heap.size w w1 := by with_reducible repeat (first | exact Below.refl _ _ | apply below_alloc | apply pw_below_drewN | apply below_drew1)) : Below w.heap.size w w1 := h
theorem bel_ {w w1 : World} (h : Below w.heap.size w w1 := by repeat (first | (with_reducible first | exact HB.out | apply below_alloc | apply pw_below_drewN | apply below_drew1 | refine below_set ?_ (Aside0.out (by with_reducible assumption))) | exact HB.out)) : Below w.heap.size w w1 := h
theorem hb_ {w0 w1 w2 : World} (hb : Below w1.heap.size w1 w2) (h : Below w0.heap.size w0 w1 := by repeat (first | (with_reducible first | exact HB.out | apply below_alloc | apply pw_below_drewN | apply below_drew1 | refine below_set ?_ (Aside0.out (by with_reducible assumption))) | exact HB.out)) : Aside0 (Below w0.heap.size w0 w2) := ⟨below_step h hb⟩
theorem kb_ {w w1 w2 : World} {g : Nat} {o : Obj} (h : Aside0 (w.heap[g]? = some o)) (hb : Below w1.heap.size w1 w2) (hw : Below w.heap.size w w1 := by with_reducible repeat (first | exact Below.refl _ _ | apply below_alloc | apply pw_below_drewN | apply below_drew1)) : Aside0 (w2.heap[g]? = some o) := ⟨blk_below (blk_below h.out hw) hb⟩
theorem bk_ {w w1 : World} {g : Nat} {o : Obj} (h : Aside0 (w.heap[g]? = some o)) (hw : Below w.heap.size w w1 := by with_reducible repeat (first | exact Below.refl _ _ | apply below_alloc | apply pw_below_drewN | apply below_drew1)) : w1.heap[g]? = some o := blk_below h.out hw
theorem ge_ {w0 w1 : World} {g : Nat} (hg : g = w1.heap.size) (h : Below w0.heap.size w0 w1 := by repeat (first | (with_reducible first | exact HB.out | apply below_alloc | apply pw_below_drewN | apply below_drew1 | refine below_set ?_ (Aside0.out (by with_reducible assumption))) | exact HB.out)) : Aside0 (w0.heap.size ≤ g) := ⟨by rw [hg]; exact below_size h⟩
theorem nl_ {w w1 : World} {g g' : Nat} {o : Obj} (h : Aside0 (w.heap[g]? = some o)) (hg : g' = w1.heap.size) (hw : Below w.heap.size w w1 := by with_reducible repeat (first | exact Below.refl _ _ | apply below_alloc | apply pw_below_drewN | apply below_drew1)) : Aside0 (g ≠ g') := ⟨by rw [hg]; exact Nat.ne_of_lt (blk_lt (blk_below h.out hw))⟩
theorem ng_ {w w1 : World} {g g' : Nat} {o : Obj} (h : Aside0 (w.heap[g]? = some o)) (hg : g' = w1.heap.size) (hw : Below w.heap.size w w1 := by with_reducible repeat (first | exact Below.refl _ _ | apply below_alloc | apply pw_below_drewN | apply below_drew1)) : Aside0 (g' ≠ g) := ⟨by rw [hg]; exact Nat.ne_of_gt (blk_lt (blk_below h.out hw))⟩
section
variable {α : Type} {d : Kd α} {e base base' n : Nat} {ok : Nat → Prop} {w w1 w2 : World} {v : Value} {xs : List α} {A : Option Addr}
theorem rb_ (h : Aside0 (d.R e w base ok v xs)) (hb : Below w1.heap.size w1 w2) (hw : Below w.heap.size w w1 := by with_reducible repeat (first | exact Below.refl _ _ | apply below_alloc | apply pw_below_drewN | apply below_drew1)) : Aside0 (d.R e w2 base ok v xs) := ⟨Kd.R_below (Kd.R_below h.out hw) hb⟩
theorem ra_ (h : Aside0 (d.R e w base ok v xs)) (hw : Below w.heap.size w w1 := by with_reducible repeat (first | exact Below.refl _ _ | apply below_alloc | apply pw_below_drewN | apply below_drew1)) : d.R e w1 base ok v xs := Kd.R_below h.out hw
theorem rl_ {w0 : World} (h : d.R e w2 w1.heap.size ok v xs) (hb : Below w0.heap.size w0 w1 := by repeat (first | (with_reducible first | exact HB.out | apply below_alloc | apply pw_below_drewN | apply below_drew1 | refine below_set ?_ (Aside0.out (by with_reducible assumption))) | exact HB.out)) : Aside0 (d.R e w2 w0.heap.size ok v xs) := ⟨Kd.R_lower h (below_size hb)⟩
theorem cb_ {w0 : World} (h : Aside0 (d.C w0 A n xs)) (hb : Below w0.heap.size w0 w1 := by repeat (first | (with_reducible first | exact HB.out | apply below_alloc | apply pw_below_drewN | apply below_drew1 | refine below_set ?_ (Aside0.out (by with_reducible assumption))) | exact HB.out)) : d.C w1 A n xs := Kd.C_below h.out hb
end
/-- From world to world, a row of this kind is as it was. -/
def Off {α : Type} (d : Kd α) (e : Nat) (w W : World) : Prop := ∀ base ok v xs, d.R e w base ok v xs → d.R e W base ok v xs
section
variable {α : Type} {d : Kd α} {e base n c : Nat} {ok : Nat → Prop} {w W w1 w2 : World} {v : Value} {xs : List α} {A : Option Addr}
theorem Off.refl : Off d e w w := fun _ _ _ _ h => h
theorem Off.alloc (h : Off d e w W) (o : Obj) : Off d e w (W.alloc o) := fun _ _ _ _ q => Kd.R_alloc (h _ _ _ _ q) o
theorem Off.drewN (h : Off d e w W) (k : Nat) : Off d e w (W.drewN k) := fun _ _ _ _ q => Kd.R_drewN (h _ _ _ _ q) k
theorem Off.drew (h : Off d e w W) : Off d e w W.drew := fun _ _ _ _ q => Kd.R_drew (h _ _ _ _ q)
theorem Off.set {g i t : Nat} {u : Value} {cs : Array Value} (h : Off d e w W) (hb : Aside0 (w.heap[g]? = some (.cells cs t (0, 0)))) (ht : ∀ q, q ∈ e :: d.E → q ≠ t) : Off d e w (W.setCell ⟨g, i, none⟩ u) :=
  fun _ _ _ _ q => Kd.R_mono (Kd.R_far (p := ⟨g, i, none⟩) (h _ _ _ _ (Kd.R_types q hb.out ht)) (fun _ hk => hk.2) u) (fun _ hk => hk.1)
theorem rw_ (h : Aside0 (d.R e w base ok v xs)) (q : Off d e w W := by ((with_reducible repeat (first | exact Off.refl | apply Off.alloc | apply Off.drewN | apply Off.drew | apply Off.set)); all_goals (first | with_reducible assumption | decide))) : d.R e W base ok v xs := q _ _ _ _ h.out
theorem rm_ {ok' : Nat → Prop} (h : Aside0 (d.R e w base ok v xs)) (m : ∀ k, ok k → ok' k) (q : Off d e w W := by ((with_reducible repeat (first | exact Off.refl | apply Off.alloc | apply Off.drewN | apply Off.drew | apply Off.set)); all_goals (first | with_reducible assumption | decide))) : d.R e W base ok' v xs := Kd.R_mono (q _ _ _ _ h.out) m
theorem rv_ {ok' : Nat → Prop} {base' g t : Nat} {cs : Array Value} (h : Aside0 (d.R e w base ok v xs)) (hb : Aside0 (w.heap[g]? = some (.cells cs t (0, 0)))) (m : ∀ k, ok k ∧ k ≠ g → ok' k) (ht : ∀ q, q ∈ e :: d.E → q ≠ t := by decide) (q : Off d e w W := by ((with_reducible repeat (first | exact Off.refl | apply Off.alloc | apply Off.drewN | apply Off.drew | apply Off.set)); all_goals (first | with_reducible assumption | decide))) : d.V e W base' ok' v xs := Kd.V_mono (Kd.R_V (q _ _ _ _ (Kd.R_types h.out hb.out ht))) m
theorem cr_ (h : Aside0 (d.R e w base ok (.slice A xs.length c) xs)) (hw : Below w.heap.size w w1 := by with_reducible repeat (first | exact Below.refl _ _ | apply below_alloc | apply pw_below_drewN | apply below_drew1)) : d.C w1 A xs.length xs := Kd.C_below (Kd.R_reads' h.out).2.2 hw
end
theorem bf_ {w : World} {g g' i t : Nat} {u : Value} {cs : Array Value} (h : w.heap[g]? = some (.cells cs t (0, 0))) (hn : Aside0 (g ≠ g')) : (w.setCell ⟨g', i, none⟩ u).heap[g]? = some (.cells cs t (0, 0)) := blk_far (p := ⟨g', i, none⟩) h hn.out u
theorem bs_ {w : World} {g : Nat} {o : Obj} (h : w.heap[g]? = some o := by ((with_reducible repeat (first | apply blk_drewN | apply blk_drew | apply blk_alloc | apply blk_put | apply bf_)); exact Aside0.out (by with_reducible assumption); all_goals (first | with_reducible assumption | (simp only [List.setIfInBounds_toArray, List.set_cons_zero, List.set_cons_succ]; rfl) | rfl))) : w.heap[g]? = some o := h
section
variable {P : Program} {ops : Array Oper} {Q : Exit → Act → World → Prop} {md : Region.Mode} {S : World → Prop} {ds : List Nat} {fuel : Nat} {l l' : Array Bool} {a a' : Act} {w : World} {oi : Oper} {v : Value}
theorem pu_ (i N : Nat) (h : wpAnyLast P md ops Q S ds fuel l' a' w) (hi : ops[i]? = some oi := by rfl) (hN : oi.dst = some N := by rfl) (hl : l.setIfInBounds i true = l' := by (simp only [List.setIfInBounds_toArray, List.set_cons_zero, List.set_cons_succ]; rfl))
    (hc : anyB md ops l l' i = true := by first | exact any_of HT_.out (by kernel_rfl) | kernel_rfl) (hQ : ∀ c a w, Q (.panic c) (a.put oi.dst v) w → Q (.panic c) a w := by exact fun _ _ _ h => h)
    (hy : Yields P ops oi v a := by exact Or.inl ⟨by rfl, by (intro w'; go_simp; with_reducible rfl)⟩)
    (ha : a.put (some N) v = a' := by (simp only [Act.put, List.setIfInBounds_toArray, List.set_cons_zero, List.set_cons_succ, i64_w, i32_w]; rfl)) : wpAnyLast P md ops Q S ds (fuel + 1) l a w := pure_ l' hi hN hc hQ hy ha h
theorem un_ (i N : Nat) (h : wpAnyLast P md ops Q S ds fuel l' a' w) (hi : ops[i]? = some oi := by rfl) (hN : oi.dst = some N := by rfl) (hl : l.setIfInBounds i true = l' := by (simp only [List.setIfInBounds_toArray, List.set_cons_zero, List.set_cons_succ]; rfl))
    (hc : anyB md ops l l' i = true := by first | exact any_of HT_.out (by kernel_rfl) | kernel_rfl) (hQ : ∀ c a w, Q (.panic c) (a.put oi.dst undef) w → Q (.panic c) a w := by exact fun _ _ _ h => h)
    (hy : Yields P ops oi undef a := by exact Or.inr ⟨by rfl, rfl⟩)
    (ha : a.put (some N) undef = a' := by (simp only [Act.put, List.setIfInBounds_toArray, List.set_cons_zero, List.set_cons_succ, i64_w, i32_w]; rfl)) : wpAnyLast P md ops Q S ds (fuel + 1) l a w := pure_ l' hi hN hc hQ hy ha h
theorem on_ (i N : Nat) (h : ∀ K : Act → World → Prop, Shut (∀ a' w', S w' → (S w' → wpAnyLast P md ops Q S ds fuel l' a' w') → K a' w') → if Region.wanted oi (yielded ops a.tmps) = true then Oper.wp P oi a w K Q else K (a.put (some N) undef) w)
    (hi : ops[i]? = some oi := by rfl) (hN : oi.dst = some N := by rfl) (hl : l.setIfInBounds i true = l' := by (simp only [List.setIfInBounds_toArray, List.set_cons_zero, List.set_cons_succ]; rfl))
    (hc : readyB md ops l l' i = true := by first | exact one_of HT_.out (by kernel_rfl) | kernel_rfl) (hd : i ∉ ds := by decide) : wpAnyLast P md ops Q S ds (fuel + 1) l a w := one_ l' hi hN hc hd h
theorem nm_ (N : Nat) (h : wpAnyLast P md ops Q S ds fuel l a' w) {a0 : Act} (e : a = Act.put a0 (some N) v := by rfl) (ha : Act.put a0 (some N) v = a' := by (simp only [Act.put, List.setIfInBounds_toArray, List.set_cons_zero, List.set_cons_succ, i64_w, i32_w]; rfl)) : wpAnyLast P md ops Q S ds fuel l a w := norm_ (e.trans ha) h
end
theorem cell0_ {w : World} {g i : Nat} {t : TypeId} {cs : Array Value} {v : Value} (h : Aside0 (w.heap[g]? = some (.cells cs t (0, 0)))) (e : cs[i]? = some v) : w.cell? ⟨g, i, none⟩ = some v := (blk_cell h.out i).trans e
theorem hc_ {p : Prop} (h : p := by (try dsimp only); repeat (first | (exact cell0_ (by first | (with_reducible assumption) | (refine Aside0.mk ?_; (with_reducible repeat (first | refine blk_drewN ?_ _ | refine blk_drew ?_ | refine blk_alloc ?_ _)); exact Aside0.out (by with_reducible assumption))) (by rfl)) | (refine And.intro ?_ ?_; focus (exact cell0_ (by first | (with_reducible assumption) | (refine Aside0.mk ?_; (with_reducible repeat (first | refine blk_drewN ?_ _ | refine blk_drew ?_ | refine blk_alloc ?_ _)); exact Aside0.out (by with_reducible assumption))) (by rfl))))) : p := h
section
variable {P : Program} {ops : Array Oper} {rest : List Oper} {oi o : Oper} {a : Act} {Q : Exit → Act → World → Prop} {w W : World}
theorem gl_ (N : Option Tmp) {f : FuncId} {fn : Func} (hf : P.funcs[f]? = some fn) {ars : Array Operand} {ts : Array TypeId} (args : Array Value) (h : Calls P f args w fun e w' => ∃ v, e = .returned v ∧ wpList P ops Q rest (a.put N v) w')
    (hd : oi.dst = N := by exact rfl) (hg : oi.guard = none := by exact rfl) (hname : (fn.name == "runtime.NumGoroutine") = false := by kernel_rfl) (hb : fn.body.isSome = true := by exact rfl)
    (hop : oi.op = .call { callee := .value (.func f), args := ars, argTypes := ts } := by exact rfl) (hargs : ars.map a.eval = args := by ((try simp only [List.map_toArray, List.map_cons, List.map_nil]); first | done | rfl | (simp only [List.length_drop, List.length_take]; rfl))) : wpList P ops Q (oi :: rest) a w := goesL_ N hd hg hf hname hb args hop hargs h
theorem bx_ {N : Tmp} {cs : Array Value} {t : TypeId} (h : ∀ g, g = W.heap.size → ∀ w1, w1.heap[g]? = some (.cells cs t (0, 0)) → Below W.heap.size W w1 → wpList P ops Q rest (a.put o.dst (.pointer (some ⟨g, 0, none⟩))) w1)
    (hg : o.guard = none := by rfl) (hd : o.dst = some N := by rfl)
    (hrun : (execOp a.eval o).run P W = .ok (.value (.pointer (some ⟨W.heap.size, 0, none⟩))) (W.alloc (.cells cs t (0, 0))) := by first | (go_simp; done) | (go_simp; rfl)) : wpList P ops Q (o :: rest) a W := box_event hg hd hrun h
end
theorem cl2_ {w : World} {g : Nat} {t : TypeId} {x0 x1 : Value} (h : Aside0 (w.heap[g]? = some (.cells #[x0, x1] t (0, 0)))) : w.cell? ⟨g, 0, none⟩ = some x0 ∧ w.cell? ⟨g, 1, none⟩ = some x1 := ⟨(blk_cell h.out 0).trans rfl, (blk_cell h.out 1).trans rfl⟩
theorem fz2_ {w : World} {g : Nat} {t : TypeId} {cs : Array Value} (h : Aside0 (w.heap[g]? = some (.cells cs t (0, 0)))) : w.frozen? ⟨g, 0, none⟩ = false ∧ w.frozen? ⟨g, 1, none⟩ = false := ⟨blk_frozen h.out 0, blk_frozen h.out 1⟩
theorem cl3_ {w : World} {g : Nat} {t : TypeId} {x0 x1 x2 : Value} (h : Aside0 (w.heap[g]? = some (.cells #[x0, x1, x2] t (0, 0)))) : w.cell? ⟨g, 0, none⟩ = some x0 ∧ w.cell? ⟨g, 1, none⟩ = some x1 ∧ w.cell? ⟨g, 2, none⟩ = some x2 := ⟨(blk_cell h.out 0).trans rfl, (blk_cell h.out 1).trans rfl, (blk_cell h.out 2).trans rfl⟩
theorem fz3_ {w : World} {g : Nat} {t : TypeId} {cs : Array Value} (h : Aside0 (w.heap[g]? = some (.cells cs t (0, 0)))) : w.frozen? ⟨g, 0, none⟩ = false ∧ w.frozen? ⟨g, 1, none⟩ = false ∧ w.frozen? ⟨g, 2, none⟩ = false := ⟨blk_frozen h.out 0, blk_frozen h.out 1, blk_frozen h.out 2⟩
theorem cl4_ {w : World} {g : Nat} {t : TypeId} {x0 x1 x2 x3 : Value} (h : Aside0 (w.heap[g]? = some (.cells #[x0, x1, x2, x3] t (0, 0)))) : w.cell? ⟨g, 0, none⟩ = some x0 ∧ w.cell? ⟨g, 1, none⟩ = some x1 ∧ w.cell? ⟨g, 2, none⟩ = some x2 ∧ w.cell? ⟨g, 3, none⟩ = some x3 := ⟨(blk_cell h.out 0).trans rfl, (blk_cell h.out 1).trans rfl, (blk_cell h.out 2).trans rfl, (blk_cell h.out 3).trans rfl⟩
theorem fz4_ {w : World} {g : Nat} {t : TypeId} {cs : Array Value} (h : Aside0 (w.heap[g]? = some (.cells cs t (0, 0)))) : w.frozen? ⟨g, 0, none⟩ = false ∧ w.frozen? ⟨g, 1, none⟩ = false ∧ w.frozen? ⟨g, 2, none⟩ = false ∧ w.frozen? ⟨g, 3, none⟩ = false := ⟨blk_frozen h.out 0, blk_frozen h.out 1, blk_frozen h.out 2, blk_frozen h.out 3⟩
end Go.Proofs.YtnngbhdofgodiaaGreatDoor.Z
end

section
-- Printed by a program of this session (mp.py) out of the translation.
namespace Go.Proofs.YtnngbhdofgodiaaGreatDoor.Z
open Go.RowKit Go.Proofs.YtnngbhdofgodiaaGreatDoorW.PrintWords Go.Proofs.YtnngbhdofgodiaaGreatDoorW.PrintLast Go.Proofs.YtnngbhdofgodiaaGreatDoorW.PrintMore
attribute [local go_sem] max2_int min2_int max_two min_two max_three min_three max_four min_four   -- for this text's walks alone
set_option linter.unusedVariables false
set_option linter.unusedSimpArgs false

/-! ### item_right: function 34 -/
def item_right.f (a0 : ByteArray) (a1 : ByteArray) : Option (Bool) := if a0.toList = ([] : List UInt8) then (some false) else (if (a0.size : Int) ≤ 48 then (some (decide ((a1.size : Int) ≤ 160))) else (some false))
set_option maxHeartbeats 8000000 in
set_option maxRecDepth 100000 in
theorem item_right.calls (a0 : ByteArray) (a1 : ByteArray) (r : Bool) (w : World) (h : item_right.f a0 a1 = some r) :
    Calls Tryz.prog 34 #[.string a0, .string a1] w fun e w' => e = .returned (.bool r) ∧ Drawn0 w w' := by
  have H : (if a0.toList = ([] : List UInt8) then (some false) else (if (a0.size : Int) ≤ 48 then (some (decide ((a1.size : Int) ≤ 160))) else (some false))) = some r := h
  clear h
  by_cases c3 : a0.toList = ([] : List UInt8)
  · rw [if_pos c3] at H
    have c3b0 : (a0.toList == ([] : List UInt8)) = true := beq_iff_eq.mpr c3
    have c3b1 : (a0.toList != ([] : List UInt8)) = false := bne_eq_false_iff_eq.mpr c3
    clear c3
    obtain rfl := Option.some.inj H
    go_enter Tryz.func34, Tryz.ntmps34
    go_wp2
    go_ret
    exact ⟨by first | rfl | (simp; done) | (simp [*]; done), by repeat (first | exact Drawn0.refl _ | apply Drawn0.step)⟩
  rw [if_neg c3] at H
  have c3b0 : (a0.toList == ([] : List UInt8)) = false := beq_eq_false_iff_ne.mpr c3
  have c3b1 : (a0.toList != ([] : List UInt8)) = true := bne_iff_ne.mpr c3
  by_cases c4 : (a0.size : Int) ≤ 48
  · rw [if_pos c4] at H
    have c4b0 : decide ((a0.size : Int) ≤ 48) = true := decide_eq_true c4
    have c4b1 : decide (a0.size ≤ 48) = true := decide_eq_true (by omega)
    clear c4
    obtain rfl := Option.some.inj H
    go_enter Tryz.func34, Tryz.ntmps34
    go_wp2
    go_ret
    exact ⟨by first | rfl | (simp; done) | (simp [*]; done), by repeat (first | exact Drawn0.refl _ | apply Drawn0.step)⟩
  rw [if_neg c4] at H
  have c4b0 : decide ((a0.size : Int) ≤ 48) = false := decide_eq_false c4
  have c4b1 : decide (a0.size ≤ 48) = false := decide_eq_false (by omega)
  clear c4
  obtain rfl := Option.some.inj H
  go_enter Tryz.func34, Tryz.ntmps34
  go_wp2
  go_ret
  exact ⟨by first | rfl | (simp; done) | (simp [*]; done), by repeat (first | exact Drawn0.refl _ | apply Drawn0.step)⟩

end Go.Proofs.YtnngbhdofgodiaaGreatDoor.Z
end

section
-- Printed by a program of this session (mp.py) out of the translation.
namespace Go.Proofs.YtnngbhdofgodiaaGreatDoor.Z
open Go.RowKit Go.Proofs.YtnngbhdofgodiaaGreatDoorW.PrintWords Go.Proofs.YtnngbhdofgodiaaGreatDoorW.PrintLast Go.Proofs.YtnngbhdofgodiaaGreatDoorW.PrintMore
attribute [local go_sem] max2_int min2_int max_two min_two max_three min_three max_four min_four   -- for this text's walks alone
set_option linter.unusedVariables false
set_option linter.unusedSimpArgs false

/-! ### item_Check: function 18 -/
def item_Check.l0 : Nat → List (S54) → List (S54) → Int → Int → Option (Int)
  | 0, _, _, _, _ => none
  | k + 1, x0, x5, x6, x7 => if x7 < x6 then (if 0 ≤ x7 then (if x7 < (x5.length : Int) then ((item_right.f ((rd_T54 x5 x7).f0) ((rd_T54 x5 x7).f1)).bind fun t103 => (if t103 = true then (if x7 > 0 then (if 0 ≤ (wrap64 (x7 - 1)) then (if (wrap64 (x7 - 1)) < (x0.length : Int) then (if ((Op.bytesLess (((rd_T54 x0 (wrap64 (x7 - 1))).f0).toList) (((rd_T54 x5 x7).f0).toList)) = true) then (item_Check.l0 k x0 x5 x6 (wrap64 (x7 + 1))) else (some 4)) else (none)) else (none)) else (item_Check.l0 k x0 x5 x6 (wrap64 (x7 + 1)))) else (some 4))) else (none)) else (none)) else (some 0)
def item_Check.f (k : Nat) (l0 : List (S54)) : Option (Int) := item_Check.l0 k l0 l0 (l0.length : Int) 0
theorem item_Check.mono_l : ∀ k, (∀ y0 y1 y2 y3, LeO (item_Check.l0 k y0 y1 y2 y3) (item_Check.l0 (k + 1) y0 y1 y2 y3))
  | 0 => fun _ _ _ _ r h => by simp [item_Check.l0] at h
  | k + 1 => by
    have ih0 := item_Check.mono_l k
    · intro y0 y1 y2 y3
      unfold item_Check.l0
      repeat' first
      | (with_reducible exact ih0 _ _ _ _)
      | (with_reducible exact LeO.refl _)
      | (with_reducible exact LeO.none _)
      | (with_reducible refine LeO.ite ?_ ?_)
      | (with_reducible refine LeO.bind ?_ (fun _ => ?_))
      | exact ih0 _ _ _ _
      | exact LeO.none _
      | refine LeO.ite ?_ ?_
      | refine LeO.bind ?_ (fun _ => ?_)
theorem item_Check.mono : ∀ a0 k, LeO (item_Check.f k a0) (item_Check.f (k + 1) a0) := by
  intro a0 k
  have ih0 := item_Check.mono_l k
  unfold item_Check.f
  repeat' first
      | (with_reducible exact ih0 _ _ _ _)
      | (with_reducible exact LeO.refl _)
      | (with_reducible exact LeO.none _)
      | (with_reducible refine LeO.ite ?_ ?_)
      | (with_reducible refine LeO.bind ?_ (fun _ => ?_))
      | exact ih0 _ _ _ _
      | exact LeO.none _
      | refine LeO.ite ?_ ?_
      | refine LeO.bind ?_ (fun _ => ?_)
set_option maxHeartbeats 8000000 in
set_option maxRecDepth 100000 in
theorem item_Check.calls (k : Nat) (A0 : Option Addr) (c0 : Nat) (l0 : List (S54)) (r : Int) (w : World) (hr0 : Kd.C k54 w A0 l0.length l0) (hc0 : l0.length ≤ c0) (h : item_Check.f k l0 = some r) :
    Calls Tryz.prog 18 #[.slice A0 l0.length c0] w fun e w' => e = .returned (.int .i64 r) ∧ Below w.heap.size w w' := by
  have hu54 := Tryz.underlying54
  have HR0 := Aside0.mk hr0
  have HC0 := Aside0.mk hc0
  clear hr0 hc0
  have HB := Aside0.mk (Below.refl w.heap.size w)
  have H : (item_Check.l0 k l0 l0 (l0.length : Int) 0) = some r := h
  clear h
  have H' := Aside0.mk H
  clear H
  go_enter Tryz.func18, Tryz.ntmps18
  go_wp2
  repeat (go_quiet (fail); try go_wp2)
  go_loopg [7] k (fun kq v7 w' => ∃ (x7_1 : Int), v7 = .int .i64 x7_1 ∧ Aside0 (item_Check.l0 kq l0 l0 (l0.length : Int) x7_1 = some r) ∧ Aside0 (kq ≤ k) ∧ Aside0 (Below w.heap.size w w'))
  case atStart => exact ⟨(0), (by first | rfl | (simp; done) | (simp [*]; done)), H', ⟨Nat.le_refl _⟩, ⟨bel_⟩⟩
  case round =>
    clear H'
    try clear c1
    obtain ⟨x7_1, rfl, HA, HK1, HB⟩ := hrel
    cases gk with
    | zero => exact absurd HA.out (by simp [item_Check.l0])
    | succ k1 =>
      have H := HA.out
      clear HA
      simp only [item_Check.l0] at H
      by_cases c2 : x7_1 < (l0.length : Int)
      · rw [if_pos c2] at H
        have c2b0 : decide (x7_1 < (l0.length : Int)) = true := decide_eq_true c2
        clear c2
        by_cases c3 : 0 ≤ x7_1
        · rw [if_pos c3] at H
          have c3b0 : decide (0 ≤ x7_1) = true := decide_eq_true c3
          clear c3
          by_cases c4 : x7_1 < (l0.length : Int)
          · rw [if_pos c4] at H
            have c4b0 : decide (x7_1 < (l0.length : Int)) = true := decide_eq_true c4
            clear c4
            replace H := Option.bind_eq_some_iff.mp H
            obtain ⟨t103, A50, H⟩ := H
            replace H : (if t103 = true then (if x7_1 > 0 then (if 0 ≤ (wrap64 (x7_1 - 1)) then (if (wrap64 (x7_1 - 1)) < (l0.length : Int) then (if ((Op.bytesLess (((rd_T54 l0 (wrap64 (x7_1 - 1))).f0).toList) (((rd_T54 l0 x7_1).f0).toList)) = true) then (item_Check.l0 k1 l0 l0 (l0.length : Int) (wrap64 (x7_1 + 1))) else (some 4)) else (none)) else (none)) else (item_Check.l0 k1 l0 l0 (l0.length : Int) (wrap64 (x7_1 + 1)))) else (some 4)) = some r := H
            have A5 := Aside0.mk A50
            clear A50
            by_cases c6 : t103 = true
            · subst c6
              have H1 : (if x7_1 > 0 then (if 0 ≤ (wrap64 (x7_1 - 1)) then (if (wrap64 (x7_1 - 1)) < (l0.length : Int) then (if ((Op.bytesLess (((rd_T54 l0 (wrap64 (x7_1 - 1))).f0).toList) (((rd_T54 l0 x7_1).f0).toList)) = true) then (item_Check.l0 k1 l0 l0 (l0.length : Int) (wrap64 (x7_1 + 1))) else (some 4)) else (none)) else (none)) else (item_Check.l0 k1 l0 l0 (l0.length : Int) (wrap64 (x7_1 + 1)))) = some r := by rw [if_pos rfl] at H; exact H
              clear H
              have H := H1
              clear H1
              by_cases c7 : x7_1 > 0
              · rw [if_pos c7] at H
                have c7b0 : decide (0 < x7_1) = true := decide_eq_true c7
                clear c7
                obtain ⟨ji8, hji8⟩ : ∃ j_ : Int, (wrap64 (x7_1 - 1)) = j_ := ⟨_, rfl⟩
                replace H : (if 0 ≤ (ji8) then (if (ji8) < (l0.length : Int) then (if ((Op.bytesLess (((rd_T54 l0 (ji8)).f0).toList) (((rd_T54 l0 x7_1).f0).toList)) = true) then (item_Check.l0 k1 l0 l0 (l0.length : Int) (wrap64 (x7_1 + 1))) else (some 4)) else (none)) else (none)) = some r := by first | (rw [hji8] at H; exact H) | (simp only [hji8] at H ⊢; exact H)
                (try rw [hji8] at A5)
                have hji8w : (IntKind.i64.wrap (x7_1 - 1)) = ji8 := (i64_w _).trans hji8
                by_cases c9 : 0 ≤ (ji8)
                · rw [if_pos c9] at H
                  have c9b0 : decide (0 ≤ (ji8)) = true := decide_eq_true c9
                  clear c9
                  by_cases c10 : (ji8) < (l0.length : Int)
                  · rw [if_pos c10] at H
                    have c10b0 : decide ((ji8) < (l0.length : Int)) = true := decide_eq_true c10
                    clear c10
                    by_cases c11 : ((Op.bytesLess (((rd_T54 l0 (ji8)).f0).toList) (((rd_T54 l0 x7_1).f0).toList)) = true)
                    · rw [if_pos c11] at H
                      have c11b0 : (Op.bytesLess (((rd_T54 l0 (ji8)).f0).toList) (((rd_T54 l0 x7_1).f0).toList)) = true := c11
                      clear c11
                      have H' := Aside0.mk H
                      clear H
                      have p101 : 0 ≤ (x7_1 : Int) := of_decide_eq_true (by first | (with_reducible assumption) | assumption)
                      have q101 : x7_1 < (l0.length : Int) := of_decide_eq_true (by first | (with_reducible assumption) | assumption)
                      obtain ⟨ad101, e101, hx101_0, hx101_1⟩ := at_T54 HR0.out x7_1 p101 q101
                      cases e101
                      replace hx101_0 := (HB.out.cell (World.block_lt_of_cell? w _ hx101_0)).trans hx101_0
                      replace hx101_1 := (HB.out.cell (World.block_lt_of_cell? w _ hx101_1)).trans hx101_1
                      replace p101 := eq_true p101
                      replace q101 := eq_true q101
                      go_wp2_with (first | ((with_reducible refine gate_dst (N := 4) rfl ?_); refine bx_ (N := 4) (cs := #[.string (⟨#[]⟩ : ByteArray), .string (⟨#[]⟩ : ByteArray)]) (t := 54) ?_; intro gb102 hg w12 hbox hb; have BK102 := Aside0.mk (hbox); have GW102 := ge_ hg; have GE102 := ge_ hg; replace HB := hb_ hb; clear hb hbox hg; obtain ⟨hcz13_0, hcz13_1⟩ := cl2_ BK102; obtain ⟨hfz13_0, hfz13_1⟩ := fz2_ BK102) | (go_at_call 34; (with_reducible refine (item_right.calls ((rd_T54 l0 x7_1).f0) ((rd_T54 l0 x7_1).f1) true _ A5.out).mono ?_); rintro e w' ⟨rfl, ⟨nd, rfl⟩⟩; (try first | exact ⟨rfl, _, World.drewN_drewN _ _ _⟩ | exact ⟨rfl, _, Eq.trans (World.drewN_drewN _ _ _) (congrArg (World.drewN _) (Nat.add_assoc _ _ _))⟩); have p104 : 0 ≤ ((ji8) : Int) := of_decide_eq_true (by first | (with_reducible assumption) | assumption); have q104 : (ji8) < (l0.length : Int) := of_decide_eq_true (by first | (with_reducible assumption) | assumption); obtain ⟨ad104, e104, hx104_0, hx104_1⟩ := at_T54 HR0.out (ji8) p104 q104; obtain rfl : ad101 = ad104 := (by injection e104); have hn104_0 : ad101.block ≠ gb102 := Nat.ne_of_lt (Nat.lt_of_lt_of_le (by have := World.block_lt_of_cell? _ _ hx104_0; first | rwa [add_block] at this | exact this) GW102.out); have hn104_1 : ad101.block ≠ gb102 := Nat.ne_of_lt (Nat.lt_of_lt_of_le (by have := World.block_lt_of_cell? _ _ hx104_0; first | rwa [add_block] at this | exact this) GW102.out); replace hx104_0 := (HB.out.cell (World.block_lt_of_cell? w _ hx104_0)).trans hx104_0; replace hx104_1 := (HB.out.cell (World.block_lt_of_cell? w _ hx104_1)).trans hx104_1; replace hx104_0 := (cell_far (p := ⟨gb102, 0, none⟩) (by first | (rw [add_block]; exact hn104_0) | (show (Addr.add _ _).block ≠ _; rw [add_block]; exact hn104_0) | exact hn104_0) (.string ((rd_T54 l0 x7_1).f0))).trans hx104_0; replace hx104_1 := (cell_far (p := ⟨gb102, 0, none⟩) (by first | (rw [add_block]; exact hn104_0) | (show (Addr.add _ _).block ≠ _; rw [add_block]; exact hn104_0) | exact hn104_0) (.string ((rd_T54 l0 x7_1).f0))).trans hx104_1; replace hx104_0 := (cell_far (p := ⟨gb102, 1, none⟩) (by first | (rw [add_block]; exact hn104_1) | (show (Addr.add _ _).block ≠ _; rw [add_block]; exact hn104_1) | exact hn104_1) (.string ((rd_T54 l0 x7_1).f1))).trans hx104_0; replace hx104_1 := (cell_far (p := ⟨gb102, 1, none⟩) (by first | (rw [add_block]; exact hn104_1) | (show (Addr.add _ _).block ≠ _; rw [add_block]; exact hn104_1) | exact hn104_1) (.string ((rd_T54 l0 x7_1).f1))).trans hx104_1; (try have hy104_0 := fun (n_ : Nat) => (show ((((w12.drewN n_).setCell ⟨gb102, 0, none⟩ (.string ((rd_T54 l0 x7_1).f0))).setCell ⟨gb102, 1, none⟩ (.string ((rd_T54 l0 x7_1).f1)))).cell? _ = some _ from hx104_0)); (try have hy104_1 := fun (n_ : Nat) => (show ((((w12.drewN n_).setCell ⟨gb102, 0, none⟩ (.string ((rd_T54 l0 x7_1).f0))).setCell ⟨gb102, 1, none⟩ (.string ((rd_T54 l0 x7_1).f1)))).cell? _ = some _ from hx104_1)); clear hn104_0; clear hn104_1; replace p104 := eq_true p104; replace q104 := eq_true q104))
                      repeat (go_quiet (first | ((with_reducible refine gate_dst (N := 4) rfl ?_); refine bx_ (N := 4) (cs := #[.string (⟨#[]⟩ : ByteArray), .string (⟨#[]⟩ : ByteArray)]) (t := 54) ?_; intro gb102 hg w12 hbox hb; have n0_ := Aside0.mk (below_step bel_ hb); have n1_ := Aside0.mk (hbox); have n2_ := Aside0.mk ((by rw [hg]; exact (below_size bel_) : w.heap.size ≤ gb102)); have n3_ := Aside0.mk ((by rw [hg]; exact (below_size bel_) : w.heap.size ≤ gb102)); clear HB; have HB := n0_; have BK102 := n1_; have GW102 := n2_; have GE102 := n3_; clear n0_ n1_ n2_ n3_; clear hb hbox hg; have hcz13_0 : w12.cell? ⟨gb102, 0, none⟩ = some (.string (⟨#[]⟩ : ByteArray)) := (blk_cell BK102.out 0).trans rfl; have hcz13_1 : w12.cell? ⟨gb102, 1, none⟩ = some (.string (⟨#[]⟩ : ByteArray)) := (blk_cell BK102.out 1).trans rfl; have hfz13_0 := blk_frozen BK102.out 0; have hfz13_1 := blk_frozen BK102.out 1) | (go_at_call 34; (with_reducible refine (item_right.calls ((rd_T54 l0 x7_1).f0) ((rd_T54 l0 x7_1).f1) true _ A5.out).mono ?_); rintro e w' ⟨rfl, ⟨nd, rfl⟩⟩; (try first | exact ⟨rfl, _, World.drewN_drewN _ _ _⟩ | exact ⟨rfl, _, Eq.trans (World.drewN_drewN _ _ _) (congrArg (World.drewN _) (Nat.add_assoc _ _ _))⟩); have p104 : 0 ≤ ((ji8) : Int) := of_decide_eq_true (by first | (with_reducible assumption) | assumption); have q104 : (ji8) < (l0.length : Int) := of_decide_eq_true (by first | (with_reducible assumption) | assumption); obtain ⟨ad104, e104, hx104_0, hx104_1⟩ := at_T54 HR0.out (ji8) p104 q104; obtain rfl : ad101 = ad104 := (by injection e104); have hn104_0 : ad101.block ≠ gb102 := Nat.ne_of_lt (Nat.lt_of_lt_of_le (by have := World.block_lt_of_cell? _ _ hx104_0; first | rwa [add_block] at this | exact this) GW102.out); have hn104_1 : ad101.block ≠ gb102 := Nat.ne_of_lt (Nat.lt_of_lt_of_le (by have := World.block_lt_of_cell? _ _ hx104_0; first | rwa [add_block] at this | exact this) GW102.out); replace hx104_0 := (HB.out.cell (World.block_lt_of_cell? w _ hx104_0)).trans hx104_0; replace hx104_1 := (HB.out.cell (World.block_lt_of_cell? w _ hx104_1)).trans hx104_1; replace hx104_0 := (cell_far (p := ⟨gb102, 0, none⟩) (by first | (rw [add_block]; exact hn104_0) | (show (Addr.add _ _).block ≠ _; rw [add_block]; exact hn104_0) | exact hn104_0) (.string ((rd_T54 l0 x7_1).f0))).trans hx104_0; replace hx104_1 := (cell_far (p := ⟨gb102, 0, none⟩) (by first | (rw [add_block]; exact hn104_0) | (show (Addr.add _ _).block ≠ _; rw [add_block]; exact hn104_0) | exact hn104_0) (.string ((rd_T54 l0 x7_1).f0))).trans hx104_1; replace hx104_0 := (cell_far (p := ⟨gb102, 1, none⟩) (by first | (rw [add_block]; exact hn104_1) | (show (Addr.add _ _).block ≠ _; rw [add_block]; exact hn104_1) | exact hn104_1) (.string ((rd_T54 l0 x7_1).f1))).trans hx104_0; replace hx104_1 := (cell_far (p := ⟨gb102, 1, none⟩) (by first | (rw [add_block]; exact hn104_1) | (show (Addr.add _ _).block ≠ _; rw [add_block]; exact hn104_1) | exact hn104_1) (.string ((rd_T54 l0 x7_1).f1))).trans hx104_1; (try have hy104_0 := fun (n_ : Nat) => (show ((((w12.drewN n_).setCell ⟨gb102, 0, none⟩ (.string ((rd_T54 l0 x7_1).f0))).setCell ⟨gb102, 1, none⟩ (.string ((rd_T54 l0 x7_1).f1)))).cell? _ = some _ from hx104_0)); (try have hy104_1 := fun (n_ : Nat) => (show ((((w12.drewN n_).setCell ⟨gb102, 0, none⟩ (.string ((rd_T54 l0 x7_1).f0))).setCell ⟨gb102, 1, none⟩ (.string ((rd_T54 l0 x7_1).f1)))).cell? _ = some _ from hx104_1)); clear hn104_0; clear hn104_1; replace p104 := eq_true p104; replace q104 := eq_true q104)); try go_wp2_with (first | ((with_reducible refine gate_dst (N := 4) rfl ?_); refine bx_ (N := 4) (cs := #[.string (⟨#[]⟩ : ByteArray), .string (⟨#[]⟩ : ByteArray)]) (t := 54) ?_; intro gb102 hg w12 hbox hb; have BK102 := Aside0.mk (hbox); have GW102 := ge_ hg; have GE102 := ge_ hg; replace HB := hb_ hb; clear hb hbox hg; obtain ⟨hcz13_0, hcz13_1⟩ := cl2_ BK102; obtain ⟨hfz13_0, hfz13_1⟩ := fz2_ BK102) | (go_at_call 34; (with_reducible refine (item_right.calls ((rd_T54 l0 x7_1).f0) ((rd_T54 l0 x7_1).f1) true _ A5.out).mono ?_); rintro e w' ⟨rfl, ⟨nd, rfl⟩⟩; (try first | exact ⟨rfl, _, World.drewN_drewN _ _ _⟩ | exact ⟨rfl, _, Eq.trans (World.drewN_drewN _ _ _) (congrArg (World.drewN _) (Nat.add_assoc _ _ _))⟩); have p104 : 0 ≤ ((ji8) : Int) := of_decide_eq_true (by first | (with_reducible assumption) | assumption); have q104 : (ji8) < (l0.length : Int) := of_decide_eq_true (by first | (with_reducible assumption) | assumption); obtain ⟨ad104, e104, hx104_0, hx104_1⟩ := at_T54 HR0.out (ji8) p104 q104; obtain rfl : ad101 = ad104 := (by injection e104); have hn104_0 : ad101.block ≠ gb102 := Nat.ne_of_lt (Nat.lt_of_lt_of_le (by have := World.block_lt_of_cell? _ _ hx104_0; first | rwa [add_block] at this | exact this) GW102.out); have hn104_1 : ad101.block ≠ gb102 := Nat.ne_of_lt (Nat.lt_of_lt_of_le (by have := World.block_lt_of_cell? _ _ hx104_0; first | rwa [add_block] at this | exact this) GW102.out); replace hx104_0 := (HB.out.cell (World.block_lt_of_cell? w _ hx104_0)).trans hx104_0; replace hx104_1 := (HB.out.cell (World.block_lt_of_cell? w _ hx104_1)).trans hx104_1; replace hx104_0 := (cell_far (p := ⟨gb102, 0, none⟩) (by first | (rw [add_block]; exact hn104_0) | (show (Addr.add _ _).block ≠ _; rw [add_block]; exact hn104_0) | exact hn104_0) (.string ((rd_T54 l0 x7_1).f0))).trans hx104_0; replace hx104_1 := (cell_far (p := ⟨gb102, 0, none⟩) (by first | (rw [add_block]; exact hn104_0) | (show (Addr.add _ _).block ≠ _; rw [add_block]; exact hn104_0) | exact hn104_0) (.string ((rd_T54 l0 x7_1).f0))).trans hx104_1; replace hx104_0 := (cell_far (p := ⟨gb102, 1, none⟩) (by first | (rw [add_block]; exact hn104_1) | (show (Addr.add _ _).block ≠ _; rw [add_block]; exact hn104_1) | exact hn104_1) (.string ((rd_T54 l0 x7_1).f1))).trans hx104_0; replace hx104_1 := (cell_far (p := ⟨gb102, 1, none⟩) (by first | (rw [add_block]; exact hn104_1) | (show (Addr.add _ _).block ≠ _; rw [add_block]; exact hn104_1) | exact hn104_1) (.string ((rd_T54 l0 x7_1).f1))).trans hx104_1; (try have hy104_0 := fun (n_ : Nat) => (show ((((w12.drewN n_).setCell ⟨gb102, 0, none⟩ (.string ((rd_T54 l0 x7_1).f0))).setCell ⟨gb102, 1, none⟩ (.string ((rd_T54 l0 x7_1).f1)))).cell? _ = some _ from hx104_0)); (try have hy104_1 := fun (n_ : Nat) => (show ((((w12.drewN n_).setCell ⟨gb102, 0, none⟩ (.string ((rd_T54 l0 x7_1).f0))).setCell ⟨gb102, 1, none⟩ (.string ((rd_T54 l0 x7_1).f1)))).cell? _ = some _ from hx104_1)); clear hn104_0; clear hn104_1; replace p104 := eq_true p104; replace q104 := eq_true q104)))
                      go_roundg k1
                      case measure => have := HK1.out; omega
                      case rel => exact ⟨(wrap64 (x7_1 + 1)), (by first | rfl | (simp; done) | (simp [*]; done)), H', ⟨by have := HK1.out; omega⟩, ⟨bel_⟩⟩
                    rw [if_neg c11] at H
                    have c11b0 : (Op.bytesLess (((rd_T54 l0 (ji8)).f0).toList) (((rd_T54 l0 x7_1).f0).toList)) = false := by simpa using c11
                    clear c11
                    obtain rfl := Option.some.inj H
                    have p101 : 0 ≤ (x7_1 : Int) := of_decide_eq_true (by first | (with_reducible assumption) | assumption)
                    have q101 : x7_1 < (l0.length : Int) := of_decide_eq_true (by first | (with_reducible assumption) | assumption)
                    obtain ⟨ad101, e101, hx101_0, hx101_1⟩ := at_T54 HR0.out x7_1 p101 q101
                    cases e101
                    replace hx101_0 := (HB.out.cell (World.block_lt_of_cell? w _ hx101_0)).trans hx101_0
                    replace hx101_1 := (HB.out.cell (World.block_lt_of_cell? w _ hx101_1)).trans hx101_1
                    replace p101 := eq_true p101
                    replace q101 := eq_true q101
                    go_wp2_with (first | ((with_reducible refine gate_dst (N := 4) rfl ?_); refine bx_ (N := 4) (cs := #[.string (⟨#[]⟩ : ByteArray), .string (⟨#[]⟩ : ByteArray)]) (t := 54) ?_; intro gb102 hg w14 hbox hb; have BK102 := Aside0.mk (hbox); have GW102 := ge_ hg; have GE102 := ge_ hg; replace HB := hb_ hb; clear hb hbox hg; obtain ⟨hcz15_0, hcz15_1⟩ := cl2_ BK102; obtain ⟨hfz15_0, hfz15_1⟩ := fz2_ BK102) | (go_at_call 34; (with_reducible refine (item_right.calls ((rd_T54 l0 x7_1).f0) ((rd_T54 l0 x7_1).f1) true _ A5.out).mono ?_); rintro e w' ⟨rfl, ⟨nd, rfl⟩⟩; (try first | exact ⟨rfl, _, World.drewN_drewN _ _ _⟩ | exact ⟨rfl, _, Eq.trans (World.drewN_drewN _ _ _) (congrArg (World.drewN _) (Nat.add_assoc _ _ _))⟩); have p104 : 0 ≤ ((ji8) : Int) := of_decide_eq_true (by first | (with_reducible assumption) | assumption); have q104 : (ji8) < (l0.length : Int) := of_decide_eq_true (by first | (with_reducible assumption) | assumption); obtain ⟨ad104, e104, hx104_0, hx104_1⟩ := at_T54 HR0.out (ji8) p104 q104; obtain rfl : ad101 = ad104 := (by injection e104); have hn104_0 : ad101.block ≠ gb102 := Nat.ne_of_lt (Nat.lt_of_lt_of_le (by have := World.block_lt_of_cell? _ _ hx104_0; first | rwa [add_block] at this | exact this) GW102.out); have hn104_1 : ad101.block ≠ gb102 := Nat.ne_of_lt (Nat.lt_of_lt_of_le (by have := World.block_lt_of_cell? _ _ hx104_0; first | rwa [add_block] at this | exact this) GW102.out); replace hx104_0 := (HB.out.cell (World.block_lt_of_cell? w _ hx104_0)).trans hx104_0; replace hx104_1 := (HB.out.cell (World.block_lt_of_cell? w _ hx104_1)).trans hx104_1; replace hx104_0 := (cell_far (p := ⟨gb102, 0, none⟩) (by first | (rw [add_block]; exact hn104_0) | (show (Addr.add _ _).block ≠ _; rw [add_block]; exact hn104_0) | exact hn104_0) (.string ((rd_T54 l0 x7_1).f0))).trans hx104_0; replace hx104_1 := (cell_far (p := ⟨gb102, 0, none⟩) (by first | (rw [add_block]; exact hn104_0) | (show (Addr.add _ _).block ≠ _; rw [add_block]; exact hn104_0) | exact hn104_0) (.string ((rd_T54 l0 x7_1).f0))).trans hx104_1; replace hx104_0 := (cell_far (p := ⟨gb102, 1, none⟩) (by first | (rw [add_block]; exact hn104_1) | (show (Addr.add _ _).block ≠ _; rw [add_block]; exact hn104_1) | exact hn104_1) (.string ((rd_T54 l0 x7_1).f1))).trans hx104_0; replace hx104_1 := (cell_far (p := ⟨gb102, 1, none⟩) (by first | (rw [add_block]; exact hn104_1) | (show (Addr.add _ _).block ≠ _; rw [add_block]; exact hn104_1) | exact hn104_1) (.string ((rd_T54 l0 x7_1).f1))).trans hx104_1; (try have hy104_0 := fun (n_ : Nat) => (show ((((w14.drewN n_).setCell ⟨gb102, 0, none⟩ (.string ((rd_T54 l0 x7_1).f0))).setCell ⟨gb102, 1, none⟩ (.string ((rd_T54 l0 x7_1).f1)))).cell? _ = some _ from hx104_0)); (try have hy104_1 := fun (n_ : Nat) => (show ((((w14.drewN n_).setCell ⟨gb102, 0, none⟩ (.string ((rd_T54 l0 x7_1).f0))).setCell ⟨gb102, 1, none⟩ (.string ((rd_T54 l0 x7_1).f1)))).cell? _ = some _ from hx104_1)); clear hn104_0; clear hn104_1; replace p104 := eq_true p104; replace q104 := eq_true q104))
                    repeat (go_quiet (first | ((with_reducible refine gate_dst (N := 4) rfl ?_); refine bx_ (N := 4) (cs := #[.string (⟨#[]⟩ : ByteArray), .string (⟨#[]⟩ : ByteArray)]) (t := 54) ?_; intro gb102 hg w14 hbox hb; have n0_ := Aside0.mk (below_step bel_ hb); have n1_ := Aside0.mk (hbox); have n2_ := Aside0.mk ((by rw [hg]; exact (below_size bel_) : w.heap.size ≤ gb102)); have n3_ := Aside0.mk ((by rw [hg]; exact (below_size bel_) : w.heap.size ≤ gb102)); clear HB; have HB := n0_; have BK102 := n1_; have GW102 := n2_; have GE102 := n3_; clear n0_ n1_ n2_ n3_; clear hb hbox hg; have hcz15_0 : w14.cell? ⟨gb102, 0, none⟩ = some (.string (⟨#[]⟩ : ByteArray)) := (blk_cell BK102.out 0).trans rfl; have hcz15_1 : w14.cell? ⟨gb102, 1, none⟩ = some (.string (⟨#[]⟩ : ByteArray)) := (blk_cell BK102.out 1).trans rfl; have hfz15_0 := blk_frozen BK102.out 0; have hfz15_1 := blk_frozen BK102.out 1) | (go_at_call 34; (with_reducible refine (item_right.calls ((rd_T54 l0 x7_1).f0) ((rd_T54 l0 x7_1).f1) true _ A5.out).mono ?_); rintro e w' ⟨rfl, ⟨nd, rfl⟩⟩; (try first | exact ⟨rfl, _, World.drewN_drewN _ _ _⟩ | exact ⟨rfl, _, Eq.trans (World.drewN_drewN _ _ _) (congrArg (World.drewN _) (Nat.add_assoc _ _ _))⟩); have p104 : 0 ≤ ((ji8) : Int) := of_decide_eq_true (by first | (with_reducible assumption) | assumption); have q104 : (ji8) < (l0.length : Int) := of_decide_eq_true (by first | (with_reducible assumption) | assumption); obtain ⟨ad104, e104, hx104_0, hx104_1⟩ := at_T54 HR0.out (ji8) p104 q104; obtain rfl : ad101 = ad104 := (by injection e104); have hn104_0 : ad101.block ≠ gb102 := Nat.ne_of_lt (Nat.lt_of_lt_of_le (by have := World.block_lt_of_cell? _ _ hx104_0; first | rwa [add_block] at this | exact this) GW102.out); have hn104_1 : ad101.block ≠ gb102 := Nat.ne_of_lt (Nat.lt_of_lt_of_le (by have := World.block_lt_of_cell? _ _ hx104_0; first | rwa [add_block] at this | exact this) GW102.out); replace hx104_0 := (HB.out.cell (World.block_lt_of_cell? w _ hx104_0)).trans hx104_0; replace hx104_1 := (HB.out.cell (World.block_lt_of_cell? w _ hx104_1)).trans hx104_1; replace hx104_0 := (cell_far (p := ⟨gb102, 0, none⟩) (by first | (rw [add_block]; exact hn104_0) | (show (Addr.add _ _).block ≠ _; rw [add_block]; exact hn104_0) | exact hn104_0) (.string ((rd_T54 l0 x7_1).f0))).trans hx104_0; replace hx104_1 := (cell_far (p := ⟨gb102, 0, none⟩) (by first | (rw [add_block]; exact hn104_0) | (show (Addr.add _ _).block ≠ _; rw [add_block]; exact hn104_0) | exact hn104_0) (.string ((rd_T54 l0 x7_1).f0))).trans hx104_1; replace hx104_0 := (cell_far (p := ⟨gb102, 1, none⟩) (by first | (rw [add_block]; exact hn104_1) | (show (Addr.add _ _).block ≠ _; rw [add_block]; exact hn104_1) | exact hn104_1) (.string ((rd_T54 l0 x7_1).f1))).trans hx104_0; replace hx104_1 := (cell_far (p := ⟨gb102, 1, none⟩) (by first | (rw [add_block]; exact hn104_1) | (show (Addr.add _ _).block ≠ _; rw [add_block]; exact hn104_1) | exact hn104_1) (.string ((rd_T54 l0 x7_1).f1))).trans hx104_1; (try have hy104_0 := fun (n_ : Nat) => (show ((((w14.drewN n_).setCell ⟨gb102, 0, none⟩ (.string ((rd_T54 l0 x7_1).f0))).setCell ⟨gb102, 1, none⟩ (.string ((rd_T54 l0 x7_1).f1)))).cell? _ = some _ from hx104_0)); (try have hy104_1 := fun (n_ : Nat) => (show ((((w14.drewN n_).setCell ⟨gb102, 0, none⟩ (.string ((rd_T54 l0 x7_1).f0))).setCell ⟨gb102, 1, none⟩ (.string ((rd_T54 l0 x7_1).f1)))).cell? _ = some _ from hx104_1)); clear hn104_0; clear hn104_1; replace p104 := eq_true p104; replace q104 := eq_true q104)); try go_wp2_with (first | ((with_reducible refine gate_dst (N := 4) rfl ?_); refine bx_ (N := 4) (cs := #[.string (⟨#[]⟩ : ByteArray), .string (⟨#[]⟩ : ByteArray)]) (t := 54) ?_; intro gb102 hg w14 hbox hb; have BK102 := Aside0.mk (hbox); have GW102 := ge_ hg; have GE102 := ge_ hg; replace HB := hb_ hb; clear hb hbox hg; obtain ⟨hcz15_0, hcz15_1⟩ := cl2_ BK102; obtain ⟨hfz15_0, hfz15_1⟩ := fz2_ BK102) | (go_at_call 34; (with_reducible refine (item_right.calls ((rd_T54 l0 x7_1).f0) ((rd_T54 l0 x7_1).f1) true _ A5.out).mono ?_); rintro e w' ⟨rfl, ⟨nd, rfl⟩⟩; (try first | exact ⟨rfl, _, World.drewN_drewN _ _ _⟩ | exact ⟨rfl, _, Eq.trans (World.drewN_drewN _ _ _) (congrArg (World.drewN _) (Nat.add_assoc _ _ _))⟩); have p104 : 0 ≤ ((ji8) : Int) := of_decide_eq_true (by first | (with_reducible assumption) | assumption); have q104 : (ji8) < (l0.length : Int) := of_decide_eq_true (by first | (with_reducible assumption) | assumption); obtain ⟨ad104, e104, hx104_0, hx104_1⟩ := at_T54 HR0.out (ji8) p104 q104; obtain rfl : ad101 = ad104 := (by injection e104); have hn104_0 : ad101.block ≠ gb102 := Nat.ne_of_lt (Nat.lt_of_lt_of_le (by have := World.block_lt_of_cell? _ _ hx104_0; first | rwa [add_block] at this | exact this) GW102.out); have hn104_1 : ad101.block ≠ gb102 := Nat.ne_of_lt (Nat.lt_of_lt_of_le (by have := World.block_lt_of_cell? _ _ hx104_0; first | rwa [add_block] at this | exact this) GW102.out); replace hx104_0 := (HB.out.cell (World.block_lt_of_cell? w _ hx104_0)).trans hx104_0; replace hx104_1 := (HB.out.cell (World.block_lt_of_cell? w _ hx104_1)).trans hx104_1; replace hx104_0 := (cell_far (p := ⟨gb102, 0, none⟩) (by first | (rw [add_block]; exact hn104_0) | (show (Addr.add _ _).block ≠ _; rw [add_block]; exact hn104_0) | exact hn104_0) (.string ((rd_T54 l0 x7_1).f0))).trans hx104_0; replace hx104_1 := (cell_far (p := ⟨gb102, 0, none⟩) (by first | (rw [add_block]; exact hn104_0) | (show (Addr.add _ _).block ≠ _; rw [add_block]; exact hn104_0) | exact hn104_0) (.string ((rd_T54 l0 x7_1).f0))).trans hx104_1; replace hx104_0 := (cell_far (p := ⟨gb102, 1, none⟩) (by first | (rw [add_block]; exact hn104_1) | (show (Addr.add _ _).block ≠ _; rw [add_block]; exact hn104_1) | exact hn104_1) (.string ((rd_T54 l0 x7_1).f1))).trans hx104_0; replace hx104_1 := (cell_far (p := ⟨gb102, 1, none⟩) (by first | (rw [add_block]; exact hn104_1) | (show (Addr.add _ _).block ≠ _; rw [add_block]; exact hn104_1) | exact hn104_1) (.string ((rd_T54 l0 x7_1).f1))).trans hx104_1; (try have hy104_0 := fun (n_ : Nat) => (show ((((w14.drewN n_).setCell ⟨gb102, 0, none⟩ (.string ((rd_T54 l0 x7_1).f0))).setCell ⟨gb102, 1, none⟩ (.string ((rd_T54 l0 x7_1).f1)))).cell? _ = some _ from hx104_0)); (try have hy104_1 := fun (n_ : Nat) => (show ((((w14.drewN n_).setCell ⟨gb102, 0, none⟩ (.string ((rd_T54 l0 x7_1).f0))).setCell ⟨gb102, 1, none⟩ (.string ((rd_T54 l0 x7_1).f1)))).cell? _ = some _ from hx104_1)); clear hn104_0; clear hn104_1; replace p104 := eq_true p104; replace q104 := eq_true q104)))
                    go_ret
                    exact ⟨by first | rfl | (simp [errW_none, errW_some] <;> rfl) | (simp only [← hji8]; first | rfl | (simp [errW_none, errW_some] <;> rfl)) | (simp [*, errW_none, errW_some] <;> rfl), bel_⟩
                  rw [if_neg c10] at H
                  exact absurd H (by simp)
                rw [if_neg c9] at H
                exact absurd H (by simp)
              rw [if_neg c7] at H
              have c7b0 : decide (0 < x7_1) = false := decide_eq_false c7
              clear c7
              have H' := Aside0.mk H
              clear H
              have p101 : 0 ≤ (x7_1 : Int) := of_decide_eq_true (by first | (with_reducible assumption) | assumption)
              have q101 : x7_1 < (l0.length : Int) := of_decide_eq_true (by first | (with_reducible assumption) | assumption)
              obtain ⟨ad101, e101, hx101_0, hx101_1⟩ := at_T54 HR0.out x7_1 p101 q101
              cases e101
              replace hx101_0 := (HB.out.cell (World.block_lt_of_cell? w _ hx101_0)).trans hx101_0
              replace hx101_1 := (HB.out.cell (World.block_lt_of_cell? w _ hx101_1)).trans hx101_1
              replace p101 := eq_true p101
              replace q101 := eq_true q101
              go_wp2_with (first | ((with_reducible refine gate_dst (N := 4) rfl ?_); refine bx_ (N := 4) (cs := #[.string (⟨#[]⟩ : ByteArray), .string (⟨#[]⟩ : ByteArray)]) (t := 54) ?_; intro gb102 hg w16 hbox hb; have BK102 := Aside0.mk (hbox); have GW102 := ge_ hg; have GE102 := ge_ hg; replace HB := hb_ hb; clear hb hbox hg; obtain ⟨hcz17_0, hcz17_1⟩ := cl2_ BK102; obtain ⟨hfz17_0, hfz17_1⟩ := fz2_ BK102) | (go_at_call 34; (with_reducible refine (item_right.calls ((rd_T54 l0 x7_1).f0) ((rd_T54 l0 x7_1).f1) true _ A5.out).mono ?_); rintro e w' ⟨rfl, ⟨nd, rfl⟩⟩; (try first | exact ⟨rfl, _, World.drewN_drewN _ _ _⟩ | exact ⟨rfl, _, Eq.trans (World.drewN_drewN _ _ _) (congrArg (World.drewN _) (Nat.add_assoc _ _ _))⟩)))
              repeat (go_quiet (first | ((with_reducible refine gate_dst (N := 4) rfl ?_); refine bx_ (N := 4) (cs := #[.string (⟨#[]⟩ : ByteArray), .string (⟨#[]⟩ : ByteArray)]) (t := 54) ?_; intro gb102 hg w16 hbox hb; have n0_ := Aside0.mk (below_step bel_ hb); have n1_ := Aside0.mk (hbox); have n2_ := Aside0.mk ((by rw [hg]; exact (below_size bel_) : w.heap.size ≤ gb102)); have n3_ := Aside0.mk ((by rw [hg]; exact (below_size bel_) : w.heap.size ≤ gb102)); clear HB; have HB := n0_; have BK102 := n1_; have GW102 := n2_; have GE102 := n3_; clear n0_ n1_ n2_ n3_; clear hb hbox hg; have hcz17_0 : w16.cell? ⟨gb102, 0, none⟩ = some (.string (⟨#[]⟩ : ByteArray)) := (blk_cell BK102.out 0).trans rfl; have hcz17_1 : w16.cell? ⟨gb102, 1, none⟩ = some (.string (⟨#[]⟩ : ByteArray)) := (blk_cell BK102.out 1).trans rfl; have hfz17_0 := blk_frozen BK102.out 0; have hfz17_1 := blk_frozen BK102.out 1) | (go_at_call 34; (with_reducible refine (item_right.calls ((rd_T54 l0 x7_1).f0) ((rd_T54 l0 x7_1).f1) true _ A5.out).mono ?_); rintro e w' ⟨rfl, ⟨nd, rfl⟩⟩; (try first | exact ⟨rfl, _, World.drewN_drewN _ _ _⟩ | exact ⟨rfl, _, Eq.trans (World.drewN_drewN _ _ _) (congrArg (World.drewN _) (Nat.add_assoc _ _ _))⟩))); try go_wp2_with (first | ((with_reducible refine gate_dst (N := 4) rfl ?_); refine bx_ (N := 4) (cs := #[.string (⟨#[]⟩ : ByteArray), .string (⟨#[]⟩ : ByteArray)]) (t := 54) ?_; intro gb102 hg w16 hbox hb; have BK102 := Aside0.mk (hbox); have GW102 := ge_ hg; have GE102 := ge_ hg; replace HB := hb_ hb; clear hb hbox hg; obtain ⟨hcz17_0, hcz17_1⟩ := cl2_ BK102; obtain ⟨hfz17_0, hfz17_1⟩ := fz2_ BK102) | (go_at_call 34; (with_reducible refine (item_right.calls ((rd_T54 l0 x7_1).f0) ((rd_T54 l0 x7_1).f1) true _ A5.out).mono ?_); rintro e w' ⟨rfl, ⟨nd, rfl⟩⟩; (try first | exact ⟨rfl, _, World.drewN_drewN _ _ _⟩ | exact ⟨rfl, _, Eq.trans (World.drewN_drewN _ _ _) (congrArg (World.drewN _) (Nat.add_assoc _ _ _))⟩))))
              go_roundg k1
              case measure => have := HK1.out; omega
              case rel => exact ⟨(wrap64 (x7_1 + 1)), (by first | rfl | (simp; done) | (simp [*]; done)), H', ⟨by have := HK1.out; omega⟩, ⟨bel_⟩⟩
            replace c6 := Bool.eq_false_iff.mpr c6
            subst c6
            have H1 : (some 4) = some r := by rw [if_neg (show ¬ (false = true) by decide)] at H; exact H
            clear H
            have H := H1
            clear H1
            obtain rfl := Option.some.inj H
            have p101 : 0 ≤ (x7_1 : Int) := of_decide_eq_true (by first | (with_reducible assumption) | assumption)
            have q101 : x7_1 < (l0.length : Int) := of_decide_eq_true (by first | (with_reducible assumption) | assumption)
            obtain ⟨ad101, e101, hx101_0, hx101_1⟩ := at_T54 HR0.out x7_1 p101 q101
            cases e101
            replace hx101_0 := (HB.out.cell (World.block_lt_of_cell? w _ hx101_0)).trans hx101_0
            replace hx101_1 := (HB.out.cell (World.block_lt_of_cell? w _ hx101_1)).trans hx101_1
            replace p101 := eq_true p101
            replace q101 := eq_true q101
            go_wp2_with (first | ((with_reducible refine gate_dst (N := 4) rfl ?_); refine bx_ (N := 4) (cs := #[.string (⟨#[]⟩ : ByteArray), .string (⟨#[]⟩ : ByteArray)]) (t := 54) ?_; intro gb102 hg w18 hbox hb; have BK102 := Aside0.mk (hbox); have GW102 := ge_ hg; have GE102 := ge_ hg; replace HB := hb_ hb; clear hb hbox hg; obtain ⟨hcz19_0, hcz19_1⟩ := cl2_ BK102; obtain ⟨hfz19_0, hfz19_1⟩ := fz2_ BK102) | (go_at_call 34; (with_reducible refine (item_right.calls ((rd_T54 l0 x7_1).f0) ((rd_T54 l0 x7_1).f1) false _ A5.out).mono ?_); rintro e w' ⟨rfl, ⟨nd, rfl⟩⟩; (try first | exact ⟨rfl, _, World.drewN_drewN _ _ _⟩ | exact ⟨rfl, _, Eq.trans (World.drewN_drewN _ _ _) (congrArg (World.drewN _) (Nat.add_assoc _ _ _))⟩)))
            repeat (go_quiet (first | ((with_reducible refine gate_dst (N := 4) rfl ?_); refine bx_ (N := 4) (cs := #[.string (⟨#[]⟩ : ByteArray), .string (⟨#[]⟩ : ByteArray)]) (t := 54) ?_; intro gb102 hg w18 hbox hb; have n0_ := Aside0.mk (below_step bel_ hb); have n1_ := Aside0.mk (hbox); have n2_ := Aside0.mk ((by rw [hg]; exact (below_size bel_) : w.heap.size ≤ gb102)); have n3_ := Aside0.mk ((by rw [hg]; exact (below_size bel_) : w.heap.size ≤ gb102)); clear HB; have HB := n0_; have BK102 := n1_; have GW102 := n2_; have GE102 := n3_; clear n0_ n1_ n2_ n3_; clear hb hbox hg; have hcz19_0 : w18.cell? ⟨gb102, 0, none⟩ = some (.string (⟨#[]⟩ : ByteArray)) := (blk_cell BK102.out 0).trans rfl; have hcz19_1 : w18.cell? ⟨gb102, 1, none⟩ = some (.string (⟨#[]⟩ : ByteArray)) := (blk_cell BK102.out 1).trans rfl; have hfz19_0 := blk_frozen BK102.out 0; have hfz19_1 := blk_frozen BK102.out 1) | (go_at_call 34; (with_reducible refine (item_right.calls ((rd_T54 l0 x7_1).f0) ((rd_T54 l0 x7_1).f1) false _ A5.out).mono ?_); rintro e w' ⟨rfl, ⟨nd, rfl⟩⟩; (try first | exact ⟨rfl, _, World.drewN_drewN _ _ _⟩ | exact ⟨rfl, _, Eq.trans (World.drewN_drewN _ _ _) (congrArg (World.drewN _) (Nat.add_assoc _ _ _))⟩))); try go_wp2_with (first | ((with_reducible refine gate_dst (N := 4) rfl ?_); refine bx_ (N := 4) (cs := #[.string (⟨#[]⟩ : ByteArray), .string (⟨#[]⟩ : ByteArray)]) (t := 54) ?_; intro gb102 hg w18 hbox hb; have BK102 := Aside0.mk (hbox); have GW102 := ge_ hg; have GE102 := ge_ hg; replace HB := hb_ hb; clear hb hbox hg; obtain ⟨hcz19_0, hcz19_1⟩ := cl2_ BK102; obtain ⟨hfz19_0, hfz19_1⟩ := fz2_ BK102) | (go_at_call 34; (with_reducible refine (item_right.calls ((rd_T54 l0 x7_1).f0) ((rd_T54 l0 x7_1).f1) false _ A5.out).mono ?_); rintro e w' ⟨rfl, ⟨nd, rfl⟩⟩; (try first | exact ⟨rfl, _, World.drewN_drewN _ _ _⟩ | exact ⟨rfl, _, Eq.trans (World.drewN_drewN _ _ _) (congrArg (World.drewN _) (Nat.add_assoc _ _ _))⟩))))
            go_ret
            exact ⟨by first | rfl | (simp [errW_none, errW_some] <;> rfl) | (simp [*, errW_none, errW_some] <;> rfl), bel_⟩
          rw [if_neg c4] at H
          exact absurd H (by simp)
        rw [if_neg c3] at H
        exact absurd H (by simp)
      rw [if_neg c2] at H
      have c2b0 : decide (x7_1 < (l0.length : Int)) = false := decide_eq_false c2
      clear c2
      obtain rfl := Option.some.inj H
      go_wp2
      repeat (go_quiet (fail); try go_wp2)
      go_ret
      exact ⟨by first | rfl | (simp [errW_none, errW_some] <;> rfl) | (simp [*, errW_none, errW_some] <;> rfl), bel_⟩

end Go.Proofs.YtnngbhdofgodiaaGreatDoor.Z
end

section
-- Printed by a program of this session (mp.py) out of the translation.
namespace Go.Proofs.YtnngbhdofgodiaaGreatDoor.Z
open Go.RowKit Go.Proofs.YtnngbhdofgodiaaGreatDoorW.PrintWords Go.Proofs.YtnngbhdofgodiaaGreatDoorW.PrintLast Go.Proofs.YtnngbhdofgodiaaGreatDoorW.PrintMore
attribute [local go_sem] max2_int min2_int max_two min_two max_three min_three max_four min_four   -- for this text's walks alone
set_option linter.unusedVariables false
set_option linter.unusedSimpArgs false

/-! ### cmp_isNaN_string: function 52 -/
def cmp_isNaN_string.f (a0 : ByteArray) : Option (Bool) := some (a0.toList != a0.toList)
set_option maxHeartbeats 8000000 in
set_option maxRecDepth 100000 in
theorem cmp_isNaN_string.calls (a0 : ByteArray) (r : Bool) (w : World) (h : cmp_isNaN_string.f a0 = some r) :
    Calls Tryz.prog 52 #[.string a0] w fun e w' => e = .returned (.bool r) ∧ Drawn0 w w' := by
  have H : (some (a0.toList != a0.toList)) = some r := h
  clear h
  obtain rfl := Option.some.inj H
  go_enter Tryz.func52, Tryz.ntmps52
  go_wp2
  go_ret
  exact ⟨by first | rfl | (simp; done) | (simp [*]; done), by repeat (first | exact Drawn0.refl _ | apply Drawn0.step)⟩

end Go.Proofs.YtnngbhdofgodiaaGreatDoor.Z
end

section
-- Printed by a program of this session (mp.py) out of the translation.
namespace Go.Proofs.YtnngbhdofgodiaaGreatDoor.Z
open Go.RowKit Go.Proofs.YtnngbhdofgodiaaGreatDoorW.PrintWords Go.Proofs.YtnngbhdofgodiaaGreatDoorW.PrintLast Go.Proofs.YtnngbhdofgodiaaGreatDoorW.PrintMore
attribute [local go_sem] max2_int min2_int max_two min_two max_three min_three max_four min_four   -- for this text's walks alone
set_option linter.unusedVariables false
set_option linter.unusedSimpArgs false

/-! ### cmp_Compare_string: function 37 -/
def cmp_Compare_string.f (a0 : ByteArray) (a1 : ByteArray) : Option (Int) := (cmp_isNaN_string.f a0).bind fun t105 => ((cmp_isNaN_string.f a1).bind fun t106 => (if t105 = true then (if t106 = true then (some 0) else (some (-1))) else (if t106 = true then (some 1) else (if (Op.bytesLess a0.toList a1.toList) = true then (some (-1)) else (if (Op.bytesLess a1.toList a0.toList) = true then (some 1) else (some 0))))))
set_option maxHeartbeats 8000000 in
set_option maxRecDepth 100000 in
theorem cmp_Compare_string.calls (a0 : ByteArray) (a1 : ByteArray) (r : Int) (w : World) (h : cmp_Compare_string.f a0 a1 = some r) :
    Calls Tryz.prog 37 #[.string a0, .string a1] w fun e w' => e = .returned (.int .i64 r) ∧ Drawn0 w w' := by
  have H : ((cmp_isNaN_string.f a0).bind fun t105 => ((cmp_isNaN_string.f a1).bind fun t106 => (if t105 = true then (if t106 = true then (some 0) else (some (-1))) else (if t106 = true then (some 1) else (if (Op.bytesLess a0.toList a1.toList) = true then (some (-1)) else (if (Op.bytesLess a1.toList a0.toList) = true then (some 1) else (some 0))))))) = some r := h
  clear h
  replace H := Option.bind_eq_some_iff.mp H
  obtain ⟨t105, A30, H⟩ := H
  replace H : ((cmp_isNaN_string.f a1).bind fun t106 => (if t105 = true then (if t106 = true then (some 0) else (some (-1))) else (if t106 = true then (some 1) else (if (Op.bytesLess a0.toList a1.toList) = true then (some (-1)) else (if (Op.bytesLess a1.toList a0.toList) = true then (some 1) else (some 0)))))) = some r := H
  have A3 := Aside0.mk A30
  clear A30
  replace H := Option.bind_eq_some_iff.mp H
  obtain ⟨t106, A40, H⟩ := H
  replace H : (if t105 = true then (if t106 = true then (some 0) else (some (-1))) else (if t106 = true then (some 1) else (if (Op.bytesLess a0.toList a1.toList) = true then (some (-1)) else (if (Op.bytesLess a1.toList a0.toList) = true then (some 1) else (some 0))))) = some r := H
  have A4 := Aside0.mk A40
  clear A40
  by_cases c5 : t105 = true
  · subst c5
    have H1 : (if t106 = true then (some 0) else (some (-1))) = some r := by rw [if_pos rfl] at H; exact H
    clear H
    have H := H1
    clear H1
    by_cases c6 : t106 = true
    · subst c6
      have H1 : (some 0) = some r := by rw [if_pos rfl] at H; exact H
      clear H
      have H := H1
      clear H1
      obtain rfl := Option.some.inj H
      go_enter Tryz.func37, Tryz.ntmps37
      go_wp2_with (first | ((with_reducible refine gate_callee (f := 52) rfl ?_); refine gl_ (some 8) Tryz.func52 #[.string a0] ?_; (with_reducible refine (cmp_isNaN_string.calls a0 true _ A3.out).mono ?_); rintro e w' ⟨rfl, ⟨nd, rfl⟩⟩; refine ⟨_, rfl, ?_⟩) | ((with_reducible refine gate_callee (f := 52) rfl ?_); refine gl_ (some 10) Tryz.func52 #[.string a1] ?_; (with_reducible refine (cmp_isNaN_string.calls a1 true _ A4.out).mono ?_); rintro e w' ⟨rfl, ⟨nd, rfl⟩⟩; refine ⟨_, rfl, ?_⟩))
      go_ret
      exact ⟨by first | rfl | (simp; done) | (simp [*]; done), by repeat (first | exact Drawn0.refl _ | apply Drawn0.step)⟩
    replace c6 := Bool.eq_false_iff.mpr c6
    subst c6
    have H1 : (some (-1)) = some r := by rw [if_neg (show ¬ (false = true) by decide)] at H; exact H
    clear H
    have H := H1
    clear H1
    obtain rfl := Option.some.inj H
    go_enter Tryz.func37, Tryz.ntmps37
    go_wp2_with (first | ((with_reducible refine gate_callee (f := 52) rfl ?_); refine gl_ (some 8) Tryz.func52 #[.string a0] ?_; (with_reducible refine (cmp_isNaN_string.calls a0 true _ A3.out).mono ?_); rintro e w' ⟨rfl, ⟨nd, rfl⟩⟩; refine ⟨_, rfl, ?_⟩) | ((with_reducible refine gate_callee (f := 52) rfl ?_); refine gl_ (some 10) Tryz.func52 #[.string a1] ?_; (with_reducible refine (cmp_isNaN_string.calls a1 false _ A4.out).mono ?_); rintro e w' ⟨rfl, ⟨nd, rfl⟩⟩; refine ⟨_, rfl, ?_⟩))
    go_ret
    exact ⟨by first | rfl | (simp; done) | (simp [*]; done), by repeat (first | exact Drawn0.refl _ | apply Drawn0.step)⟩
  replace c5 := Bool.eq_false_iff.mpr c5
  subst c5
  have H1 : (if t106 = true then (some 1) else (if (Op.bytesLess a0.toList a1.toList) = true then (some (-1)) else (if (Op.bytesLess a1.toList a0.toList) = true then (some 1) else (some 0)))) = some r := by rw [if_neg (show ¬ (false = true) by decide)] at H; exact H
  clear H
  have H := H1
  clear H1
  by_cases c7 : t106 = true
  · subst c7
    have H1 : (some 1) = some r := by rw [if_pos rfl] at H; exact H
    clear H
    have H := H1
    clear H1
    obtain rfl := Option.some.inj H
    go_enter Tryz.func37, Tryz.ntmps37
    go_wp2_with (first | ((with_reducible refine gate_callee (f := 52) rfl ?_); refine gl_ (some 8) Tryz.func52 #[.string a0] ?_; (with_reducible refine (cmp_isNaN_string.calls a0 false _ A3.out).mono ?_); rintro e w' ⟨rfl, ⟨nd, rfl⟩⟩; refine ⟨_, rfl, ?_⟩) | ((with_reducible refine gate_callee (f := 52) rfl ?_); refine gl_ (some 10) Tryz.func52 #[.string a1] ?_; (with_reducible refine (cmp_isNaN_string.calls a1 true _ A4.out).mono ?_); rintro e w' ⟨rfl, ⟨nd, rfl⟩⟩; refine ⟨_, rfl, ?_⟩))
    go_ret
    exact ⟨by first | rfl | (simp; done) | (simp [*]; done), by repeat (first | exact Drawn0.refl _ | apply Drawn0.step)⟩
  replace c7 := Bool.eq_false_iff.mpr c7
  subst c7
  have H1 : (if (Op.bytesLess a0.toList a1.toList) = true then (some (-1)) else (if (Op.bytesLess a1.toList a0.toList) = true then (some 1) else (some 0))) = some r := by rw [if_neg (show ¬ (false = true) by decide)] at H; exact H
  clear H
  have H := H1
  clear H1
  by_cases c8 : (Op.bytesLess a0.toList a1.toList) = true
  · rw [if_pos c8] at H
    have c8b0 : (Op.bytesLess a0.toList a1.toList) = true := c8
    clear c8
    obtain rfl := Option.some.inj H
    go_enter Tryz.func37, Tryz.ntmps37
    go_wp2_with (first | ((with_reducible refine gate_callee (f := 52) rfl ?_); refine gl_ (some 8) Tryz.func52 #[.string a0] ?_; (with_reducible refine (cmp_isNaN_string.calls a0 false _ A3.out).mono ?_); rintro e w' ⟨rfl, ⟨nd, rfl⟩⟩; refine ⟨_, rfl, ?_⟩) | ((with_reducible refine gate_callee (f := 52) rfl ?_); refine gl_ (some 10) Tryz.func52 #[.string a1] ?_; (with_reducible refine (cmp_isNaN_string.calls a1 false _ A4.out).mono ?_); rintro e w' ⟨rfl, ⟨nd, rfl⟩⟩; refine ⟨_, rfl, ?_⟩))
    go_ret
    exact ⟨by first | rfl | (simp; done) | (simp [*]; done), by repeat (first | exact Drawn0.refl _ | apply Drawn0.step)⟩
  rw [if_neg c8] at H
  have c8b0 : (Op.bytesLess a0.toList a1.toList) = false := by simpa using c8
  clear c8
  by_cases c9 : (Op.bytesLess a1.toList a0.toList) = true
  · rw [if_pos c9] at H
    have c9b0 : (Op.bytesLess a1.toList a0.toList) = true := c9
    clear c9
    obtain rfl := Option.some.inj H
    go_enter Tryz.func37, Tryz.ntmps37
    go_wp2_with (first | ((with_reducible refine gate_callee (f := 52) rfl ?_); refine gl_ (some 8) Tryz.func52 #[.string a0] ?_; (with_reducible refine (cmp_isNaN_string.calls a0 false _ A3.out).mono ?_); rintro e w' ⟨rfl, ⟨nd, rfl⟩⟩; refine ⟨_, rfl, ?_⟩) | ((with_reducible refine gate_callee (f := 52) rfl ?_); refine gl_ (some 10) Tryz.func52 #[.string a1] ?_; (with_reducible refine (cmp_isNaN_string.calls a1 false _ A4.out).mono ?_); rintro e w' ⟨rfl, ⟨nd, rfl⟩⟩; refine ⟨_, rfl, ?_⟩))
    go_ret
    exact ⟨by first | rfl | (simp; done) | (simp [*]; done), by repeat (first | exact Drawn0.refl _ | apply Drawn0.step)⟩
  rw [if_neg c9] at H
  have c9b0 : (Op.bytesLess a1.toList a0.toList) = false := by simpa using c9
  clear c9
  obtain rfl := Option.some.inj H
  go_enter Tryz.func37, Tryz.ntmps37
  go_wp2_with (first | ((with_reducible refine gate_callee (f := 52) rfl ?_); refine gl_ (some 8) Tryz.func52 #[.string a0] ?_; (with_reducible refine (cmp_isNaN_string.calls a0 false _ A3.out).mono ?_); rintro e w' ⟨rfl, ⟨nd, rfl⟩⟩; refine ⟨_, rfl, ?_⟩) | ((with_reducible refine gate_callee (f := 52) rfl ?_); refine gl_ (some 10) Tryz.func52 #[.string a1] ?_; (with_reducible refine (cmp_isNaN_string.calls a1 false _ A4.out).mono ?_); rintro e w' ⟨rfl, ⟨nd, rfl⟩⟩; refine ⟨_, rfl, ?_⟩))
  go_ret
  exact ⟨by first | rfl | (simp; done) | (simp [*]; done), by repeat (first | exact Drawn0.refl _ | apply Drawn0.step)⟩

end Go.Proofs.YtnngbhdofgodiaaGreatDoor.Z
end

section
-- Printed by a program of this session (mp.py) out of the translation.
namespace Go.Proofs.YtnngbhdofgodiaaGreatDoor.Z
open Go.RowKit Go.Proofs.YtnngbhdofgodiaaGreatDoorW.PrintWords Go.Proofs.YtnngbhdofgodiaaGreatDoorW.PrintLast Go.Proofs.YtnngbhdofgodiaaGreatDoorW.PrintMore
attribute [local go_sem] max2_int min2_int max_two min_two max_three min_three max_four min_four   -- for this text's walks alone
set_option linter.unusedVariables false
set_option linter.unusedSimpArgs false

/-! ### item_place_1: function 36 -/
def item_place_1.f (a0_0 : ByteArray) (a0_1 : ByteArray) (a1 : ByteArray) : Option (Int) := (cmp_Compare_string.f a0_0 a1).bind fun t108 => (some t108)
set_option maxHeartbeats 8000000 in
set_option maxRecDepth 100000 in
theorem item_place_1.calls (a0_0 : ByteArray) (a0_1 : ByteArray) (a1 : ByteArray) (r : Int) (w : World) (h : item_place_1.f a0_0 a0_1 a1 = some r) :
    Calls Tryz.prog 36 #[.agg #[.string a0_0, .string a0_1], .string a1] w fun e w' => e = .returned (.int .i64 r) ∧ Below w.heap.size w w' := by
  have hu54 := Tryz.underlying54
  have HB := Aside0.mk (Below.refl w.heap.size w)
  have H : ((cmp_Compare_string.f a0_0 a1).bind fun t108 => (some t108)) = some r := h
  clear h
  replace H := Option.bind_eq_some_iff.mp H
  obtain ⟨t108, A30, H⟩ := H
  replace H : (some t108) = some r := H
  have A3 := Aside0.mk A30
  clear A30
  obtain rfl := Option.some.inj H
  go_enter Tryz.func36, Tryz.ntmps36
  go_wp2_with (first | ((with_reducible refine gate_dst (N := 2) rfl ?_); refine bx_ (N := 2) (cs := #[.string a0_0, .string a0_1]) (t := 54) ?_; intro gb107 hg w4 hbox hb; have BK107 := Aside0.mk (hbox); have GW107 := ge_ hg; have GE107 := ge_ hg; replace HB := hb_ hb; clear hb hbox hg; obtain ⟨hcz5_0, hcz5_1⟩ := cl2_ BK107; obtain ⟨hfz5_0, hfz5_1⟩ := fz2_ BK107) | ((with_reducible refine gate_callee (f := 37) rfl ?_); refine gl_ (some 8) Tryz.func37 #[.string a0_0, .string a1] ?_; (with_reducible refine (cmp_Compare_string.calls a0_0 a1 t108 _ A3.out).mono ?_); rintro e w' ⟨rfl, ⟨nd, rfl⟩⟩; refine ⟨_, rfl, ?_⟩))
  go_ret
  exact ⟨by first | rfl | (simp [errW_none, errW_some] <;> rfl) | (simp [*, errW_none, errW_some] <;> rfl), bel_⟩

end Go.Proofs.YtnngbhdofgodiaaGreatDoor.Z
end

section
-- Printed by a program of this session (mp.py) out of the translation.
namespace Go.Proofs.YtnngbhdofgodiaaGreatDoor.Z
open Go.RowKit Go.Proofs.YtnngbhdofgodiaaGreatDoorW.PrintWords Go.Proofs.YtnngbhdofgodiaaGreatDoorW.PrintLast Go.Proofs.YtnngbhdofgodiaaGreatDoorW.PrintMore
attribute [local go_sem] max2_int min2_int max_two min_two max_three min_three max_four min_four   -- for this text's walks alone
set_option linter.unusedVariables false
set_option linter.unusedSimpArgs false

/-! ### slices_BinarySearchFunc_api_Item_api_Item_string_fn36: function 35 -/
def slices_BinarySearchFunc_api_Item_api_Item_string_fn36.l0 : Nat → List (S54) → ByteArray → Int → Int → Int → Option (Int × Bool)
  | 0, _, _, _, _, _ => none
  | k + 1, x0, x1, x8, x9, x10 => if x9 < x10 then (if 0 ≤ (wrap64 ((IntKind.u64.wrap (wrap64 (x9 + x10))) / 2)) then (if (wrap64 ((IntKind.u64.wrap (wrap64 (x9 + x10))) / 2)) < (x0.length : Int) then ((item_place_1.f ((rd_T54 x0 (wrap64 ((IntKind.u64.wrap (wrap64 (x9 + x10))) / 2))).f0) ((rd_T54 x0 (wrap64 ((IntKind.u64.wrap (wrap64 (x9 + x10))) / 2))).f1) x1).bind fun t110 => (if t110 < 0 then (slices_BinarySearchFunc_api_Item_api_Item_string_fn36.l0 k x0 x1 x8 (wrap64 ((wrap64 ((IntKind.u64.wrap (wrap64 (x9 + x10))) / 2)) + 1)) x10) else (slices_BinarySearchFunc_api_Item_api_Item_string_fn36.l0 k x0 x1 x8 x9 (wrap64 ((IntKind.u64.wrap (wrap64 (x9 + x10))) / 2))))) else (none)) else (none)) else (if x9 < x8 then (if 0 ≤ x9 then (if x9 < (x0.length : Int) then ((item_place_1.f ((rd_T54 x0 x9).f0) ((rd_T54 x0 x9).f1) x1).bind fun t112 => (some (x9, (t112 == 0)))) else (none)) else (none)) else (some (x9, false)))
def slices_BinarySearchFunc_api_Item_api_Item_string_fn36.f (k : Nat) (l0 : List (S54)) (a1 : ByteArray)  : Option (Int × Bool) := slices_BinarySearchFunc_api_Item_api_Item_string_fn36.l0 k l0 a1 (l0.length : Int) 0 (l0.length : Int)
theorem slices_BinarySearchFunc_api_Item_api_Item_string_fn36.mono_l : ∀ k, (∀ y0 y1 y2 y3 y4, LeO (slices_BinarySearchFunc_api_Item_api_Item_string_fn36.l0 k y0 y1 y2 y3 y4) (slices_BinarySearchFunc_api_Item_api_Item_string_fn36.l0 (k + 1) y0 y1 y2 y3 y4))
  | 0 => fun _ _ _ _ _ r h => by simp [slices_BinarySearchFunc_api_Item_api_Item_string_fn36.l0] at h
  | k + 1 => by
    have ih0 := slices_BinarySearchFunc_api_Item_api_Item_string_fn36.mono_l k
    · intro y0 y1 y2 y3 y4
      unfold slices_BinarySearchFunc_api_Item_api_Item_string_fn36.l0
      repeat' first
      | (with_reducible exact ih0 _ _ _ _ _)
      | (with_reducible exact LeO.refl _)
      | (with_reducible exact LeO.none _)
      | (with_reducible refine LeO.ite ?_ ?_)
      | (with_reducible refine LeO.bind ?_ (fun _ => ?_))
      | exact ih0 _ _ _ _ _
      | exact LeO.none _
      | refine LeO.ite ?_ ?_
      | refine LeO.bind ?_ (fun _ => ?_)
theorem slices_BinarySearchFunc_api_Item_api_Item_string_fn36.mono : ∀ a0 a1 k, LeO (slices_BinarySearchFunc_api_Item_api_Item_string_fn36.f k a0 a1) (slices_BinarySearchFunc_api_Item_api_Item_string_fn36.f (k + 1) a0 a1) := by
  intro a0 a1 k
  have ih0 := slices_BinarySearchFunc_api_Item_api_Item_string_fn36.mono_l k
  unfold slices_BinarySearchFunc_api_Item_api_Item_string_fn36.f
  repeat' first
      | (with_reducible exact ih0 _ _ _ _ _)
      | (with_reducible exact LeO.refl _)
      | (with_reducible exact LeO.none _)
      | (with_reducible refine LeO.ite ?_ ?_)
      | (with_reducible refine LeO.bind ?_ (fun _ => ?_))
      | exact ih0 _ _ _ _ _
      | exact LeO.none _
      | refine LeO.ite ?_ ?_
      | refine LeO.bind ?_ (fun _ => ?_)
set_option maxHeartbeats 8000000 in
set_option maxRecDepth 100000 in
theorem slices_BinarySearchFunc_api_Item_api_Item_string_fn36.calls (k : Nat) (A0 : Option Addr) (c0 : Nat) (l0 : List (S54)) (a1 : ByteArray)  (r1 : Int) (r2 : Bool) (w : World) (hr0 : Kd.C k54 w A0 l0.length l0) (hc0 : l0.length ≤ c0) (h : slices_BinarySearchFunc_api_Item_api_Item_string_fn36.f k l0 a1 = some (r1, r2)) :
    Calls Tryz.prog 35 #[.slice A0 l0.length c0, .string a1, .func (.func 36) #[] #[]] w fun e w' => e = .returned (.tuple #[.int .i64 r1, .bool r2]) ∧ Below w.heap.size w w' := by
  have hu54 := Tryz.underlying54
  have HR0 := Aside0.mk hr0
  have HC0 := Aside0.mk hc0
  clear hr0 hc0
  have HB := Aside0.mk (Below.refl w.heap.size w)
  have H : (slices_BinarySearchFunc_api_Item_api_Item_string_fn36.l0 k l0 a1 (l0.length : Int) 0 (l0.length : Int)) = some (r1, r2) := h
  clear h
  have H' := Aside0.mk H
  clear H
  go_enter Tryz.func35, Tryz.ntmps35
  go_wp2
  go_loopg [9, 10] k (fun kq v9 v10 w' => ∃ (x9_1 : Int) (x10_1 : Int), v9 = .int .i64 x9_1 ∧ v10 = .int .i64 x10_1 ∧ Aside0 (slices_BinarySearchFunc_api_Item_api_Item_string_fn36.l0 kq l0 a1 (l0.length : Int) x9_1 x10_1 = some (r1, r2)) ∧ Aside0 (kq ≤ k) ∧ Aside0 (Below w.heap.size w w'))
  case atStart => exact ⟨(0), ((l0.length : Int)), (by first | rfl | (simp; done) | (simp [*]; done)), (by first | rfl | (simp; done) | (simp [*]; done)), H', ⟨Nat.le_refl _⟩, ⟨bel_⟩⟩
  case round =>
    clear H'
    try clear p2
    obtain ⟨x9_1, x10_1, rfl, rfl, HA, HK1, HB⟩ := hrel
    cases gk with
    | zero => exact absurd HA.out (by simp [slices_BinarySearchFunc_api_Item_api_Item_string_fn36.l0])
    | succ k1 =>
      have H := HA.out
      clear HA
      simp only [slices_BinarySearchFunc_api_Item_api_Item_string_fn36.l0] at H
      by_cases c4 : x9_1 < x10_1
      · rw [if_pos c4] at H
        have c4b0 : decide (x9_1 < x10_1) = true := decide_eq_true c4
        clear c4
        obtain ⟨ji5, hji5⟩ : ∃ j_ : Int, (wrap64 ((IntKind.u64.wrap (wrap64 (x9_1 + x10_1))) / 2)) = j_ := ⟨_, rfl⟩
        replace H : (if 0 ≤ (ji5) then (if (ji5) < (l0.length : Int) then ((item_place_1.f ((rd_T54 l0 (ji5)).f0) ((rd_T54 l0 (ji5)).f1) a1).bind fun t110 => (if t110 < 0 then (slices_BinarySearchFunc_api_Item_api_Item_string_fn36.l0 k1 l0 a1 (l0.length : Int) (wrap64 ((ji5) + 1)) x10_1) else (slices_BinarySearchFunc_api_Item_api_Item_string_fn36.l0 k1 l0 a1 (l0.length : Int) x9_1 ji5))) else (none)) else (none)) = some (r1, r2) := by first | (rw [hji5] at H; exact H) | (simp only [hji5] at H ⊢; exact H)
        have hji5w : (IntKind.i64.wrap ((IntKind.u64.wrap (wrap64 (x9_1 + x10_1))) / 2)) = ji5 := (i64_w _).trans hji5
        by_cases c6 : 0 ≤ (ji5)
        · rw [if_pos c6] at H
          have c6b0 : decide (0 ≤ (ji5)) = true := decide_eq_true c6
          clear c6
          by_cases c7 : (ji5) < (l0.length : Int)
          · rw [if_pos c7] at H
            have c7b0 : decide ((ji5) < (l0.length : Int)) = true := decide_eq_true c7
            clear c7
            replace H := Option.bind_eq_some_iff.mp H
            obtain ⟨t110, A80, H⟩ := H
            replace H : (if t110 < 0 then (slices_BinarySearchFunc_api_Item_api_Item_string_fn36.l0 k1 l0 a1 (l0.length : Int) (wrap64 ((ji5) + 1)) x10_1) else (slices_BinarySearchFunc_api_Item_api_Item_string_fn36.l0 k1 l0 a1 (l0.length : Int) x9_1 ji5)) = some (r1, r2) := H
            have A8 := Aside0.mk A80
            clear A80
            by_cases c9 : t110 < 0
            · rw [if_pos c9] at H
              have c9b0 : decide (t110 < 0) = true := decide_eq_true c9
              clear c9
              have H' := Aside0.mk H
              clear H
              have p109 : 0 ≤ ((ji5) : Int) := of_decide_eq_true (by first | (with_reducible assumption) | assumption)
              have q109 : (ji5) < (l0.length : Int) := of_decide_eq_true (by first | (with_reducible assumption) | assumption)
              obtain ⟨ad109, e109, hx109_0, hx109_1⟩ := at_T54 HR0.out (ji5) p109 q109
              cases e109
              replace hx109_0 := (HB.out.cell (World.block_lt_of_cell? w _ hx109_0)).trans hx109_0
              replace hx109_1 := (HB.out.cell (World.block_lt_of_cell? w _ hx109_1)).trans hx109_1
              replace p109 := eq_true p109
              replace q109 := eq_true q109
              go_wp2_with (first | ((with_reducible refine gate_dyn rfl ?_); refine goesD_ (some 30) rfl rfl Tryz.func36 (by kernel_rfl) rfl #[.agg #[.string ((rd_T54 l0 (ji5)).f0), .string ((rd_T54 l0 (ji5)).f1)], .string a1] rfl rfl (by (try simp only [List.map_toArray, List.map_cons, List.map_nil]); first | done | (simp only [hji5]; rfl) | rfl | (simp only [List.length_drop, List.length_take]; rfl)) ?_; (with_reducible refine (item_place_1.calls ((rd_T54 l0 (ji5)).f0) ((rd_T54 l0 (ji5)).f1) a1 t110 _ A8.out).mono ?_); rintro e w10 ⟨rfl, hb⟩; refine ⟨_, rfl, ?_⟩; replace HB := hb_ hb; (try clear hb); (try clear hb2); (try clear hk); (try clear hi)))
              go_roundg k1
              case measure => have := HK1.out; omega
              case rel => exact ⟨(wrap64 ((ji5) + 1)), (x10_1), (by first | rfl | (simp; done) | (simp only [← hji5] <;> (first | rfl | simp)) | (simp [*]; done)), (by first | rfl | (simp; done) | (simp [*]; done)), H', ⟨by have := HK1.out; omega⟩, ⟨bel_⟩⟩
            rw [if_neg c9] at H
            have c9b0 : decide (t110 < 0) = false := decide_eq_false c9
            clear c9
            have H' := Aside0.mk H
            clear H
            have p109 : 0 ≤ ((ji5) : Int) := of_decide_eq_true (by first | (with_reducible assumption) | assumption)
            have q109 : (ji5) < (l0.length : Int) := of_decide_eq_true (by first | (with_reducible assumption) | assumption)
            obtain ⟨ad109, e109, hx109_0, hx109_1⟩ := at_T54 HR0.out (ji5) p109 q109
            cases e109
            replace hx109_0 := (HB.out.cell (World.block_lt_of_cell? w _ hx109_0)).trans hx109_0
            replace hx109_1 := (HB.out.cell (World.block_lt_of_cell? w _ hx109_1)).trans hx109_1
            replace p109 := eq_true p109
            replace q109 := eq_true q109
            go_wp2_with (first | ((with_reducible refine gate_dyn rfl ?_); refine goesD_ (some 30) rfl rfl Tryz.func36 (by kernel_rfl) rfl #[.agg #[.string ((rd_T54 l0 (ji5)).f0), .string ((rd_T54 l0 (ji5)).f1)], .string a1] rfl rfl (by (try simp only [List.map_toArray, List.map_cons, List.map_nil]); first | done | (simp only [hji5]; rfl) | rfl | (simp only [List.length_drop, List.length_take]; rfl)) ?_; (with_reducible refine (item_place_1.calls ((rd_T54 l0 (ji5)).f0) ((rd_T54 l0 (ji5)).f1) a1 t110 _ A8.out).mono ?_); rintro e w11 ⟨rfl, hb⟩; refine ⟨_, rfl, ?_⟩; replace HB := hb_ hb; (try clear hb); (try clear hb2); (try clear hk); (try clear hi)))
            go_roundg k1
            case measure => have := HK1.out; omega
            case rel => exact ⟨(x9_1), (ji5), (by first | rfl | (simp; done) | (simp [*]; done)), (by first | rfl | (simp; done) | (simp only [← hji5] <;> (first | rfl | simp)) | (simp [*]; done)), H', ⟨by have := HK1.out; omega⟩, ⟨bel_⟩⟩
          rw [if_neg c7] at H
          exact absurd H (by simp)
        rw [if_neg c6] at H
        exact absurd H (by simp)
      rw [if_neg c4] at H
      have c4b0 : decide (x9_1 < x10_1) = false := decide_eq_false c4
      clear c4
      by_cases c12 : x9_1 < (l0.length : Int)
      · rw [if_pos c12] at H
        have c12b0 : decide (x9_1 < (l0.length : Int)) = true := decide_eq_true c12
        clear c12
        by_cases c13 : 0 ≤ x9_1
        · rw [if_pos c13] at H
          have c13b0 : decide (0 ≤ x9_1) = true := decide_eq_true c13
          clear c13
          by_cases c14 : x9_1 < (l0.length : Int)
          · rw [if_pos c14] at H
            have c14b0 : decide (x9_1 < (l0.length : Int)) = true := decide_eq_true c14
            clear c14
            replace H := Option.bind_eq_some_iff.mp H
            obtain ⟨t112, A150, H⟩ := H
            replace H : (some (x9_1, (t112 == 0))) = some (r1, r2) := H
            have A15 := Aside0.mk A150
            clear A150
            simp only [Option.some.injEq, Prod.mk.injEq] at H
            obtain ⟨rfl, rfl⟩ := H
            have p111 : 0 ≤ (x9_1 : Int) := of_decide_eq_true (by first | (with_reducible assumption) | assumption)
            have q111 : x9_1 < (l0.length : Int) := of_decide_eq_true (by first | (with_reducible assumption) | assumption)
            obtain ⟨ad111, e111, hx111_0, hx111_1⟩ := at_T54 HR0.out x9_1 p111 q111
            cases e111
            replace hx111_0 := (HB.out.cell (World.block_lt_of_cell? w _ hx111_0)).trans hx111_0
            replace hx111_1 := (HB.out.cell (World.block_lt_of_cell? w _ hx111_1)).trans hx111_1
            replace p111 := eq_true p111
            replace q111 := eq_true q111
            go_wp2_with (first | (go_at_call 36; (with_reducible refine (item_place_1.calls ((rd_T54 l0 x9_1).f0) ((rd_T54 l0 x9_1).f1) a1 t112 _ A15.out).mono ?_); rintro e w16 ⟨rfl, hb⟩; replace HB := hb_ hb; (try clear hb); (try clear hb2); (try clear hk); (try clear hi)))
            go_ret2
            exact ⟨by first | rfl | (simp [errW_none, errW_some] <;> rfl) | (simp [*, errW_none, errW_some] <;> rfl), bel_⟩
          rw [if_neg c14] at H
          exact absurd H (by simp)
        rw [if_neg c13] at H
        exact absurd H (by simp)
      rw [if_neg c12] at H
      have c12b0 : decide (x9_1 < (l0.length : Int)) = false := decide_eq_false c12
      clear c12
      simp only [Option.some.injEq, Prod.mk.injEq] at H
      obtain ⟨rfl, rfl⟩ := H
      go_wp2
      go_ret2
      exact ⟨by first | rfl | (simp [errW_none, errW_some] <;> rfl) | (simp [*, errW_none, errW_some] <;> rfl), bel_⟩

end Go.Proofs.YtnngbhdofgodiaaGreatDoor.Z
end

section
-- Printed by a program of this session (mp.py) out of the translation.
namespace Go.Proofs.YtnngbhdofgodiaaGreatDoor.Z
open Go.RowKit Go.Proofs.YtnngbhdofgodiaaGreatDoorW.PrintWords Go.Proofs.YtnngbhdofgodiaaGreatDoorW.PrintLast Go.Proofs.YtnngbhdofgodiaaGreatDoorW.PrintMore
attribute [local go_sem] max2_int min2_int max_two min_two max_three min_three max_four min_four   -- for this text's walks alone
set_option linter.unusedVariables false
set_option linter.unusedSimpArgs false

/-! ### item_place: function 21 -/
def item_place.f (k : Nat) (l0 : List (S54)) (a1 : ByteArray) : Option (Int × Bool) := (slices_BinarySearchFunc_api_Item_api_Item_string_fn36.f k l0 a1).bind fun bt113 => (some (bt113.1, bt113.2))
theorem item_place.mono : ∀ a0 a1 k, LeO (item_place.f k a0 a1) (item_place.f (k + 1) a0 a1) := by
  intro a0 a1 k
  unfold item_place.f
  repeat' first
      | (with_reducible exact slices_BinarySearchFunc_api_Item_api_Item_string_fn36.mono _ _ _)
      | (with_reducible exact LeO.refl _)
      | (with_reducible exact LeO.none _)
      | (with_reducible refine LeO.ite ?_ ?_)
      | (with_reducible refine LeO.bind ?_ (fun _ => ?_))
      | exact slices_BinarySearchFunc_api_Item_api_Item_string_fn36.mono _ _ _
      | exact LeO.none _
      | refine LeO.ite ?_ ?_
      | refine LeO.bind ?_ (fun _ => ?_)
set_option maxHeartbeats 8000000 in
set_option maxRecDepth 100000 in
theorem item_place.calls (k : Nat) (A0 : Option Addr) (c0 : Nat) (l0 : List (S54)) (a1 : ByteArray) (r1 : Int) (r2 : Bool) (w : World) (hr0 : Kd.C k54 w A0 l0.length l0) (hc0 : l0.length ≤ c0) (h : item_place.f k l0 a1 = some (r1, r2)) :
    Calls Tryz.prog 21 #[.slice A0 l0.length c0, .string a1] w fun e w' => e = .returned (.tuple #[.int .i64 r1, .bool r2]) ∧ Below w.heap.size w w' := by
  have HR0 := Aside0.mk hr0
  have HC0 := Aside0.mk hc0
  clear hr0 hc0
  have HB := Aside0.mk (Below.refl w.heap.size w)
  have H : ((slices_BinarySearchFunc_api_Item_api_Item_string_fn36.f k l0 a1).bind fun bt113 => (some (bt113.1, bt113.2))) = some (r1, r2) := h
  clear h
  replace H := Option.bind_eq_some_iff.mp H
  obtain ⟨⟨t113, t114⟩, A30, H⟩ := H
  replace H : (some (t113, t114)) = some (r1, r2) := H
  have A3 := Aside0.mk A30
  clear A30
  simp only [Option.some.injEq, Prod.mk.injEq] at H
  obtain ⟨rfl, rfl⟩ := H
  go_enter Tryz.func21, Tryz.ntmps21
  go_wp2_with (first | ((with_reducible refine gate_callee (f := 35) rfl ?_); refine gl_ (some 8) Tryz.func35 #[.slice A0 l0.length c0, .string a1, .func (.func 36) #[] #[]] ?_; (with_reducible refine (slices_BinarySearchFunc_api_Item_api_Item_string_fn36.calls k _ _ l0 a1 t113 t114 _ ?side1 ?side2 A3.out).mono ?_); (case side1 => repeat (first | exact HR0.out | (with_reducible refine Kd.C_alloc ?_ _) | (with_reducible refine Kd.C_drewN ?_ _) | (with_reducible refine Kd.C_drew ?_))); (case side2 => exact HC0.out); rintro e w4 ⟨rfl, hb⟩; refine ⟨_, rfl, ?_⟩; replace HB := hb_ hb; (try clear hb); (try clear hb2); (try clear hk); (try clear hi)))
  go_ret2
  exact ⟨by first | rfl | (simp [errW_none, errW_some] <;> rfl) | (simp [*, errW_none, errW_some] <;> rfl), bel_⟩

end Go.Proofs.YtnngbhdofgodiaaGreatDoor.Z
end

section
-- Printed by a program of this session (mp.py) out of the translation.
namespace Go.Proofs.YtnngbhdofgodiaaGreatDoor.Z
open Go.RowKit Go.Proofs.YtnngbhdofgodiaaGreatDoorW.PrintWords Go.Proofs.YtnngbhdofgodiaaGreatDoorW.PrintLast Go.Proofs.YtnngbhdofgodiaaGreatDoorW.PrintMore
attribute [local go_sem] max2_int min2_int max_two min_two max_three min_three max_four min_four   -- for this text's walks alone
set_option linter.unusedVariables false
set_option linter.unusedSimpArgs false

/-! ### stringslite_HasPrefix: function 59 -/
def stringslite_HasPrefix.f (a0 : ByteArray) (a1 : ByteArray) : Option (Bool) := if (a0.size : Int) ≥ (a1.size : Int) then (if 0 ≤ (a1.size : Int) then (if (a1.size : Int) ≤ (a0.size : Int) then (some ((a0.extract 0 ((a1.size : Int) : Int).toNat).toList == a1.toList)) else (none)) else (none)) else (some false)
set_option maxHeartbeats 8000000 in
set_option maxRecDepth 100000 in
theorem stringslite_HasPrefix.calls (a0 : ByteArray) (a1 : ByteArray) (r : Bool) (w : World) (h : stringslite_HasPrefix.f a0 a1 = some r) :
    Calls Tryz.prog 59 #[.string a0, .string a1] w fun e w' => e = .returned (.bool r) ∧ Drawn0 w w' := by
  have H : (if (a0.size : Int) ≥ (a1.size : Int) then (if 0 ≤ (a1.size : Int) then (if (a1.size : Int) ≤ (a0.size : Int) then (some ((a0.extract 0 ((a1.size : Int) : Int).toNat).toList == a1.toList)) else (none)) else (none)) else (some false)) = some r := h
  clear h
  by_cases c3 : (a0.size : Int) ≥ (a1.size : Int)
  · rw [if_pos c3] at H
    have c3b0 : decide ((a1.size : Int) ≤ (a0.size : Int)) = true := decide_eq_true c3
    have c3b1 : decide (a1.size ≤ a0.size) = true := decide_eq_true (Int.ofNat_le.mp c3)
    clear c3
    by_cases c4 : 0 ≤ (a1.size : Int)
    · rw [if_pos c4] at H
      have c4b0 := eq_true c4
      have c4b1 : decide (0 ≤ (a1.size : Int)) = true := decide_eq_true c4
      clear c4
      by_cases c5 : (a1.size : Int) ≤ (a0.size : Int)
      · rw [if_pos c5] at H
        have c5b0 := eq_true c5
        have c5b1 : decide ((a1.size : Int) ≤ (a0.size : Int)) = true := decide_eq_true c5
        clear c5
        obtain rfl := Option.some.inj H
        go_enter Tryz.func59, Tryz.ntmps59
        go_wp2
        go_ret
        exact ⟨by first | rfl | (simp; done) | (simp [*]; done), by repeat (first | exact Drawn0.refl _ | apply Drawn0.step)⟩
      rw [if_neg c5] at H
      exact absurd H (by simp)
    rw [if_neg c4] at H
    exact absurd H (by simp)
  rw [if_neg c3] at H
  have c3b0 : decide ((a1.size : Int) ≤ (a0.size : Int)) = false := decide_eq_false c3
  have c3b1 : decide (a1.size ≤ a0.size) = false := decide_eq_false (fun h => c3 (Int.ofNat_le.mpr h))
  clear c3
  obtain rfl := Option.some.inj H
  go_enter Tryz.func59, Tryz.ntmps59
  go_wp2
  go_ret
  exact ⟨by first | rfl | (simp; done) | (simp [*]; done), by repeat (first | exact Drawn0.refl _ | apply Drawn0.step)⟩

end Go.Proofs.YtnngbhdofgodiaaGreatDoor.Z
end

section
-- Printed by a program of this session (mp.py) out of the translation.
namespace Go.Proofs.YtnngbhdofgodiaaGreatDoor.Z
open Go.RowKit Go.Proofs.YtnngbhdofgodiaaGreatDoorW.PrintWords Go.Proofs.YtnngbhdofgodiaaGreatDoorW.PrintLast Go.Proofs.YtnngbhdofgodiaaGreatDoorW.PrintMore
attribute [local go_sem] max2_int min2_int max_two min_two max_three min_three max_four min_four   -- for this text's walks alone
set_option linter.unusedVariables false
set_option linter.unusedSimpArgs false

/-! ### strings_HasPrefix: function 44 -/
def strings_HasPrefix.f (a0 : ByteArray) (a1 : ByteArray) : Option (Bool) := (stringslite_HasPrefix.f a0 a1).bind fun t115 => (some t115)
set_option maxHeartbeats 8000000 in
set_option maxRecDepth 100000 in
theorem strings_HasPrefix.calls (a0 : ByteArray) (a1 : ByteArray) (r : Bool) (w : World) (h : strings_HasPrefix.f a0 a1 = some r) :
    Calls Tryz.prog 44 #[.string a0, .string a1] w fun e w' => e = .returned (.bool r) ∧ Drawn0 w w' := by
  have H : ((stringslite_HasPrefix.f a0 a1).bind fun t115 => (some t115)) = some r := h
  clear h
  replace H := Option.bind_eq_some_iff.mp H
  obtain ⟨t115, A30, H⟩ := H
  replace H : (some t115) = some r := H
  have A3 := Aside0.mk A30
  clear A30
  obtain rfl := Option.some.inj H
  go_enter Tryz.func44, Tryz.ntmps44
  go_wp2_with (first | ((with_reducible refine gate_callee (f := 59) rfl ?_); refine gl_ (some 7) Tryz.func59 #[.string a0, .string a1] ?_; (with_reducible refine (stringslite_HasPrefix.calls a0 a1 t115 _ A3.out).mono ?_); rintro e w' ⟨rfl, ⟨nd, rfl⟩⟩; refine ⟨_, rfl, ?_⟩))
  go_ret
  exact ⟨by first | rfl | (simp; done) | (simp [*]; done), by repeat (first | exact Drawn0.refl _ | apply Drawn0.step)⟩

end Go.Proofs.YtnngbhdofgodiaaGreatDoor.Z
end

section
-- Printed by a program of this session (mp.py) out of the translation.
namespace Go.Proofs.YtnngbhdofgodiaaGreatDoor.Z
open Go.RowKit Go.Proofs.YtnngbhdofgodiaaGreatDoorW.PrintWords Go.Proofs.YtnngbhdofgodiaaGreatDoorW.PrintLast Go.Proofs.YtnngbhdofgodiaaGreatDoorW.PrintMore
attribute [local go_sem] max2_int min2_int max_two min_two max_three min_three max_four min_four   -- for this text's walks alone
set_option linter.unusedVariables false
set_option linter.unusedSimpArgs false

/-! ### item_Under: function 27 -/
def item_Under.l0 : Nat → List (S54) → ByteArray → Int → Int → Option ((List (S54)) × Int)
  | 0, _, _, _, _ => none
  | k + 1, x0, x1, x7, x9 => if x9 < (x0.length : Int) then (if 0 ≤ x9 then ((strings_HasPrefix.f ((rd_T54 x0 x9).f0) x1).bind fun t120 => (if t120 = true then (item_Under.l0 k x0 x1 x7 (wrap64 (x9 + 1))) else (if 0 ≤ x7 then (if x7 ≤ x9 then (if x9 ≤ (x0.length : Int) then ((slices_Clone_api_Item_api_Item.f ((x0.take (x9 : Int).toNat).drop (x7 : Int).toNat)).bind fun t125 => (some (t125, 0))) else (none)) else (none)) else (none)))) else (none)) else (if 0 ≤ x7 then (if x7 ≤ x9 then (if x9 ≤ (x0.length : Int) then ((slices_Clone_api_Item_api_Item.f ((x0.take (x9 : Int).toNat).drop (x7 : Int).toNat)).bind fun t132 => (some (t132, 0))) else (none)) else (none)) else (none))
def item_Under.f (k : Nat) (l0 : List (S54)) (a1 : ByteArray) : Option ((List (S54)) × Int) := (item_Check.f k l0).bind fun t116 => (if t116 = 0 then ((item_place.f k l0 a1).bind fun bt117 => (item_Under.l0 k l0 a1 bt117.1 bt117.1)) else (some (([] : List (S54)), t116)))
theorem item_Under.mono_l : ∀ k, (∀ y0 y1 y2 y3, LeO (item_Under.l0 k y0 y1 y2 y3) (item_Under.l0 (k + 1) y0 y1 y2 y3))
  | 0 => fun _ _ _ _ r h => by simp [item_Under.l0] at h
  | k + 1 => by
    have ih0 := item_Under.mono_l k
    · intro y0 y1 y2 y3
      unfold item_Under.l0
      repeat' first
      | (with_reducible exact ih0 _ _ _ _)
      | (with_reducible exact item_Check.mono _ _)
      | (with_reducible exact item_place.mono _ _ _)
      | (with_reducible exact LeO.refl _)
      | (with_reducible exact LeO.none _)
      | (with_reducible refine LeO.ite ?_ ?_)
      | (with_reducible refine LeO.bind ?_ (fun _ => ?_))
      | exact ih0 _ _ _ _
      | exact item_Check.mono _ _
      | exact item_place.mono _ _ _
      | exact LeO.none _
      | refine LeO.ite ?_ ?_
      | refine LeO.bind ?_ (fun _ => ?_)
theorem item_Under.mono : ∀ a0 a1 k, LeO (item_Under.f k a0 a1) (item_Under.f (k + 1) a0 a1) := by
  intro a0 a1 k
  have ih0 := item_Under.mono_l k
  unfold item_Under.f
  repeat' first
      | (with_reducible exact ih0 _ _ _ _)
      | (with_reducible exact item_Check.mono _ _)
      | (with_reducible exact item_place.mono _ _ _)
      | (with_reducible exact LeO.refl _)
      | (with_reducible exact LeO.none _)
      | (with_reducible refine LeO.ite ?_ ?_)
      | (with_reducible refine LeO.bind ?_ (fun _ => ?_))
      | exact ih0 _ _ _ _
      | exact item_Check.mono _ _
      | exact item_place.mono _ _ _
      | exact LeO.none _
      | refine LeO.ite ?_ ?_
      | refine LeO.bind ?_ (fun _ => ?_)
set_option maxHeartbeats 8000000 in
set_option maxRecDepth 100000 in
theorem item_Under.calls (k : Nat) (A0 : Option Addr) (c0 : Nat) (l0 : List (S54)) (a1 : ByteArray) (r1 : List (S54)) (r2 : Int) (w : World) (hr0 : Kd.C k54 w A0 l0.length l0) (hc0 : l0.length ≤ c0) (h : item_Under.f k l0 a1 = some (r1, r2)) :
    Calls Tryz.prog 27 #[.slice A0 l0.length c0, .string a1] w fun e w' => ∃ v0_ : Value, e = .returned (.tuple #[v0_, .int .i64 r2]) ∧ Kd.R k54 54 w' w.heap.size (fun _ => True) v0_ r1 ∧ Below w.heap.size w w' := by
  have HR0 := Aside0.mk hr0
  have HC0 := Aside0.mk hc0
  clear hr0 hc0
  have HB := Aside0.mk (Below.refl w.heap.size w)
  have H : ((item_Check.f k l0).bind fun t116 => (if t116 = 0 then ((item_place.f k l0 a1).bind fun bt117 => (item_Under.l0 k l0 a1 bt117.1 bt117.1)) else (some (([] : List (S54)), t116)))) = some (r1, r2) := h
  clear h
  replace H := Option.bind_eq_some_iff.mp H
  obtain ⟨t116, A30, H⟩ := H
  replace H : (if t116 = 0 then ((item_place.f k l0 a1).bind fun bt117 => (item_Under.l0 k l0 a1 bt117.1 bt117.1)) else (some (([] : List (S54)), t116))) = some (r1, r2) := H
  have A3 := Aside0.mk A30
  clear A30
  by_cases c4 : t116 = 0
  · rw [if_pos c4] at H
    have c4b0 : (t116 == 0) = true := beq_iff_eq.mpr c4
    have c4b1 : (t116 != 0) = false := bne_eq_false_iff_eq.mpr c4
    clear c4
    replace H := Option.bind_eq_some_iff.mp H
    obtain ⟨⟨t117, t118⟩, A50, H⟩ := H
    replace H : (item_Under.l0 k l0 a1 t117 t117) = some (r1, r2) := H
    have A5 := Aside0.mk A50
    clear A50
    have H' := Aside0.mk H
    clear H
    go_enter Tryz.func27, Tryz.ntmps27
    go_wp2_with (first | ((with_reducible refine gate_callee (f := 18) rfl ?_); refine gl_ (some 11) Tryz.func18 #[.slice A0 l0.length c0] ?_; (with_reducible refine (item_Check.calls k _ _ l0 t116 _ ?side1 ?side2 A3.out).mono ?_); (case side1 => repeat (first | exact HR0.out | (with_reducible refine Kd.C_alloc ?_ _) | (with_reducible refine Kd.C_drewN ?_ _) | (with_reducible refine Kd.C_drew ?_))); (case side2 => exact HC0.out); rintro e w6 ⟨rfl, hb⟩; refine ⟨_, rfl, ?_⟩; replace HB := hb_ hb; (try clear hb); (try clear hb2); (try clear hk); (try clear hi)) | ((with_reducible refine gate_callee (f := 21) rfl ?_); refine gl_ (some 18) Tryz.func21 #[.slice A0 l0.length c0, .string a1] ?_; (with_reducible refine (item_place.calls k _ _ l0 a1 t117 t118 _ ?side1 ?side2 A5.out).mono ?_); (case side1 => exact cb_ HR0); (case side2 => exact HC0.out); rintro e w7 ⟨rfl, hb⟩; refine ⟨_, rfl, ?_⟩; replace HB := hb_ hb; (try clear hb); (try clear hb2); (try clear hk); (try clear hi)))
    go_loopg [9] k (fun kq v9 w' => ∃ (x9_1 : Int), v9 = .int .i64 x9_1 ∧ Aside0 (item_Under.l0 kq l0 a1 t117 x9_1 = some (r1, r2)) ∧ Aside0 (kq ≤ k) ∧ Aside0 (Below w.heap.size w w'))
    case atStart => exact ⟨(t117), (by first | rfl | (simp; done) | (simp [*]; done)), H', ⟨Nat.le_refl _⟩, ⟨bel_⟩⟩
    case round =>
      clear H'
      try clear c1
      try clear c2
      try clear p2
      try clear c4
      try clear c4b0
      try clear c4b1
      obtain ⟨x9_1, rfl, HA, HK1, HB⟩ := hrel
      cases gk with
      | zero => exact absurd HA.out (by simp [item_Under.l0])
      | succ k1 =>
        have H := HA.out
        clear HA
        simp only [item_Under.l0] at H
        by_cases c8 : x9_1 < (l0.length : Int)
        · rw [if_pos c8] at H
          have c8b0 : decide (x9_1 < (l0.length : Int)) = true := decide_eq_true c8
          clear c8
          by_cases c9 : 0 ≤ x9_1
          · rw [if_pos c9] at H
            have c9b0 : decide (0 ≤ x9_1) = true := decide_eq_true c9
            clear c9
            replace H := Option.bind_eq_some_iff.mp H
            obtain ⟨t120, A100, H⟩ := H
            replace H : (if t120 = true then (item_Under.l0 k1 l0 a1 t117 (wrap64 (x9_1 + 1))) else (if 0 ≤ t117 then (if t117 ≤ x9_1 then (if x9_1 ≤ (l0.length : Int) then ((slices_Clone_api_Item_api_Item.f ((l0.take (x9_1 : Int).toNat).drop (t117 : Int).toNat)).bind fun t125 => (some (t125, 0))) else (none)) else (none)) else (none))) = some (r1, r2) := H
            have A10 := Aside0.mk A100
            clear A100
            by_cases c11 : t120 = true
            · subst c11
              have H1 : (item_Under.l0 k1 l0 a1 t117 (wrap64 (x9_1 + 1))) = some (r1, r2) := by rw [if_pos rfl] at H; exact H
              clear H
              have H := H1
              clear H1
              have H' := Aside0.mk H
              clear H
              have p119 : 0 ≤ (x9_1 : Int) := of_decide_eq_true (by first | (with_reducible assumption) | assumption)
              have q119 : x9_1 < (l0.length : Int) := of_decide_eq_true (by first | (with_reducible assumption) | assumption)
              obtain ⟨ad119, e119, hx119_0, hx119_1⟩ := at_T54 HR0.out x9_1 p119 q119
              cases e119
              replace hx119_0 := (HB.out.cell (World.block_lt_of_cell? w _ hx119_0)).trans hx119_0
              replace hx119_1 := (HB.out.cell (World.block_lt_of_cell? w _ hx119_1)).trans hx119_1
              replace p119 := eq_true p119
              replace q119 := eq_true q119
              go_wp2_with (first | (go_at_call 44; (with_reducible refine (strings_HasPrefix.calls ((rd_T54 l0 x9_1).f0) a1 true _ A10.out).mono ?_); rintro e w' ⟨rfl, ⟨nd, rfl⟩⟩))
              go_roundg k1
              case measure => have := HK1.out; omega
              case rel => exact ⟨(wrap64 (x9_1 + 1)), (by first | rfl | (simp; done) | (simp [*]; done)), H', ⟨by have := HK1.out; omega⟩, ⟨bel_⟩⟩
            replace c11 := Bool.eq_false_iff.mpr c11
            subst c11
            have H1 : (if 0 ≤ t117 then (if t117 ≤ x9_1 then (if x9_1 ≤ (l0.length : Int) then ((slices_Clone_api_Item_api_Item.f ((l0.take (x9_1 : Int).toNat).drop (t117 : Int).toNat)).bind fun t125 => (some (t125, 0))) else (none)) else (none)) else (none)) = some (r1, r2) := by rw [if_neg (show ¬ (false = true) by decide)] at H; exact H
            clear H
            have H := H1
            clear H1
            by_cases c12 : 0 ≤ t117
            · rw [if_pos c12] at H
              have c12b0 := eq_true c12
              have c12b1 : decide (0 ≤ t117) = true := decide_eq_true c12
              clear c12
              by_cases c13 : t117 ≤ x9_1
              · rw [if_pos c13] at H
                have c13b0 := eq_true c13
                have c13b1 : decide (t117 ≤ x9_1) = true := decide_eq_true c13
                clear c13
                by_cases c14 : x9_1 ≤ (l0.length : Int)
                · rw [if_pos c14] at H
                  have c14b0 := eq_true c14
                  have c14b1 : decide (x9_1 ≤ (l0.length : Int)) = true := decide_eq_true c14
                  clear c14
                  obtain ⟨y121, hy121⟩ : ∃ y_ : List (S54), y_ = ((l0.take (x9_1 : Int).toNat).drop (t117 : Int).toNat) := ⟨_, rfl⟩
                  replace H : ((slices_Clone_api_Item_api_Item.f y121).bind fun t125 => (some (t125, 0))) = some (r1, r2) := by first | (rw [hy121]; with_reducible exact H) | (have H2_ := (Option.bind_some _ _).symm.trans H; rw [hy121]; with_reducible exact H2_) | (have H2_ := (Option.bind_some _ _).symm.trans H; with_reducible exact H2_) | with_reducible exact H | (rw [hy121]; exact H) | exact H
                  have Ny121 := Aside0.mk hy121
                  clear hy121
                  replace H := Option.bind_eq_some_iff.mp H
                  obtain ⟨t125, A150, H⟩ := H
                  replace H : (some (t125, 0)) = some (r1, r2) := H
                  have A15 := Aside0.mk A150
                  clear A150
                  simp only [Option.some.injEq, Prod.mk.injEq] at H
                  obtain ⟨rfl, rfl⟩ := H
                  have p119 : 0 ≤ (x9_1 : Int) := of_decide_eq_true (by first | (with_reducible assumption) | assumption)
                  have q119 : x9_1 < (l0.length : Int) := of_decide_eq_true (by first | (with_reducible assumption) | assumption)
                  obtain ⟨ad119, e119, hx119_0, hx119_1⟩ := at_T54 HR0.out x9_1 p119 q119
                  cases e119
                  replace hx119_0 := (HB.out.cell (World.block_lt_of_cell? w _ hx119_0)).trans hx119_0
                  replace hx119_1 := (HB.out.cell (World.block_lt_of_cell? w _ hx119_1)).trans hx119_1
                  replace p119 := eq_true p119
                  replace q119 := eq_true q119
                  go_wp2_with (first | (go_at_call 44; (with_reducible refine (strings_HasPrefix.calls ((rd_T54 l0 x9_1).f0) a1 false _ A10.out).mono ?_); rintro e w' ⟨rfl, ⟨nd, rfl⟩⟩; have q16 : (x9_1 : Int) ≤ ((l0.length : Int) : Int) := of_decide_eq_true (by first | (with_reducible assumption) | assumption); obtain ⟨i016, hi016, _, hsz16, _⟩ := info_parts info54; have hroom16 : l0.length ≤ c0 := HC0.out; have hC16 : Kd.C k54 _ (some ad119) l0.length l0 := HR0.out; have ql16 : (t117 : Int) ≤ (x9_1 : Int) := of_decide_eq_true (by first | (with_reducible assumption) | assumption); have q016 : (0 : Int) ≤ (t117 : Int) := of_decide_eq_true (by first | (with_reducible assumption) | assumption); have hcut16 := cut_mid (P := Tryz.prog) 22 54 .i64 .i64 Tryz.underlying22 hi016 2 hsz16 (some ad119) l0.length c0 t117 x9_1 q016 ql16 q16 hroom16; have hr16 := Kd.C_mid (lo := (t117 : Int).toNat) (hi := (x9_1 : Int).toNat) (c := c0) hC16 (by omega) (by omega) hroom16; obtain ⟨A16, hA16⟩ : ∃ z_, z_ = (if c0 = (t117 : Int).toNat then (some ad119) else ((some ad119) : Option Addr).map (·.add ((t117 : Int).toNat * 2))) := ⟨_, rfl⟩; obtain ⟨c16, hc16⟩ : ∃ z_, z_ = c0 - (t117 : Int).toNat := ⟨_, rfl⟩; have hy16 : y121.length = (x9_1 : Int).toNat - (t117 : Int).toNat := (by rw [Ny121.out, List.length_drop, List.length_take] <;> omega); rw [show ((l0).take (x9_1 : Int).toNat).drop (t117 : Int).toNat = y121 from Ny121.out.symm] at hr16; replace hr16 : Kd.C k54 _ A16 y121.length y121 := (by rw [hA16]; exact hr16); rw [← hy16, ← hA16, ← hc16] at hcut16; have HR124 := Aside0.mk hr16; have HC124 := Aside0.mk (show y121.length ≤ c16 from by rw [hy16, hc16]; exact Nat.sub_le_sub_right (Nat.le_trans (by omega) hroom16) _); clear hr16 hC16 hroom16 hi016 hsz16 hc16; have KY16 := Aside0.mk hy16; have KA16 := Aside0.mk hA16; clear hy16 hA16; replace q16 := eq_true q16) | ((with_reducible refine gate_callee (f := 20) rfl ?_); refine gl_ (some 41) Tryz.func20 #[.slice A16 y121.length c16] ?_; (with_reducible refine (slices_Clone_api_Item_api_Item.calls _ _ y121 t125 _ ?side1 ?side2 A15.out).mono ?_); (case side1 => repeat (first | exact (Kd.C_below HR124.out bel_) | (with_reducible refine Kd.C_alloc ?_ _) | (with_reducible refine Kd.C_drewN ?_ _) | (with_reducible refine Kd.C_drew ?_))); (case side2 => exact HC124.out); rintro e w17 ⟨v126, rfl, ho0, hb⟩; refine ⟨_, rfl, ?_⟩; have HO127 := rl_ ho0; replace HB := hb_ hb; (try clear hb); (try clear hb2); (try clear hk); (try clear hi); (try clear ho0)))
                  go_ret2
                  exact ⟨_, by first | rfl | (simp [errW_none, errW_some] <;> rfl) | (simp [*, errW_none, errW_some] <;> rfl), by (with_reducible repeat (first | apply Kd.R_alloc | apply Kd.R_drewN | apply Kd.R_drew)); exact HO127.out, bel_⟩
                rw [if_neg c14] at H
                exact absurd H (by simp)
              rw [if_neg c13] at H
              exact absurd H (by simp)
            rw [if_neg c12] at H
            exact absurd H (by simp)
          rw [if_neg c9] at H
          exact absurd H (by simp)
        rw [if_neg c8] at H
        have c8b0 : decide (x9_1 < (l0.length : Int)) = false := decide_eq_false c8
        clear c8
        by_cases c18 : 0 ≤ t117
        · rw [if_pos c18] at H
          have c18b0 := eq_true c18
          have c18b1 : decide (0 ≤ t117) = true := decide_eq_true c18
          clear c18
          by_cases c19 : t117 ≤ x9_1
          · rw [if_pos c19] at H
            have c19b0 := eq_true c19
            have c19b1 : decide (t117 ≤ x9_1) = true := decide_eq_true c19
            clear c19
            by_cases c20 : x9_1 ≤ (l0.length : Int)
            · rw [if_pos c20] at H
              have c20b0 := eq_true c20
              have c20b1 : decide (x9_1 ≤ (l0.length : Int)) = true := decide_eq_true c20
              clear c20
              obtain ⟨y128, hy128⟩ : ∃ y_ : List (S54), y_ = ((l0.take (x9_1 : Int).toNat).drop (t117 : Int).toNat) := ⟨_, rfl⟩
              replace H : ((slices_Clone_api_Item_api_Item.f y128).bind fun t132 => (some (t132, 0))) = some (r1, r2) := by first | (rw [hy128]; with_reducible exact H) | (have H2_ := (Option.bind_some _ _).symm.trans H; rw [hy128]; with_reducible exact H2_) | (have H2_ := (Option.bind_some _ _).symm.trans H; with_reducible exact H2_) | with_reducible exact H | (rw [hy128]; exact H) | exact H
              have Ny128 := Aside0.mk hy128
              clear hy128
              replace H := Option.bind_eq_some_iff.mp H
              obtain ⟨t132, A210, H⟩ := H
              replace H : (some (t132, 0)) = some (r1, r2) := H
              have A21 := Aside0.mk A210
              clear A210
              simp only [Option.some.injEq, Prod.mk.injEq] at H
              obtain ⟨rfl, rfl⟩ := H
              have q22 : (x9_1 : Int) ≤ ((l0.length : Int) : Int) := of_decide_eq_true (by first | (with_reducible assumption) | assumption)
              obtain ⟨i022, hi022, _, hsz22, _⟩ := info_parts info54
              have hroom22 : l0.length ≤ c0 := HC0.out
              have hC22 : Kd.C k54 _ A0 l0.length l0 := HR0.out
              have ql22 : (t117 : Int) ≤ (x9_1 : Int) := of_decide_eq_true (by first | (with_reducible assumption) | assumption)
              have q022 : (0 : Int) ≤ (t117 : Int) := of_decide_eq_true (by first | (with_reducible assumption) | assumption)
              have hcut22 := cut_mid (P := Tryz.prog) 22 54 .i64 .i64 Tryz.underlying22 hi022 2 hsz22 A0 l0.length c0 t117 x9_1 q022 ql22 q22 hroom22
              have hr22 := Kd.C_mid (lo := (t117 : Int).toNat) (hi := (x9_1 : Int).toNat) (c := c0) hC22 (by omega) (by omega) hroom22
              obtain ⟨A22, hA22⟩ : ∃ z_, z_ = (if c0 = (t117 : Int).toNat then A0 else (A0 : Option Addr).map (·.add ((t117 : Int).toNat * 2))) := ⟨_, rfl⟩
              obtain ⟨c22, hc22⟩ : ∃ z_, z_ = c0 - (t117 : Int).toNat := ⟨_, rfl⟩
              have hy22 : y128.length = (x9_1 : Int).toNat - (t117 : Int).toNat := (by rw [Ny128.out, List.length_drop, List.length_take] <;> omega)
              rw [show ((l0).take (x9_1 : Int).toNat).drop (t117 : Int).toNat = y128 from Ny128.out.symm] at hr22
              replace hr22 : Kd.C k54 _ A22 y128.length y128 := (by rw [hA22]; exact hr22)
              rw [← hy22, ← hA22, ← hc22] at hcut22
              have HR131 := Aside0.mk hr22
              have HC131 := Aside0.mk (show y128.length ≤ c22 from by rw [hy22, hc22]; exact Nat.sub_le_sub_right (Nat.le_trans (by omega) hroom22) _)
              clear hr22 hC22 hroom22 hi022 hsz22 hc22
              have KY22 := Aside0.mk hy22
              have KA22 := Aside0.mk hA22
              clear hy22 hA22
              replace q22 := eq_true q22
              go_wp2_with (first | ((with_reducible refine gate_callee (f := 20) rfl ?_); refine gl_ (some 41) Tryz.func20 #[.slice A22 y128.length c22] ?_; (with_reducible refine (slices_Clone_api_Item_api_Item.calls _ _ y128 t132 _ ?side1 ?side2 A21.out).mono ?_); (case side1 => exact cb_ HR131); (case side2 => exact HC131.out); rintro e w23 ⟨v133, rfl, ho0, hb⟩; refine ⟨_, rfl, ?_⟩; have HO134 := rl_ ho0; replace HB := hb_ hb; (try clear hb); (try clear hb2); (try clear hk); (try clear hi); (try clear ho0)))
              go_ret2
              exact ⟨_, by first | rfl | (simp [errW_none, errW_some] <;> rfl) | (simp [*, errW_none, errW_some] <;> rfl), by (with_reducible repeat (first | apply Kd.R_alloc | apply Kd.R_drewN | apply Kd.R_drew)); exact HO134.out, bel_⟩
            rw [if_neg c20] at H
            exact absurd H (by simp)
          rw [if_neg c19] at H
          exact absurd H (by simp)
        rw [if_neg c18] at H
        exact absurd H (by simp)
  rw [if_neg c4] at H
  have c4b0 : (t116 == 0) = false := beq_eq_false_iff_ne.mpr c4
  have c4b1 : (t116 != 0) = true := bne_iff_ne.mpr c4
  simp only [Option.some.injEq, Prod.mk.injEq] at H
  obtain ⟨rfl, rfl⟩ := H
  go_enter Tryz.func27, Tryz.ntmps27
  go_wp2_with (first | ((with_reducible refine gate_callee (f := 18) rfl ?_); refine gl_ (some 11) Tryz.func18 #[.slice A0 l0.length c0] ?_; (with_reducible refine (item_Check.calls k _ _ l0 t116 _ ?side1 ?side2 A3.out).mono ?_); (case side1 => repeat (first | exact HR0.out | (with_reducible refine Kd.C_alloc ?_ _) | (with_reducible refine Kd.C_drewN ?_ _) | (with_reducible refine Kd.C_drew ?_))); (case side2 => exact HC0.out); rintro e w24 ⟨rfl, hb⟩; refine ⟨_, rfl, ?_⟩; replace HB := hb_ hb; (try clear hb); (try clear hb2); (try clear hk); (try clear hi)))
  go_ret2
  exact ⟨_, by first | rfl | (simp [errW_none, errW_some] <;> rfl) | (simp [*, errW_none, errW_some] <;> rfl), by first | exact Kd.R_nil _ _ _ _ _ | exact Kd.N_nil _ _ _ _ _ | exact Kd.V_nil _ _ _ _ _ | exact Kd.Q_nil _ _ _ _ _ | exact Kd.S_nil _ _ _ _ _, bel_⟩

end Go.Proofs.YtnngbhdofgodiaaGreatDoor.Z
end

section
-- Printed by a program of this session (mp.py) out of the translation.
namespace Go.Proofs.YtnngbhdofgodiaaGreatDoor.Z
open Go.RowKit Go.Proofs.YtnngbhdofgodiaaGreatDoorW.PrintWords Go.Proofs.YtnngbhdofgodiaaGreatDoorW.PrintLast Go.Proofs.YtnngbhdofgodiaaGreatDoorW.PrintMore
attribute [local go_sem] max2_int min2_int max_two min_two max_three min_three max_four min_four   -- for this text's walks alone
set_option linter.unusedVariables false
set_option linter.unusedSimpArgs false

theorem eqA54 (d : Nat) (w : World) (x0 y0 : ByteArray) (x1 y1 : ByteArray) :
    (Op.equalIn (d + 2) 54 (.agg #[.string x0, .string x1]) (.agg #[.string y0, .string y1])).run Tryz.prog w = .ok (x0.toList == y0.toList && (x1.toList == y1.toList)) w := by
  refine eqA_of Tryz.underlying54 (by kernel_rfl) ?_
  refine eqf_cons (by rfl) (by go_simp; rfl) (by go_simp; rfl) (by go_simp) ?_
  exact eqf_last (by rfl) (by go_simp; rfl) (by go_simp; rfl) (by go_simp)
end Go.Proofs.YtnngbhdofgodiaaGreatDoor.Z
end

section
-- Printed by a program of this session (mp.py) out of the translation.
namespace Go.Proofs.YtnngbhdofgodiaaGreatDoor.Z
open Go.RowKit Go.Proofs.YtnngbhdofgodiaaGreatDoorW.PrintWords Go.Proofs.YtnngbhdofgodiaaGreatDoorW.PrintLast Go.Proofs.YtnngbhdofgodiaaGreatDoorW.PrintMore
attribute [local go_sem] max2_int min2_int max_two min_two max_three min_three max_four min_four   -- for this text's walks alone
set_option linter.unusedVariables false
set_option linter.unusedSimpArgs false

attribute [local go_sem high] eqA54
/-! ### cambiumref04_Same: function 13 -/
def cambiumref04_Same.l0 : Nat → List (S54) → List (S54) → Int → Int → Option (Bool)
  | 0, _, _, _, _ => none
  | k + 1, x0, x1, x12, x13 => if x13 < x12 then (if 0 ≤ x13 then (if x13 < (x0.length : Int) then (if x13 < (x1.length : Int) then (if (!((((rd_T54 x0 x13).f0).toList) == (((rd_T54 x1 x13).f0).toList)) || (!((((rd_T54 x0 x13).f1).toList) == (((rd_T54 x1 x13).f1).toList)))) = true then (some false) else (cambiumref04_Same.l0 k x0 x1 x12 (wrap64 (x13 + 1)))) else (none)) else (none)) else (none)) else (some true)
def cambiumref04_Same.f (k : Nat) (l0 : List (S54)) (l1 : List (S54)) : Option (Bool) := if (l0.length : Int) = (l1.length : Int) then (cambiumref04_Same.l0 k l0 l1 (l0.length : Int) 0) else (some false)
theorem cambiumref04_Same.mono_l : ∀ k, (∀ y0 y1 y2 y3, LeO (cambiumref04_Same.l0 k y0 y1 y2 y3) (cambiumref04_Same.l0 (k + 1) y0 y1 y2 y3))
  | 0 => fun _ _ _ _ r h => by simp [cambiumref04_Same.l0] at h
  | k + 1 => by
    have ih0 := cambiumref04_Same.mono_l k
    · intro y0 y1 y2 y3
      unfold cambiumref04_Same.l0
      repeat' first
      | (with_reducible exact ih0 _ _ _ _)
      | (with_reducible exact LeO.refl _)
      | (with_reducible exact LeO.none _)
      | (with_reducible refine LeO.ite ?_ ?_)
      | (with_reducible refine LeO.bind ?_ (fun _ => ?_))
      | exact ih0 _ _ _ _
      | exact LeO.none _
      | refine LeO.ite ?_ ?_
      | refine LeO.bind ?_ (fun _ => ?_)
theorem cambiumref04_Same.mono : ∀ a0 a1 k, LeO (cambiumref04_Same.f k a0 a1) (cambiumref04_Same.f (k + 1) a0 a1) := by
  intro a0 a1 k
  have ih0 := cambiumref04_Same.mono_l k
  unfold cambiumref04_Same.f
  repeat' first
      | (with_reducible exact ih0 _ _ _ _)
      | (with_reducible exact LeO.refl _)
      | (with_reducible exact LeO.none _)
      | (with_reducible refine LeO.ite ?_ ?_)
      | (with_reducible refine LeO.bind ?_ (fun _ => ?_))
      | exact ih0 _ _ _ _
      | exact LeO.none _
      | refine LeO.ite ?_ ?_
      | refine LeO.bind ?_ (fun _ => ?_)
set_option maxHeartbeats 8000000 in
set_option maxRecDepth 100000 in
theorem cambiumref04_Same.calls (k : Nat) (A0 : Option Addr) (c0 : Nat) (l0 : List (S54)) (A1 : Option Addr) (c1 : Nat) (l1 : List (S54)) (r : Bool) (w : World) (hr0 : Kd.C k54 w A0 l0.length l0) (hc0 : l0.length ≤ c0) (hr1 : Kd.C k54 w A1 l1.length l1) (hc1 : l1.length ≤ c1) (h : cambiumref04_Same.f k l0 l1 = some r) :
    Calls Tryz.prog 13 #[.slice A0 l0.length c0, .slice A1 l1.length c1] w fun e w' => e = .returned (.bool r) ∧ Drawn0 w w' := by
  have hu54 := Tryz.underlying54
  have HR0 := Aside0.mk hr0
  have HC0 := Aside0.mk hc0
  clear hr0 hc0
  have HR1 := Aside0.mk hr1
  have HC1 := Aside0.mk hc1
  clear hr1 hc1
  have H : (if (l0.length : Int) = (l1.length : Int) then (cambiumref04_Same.l0 k l0 l1 (l0.length : Int) 0) else (some false)) = some r := h
  clear h
  by_cases c3 : (l0.length : Int) = (l1.length : Int)
  · rw [if_pos c3] at H
    have c3b0 : ((l0.length : Int) == (l1.length : Int)) = true := beq_iff_eq.mpr c3
    have c3b1 : ((l0.length : Int) != (l1.length : Int)) = false := bne_eq_false_iff_eq.mpr c3
    have c3b2 : (l0.length == l1.length) = true := by first | simpa using c3 | (simp at c3 ⊢; omega)
    clear c3
    have H' := Aside0.mk H
    clear H
    go_enter Tryz.func13, Tryz.ntmps13
    go_wp2
    repeat (go_quiet (fail); try go_wp2)
    go_loopg [13] k (fun kq v13 w' => ∃ (x13_1 : Int), v13 = .int .i64 x13_1 ∧ Aside0 (cambiumref04_Same.l0 kq l0 l1 (l0.length : Int) x13_1 = some r) ∧ Aside0 (kq ≤ k) ∧ Drawn0 w w')
    case atStart => exact ⟨(0), (by first | rfl | (simp; done) | (simp [*]; done)), H', ⟨Nat.le_refl _⟩, by repeat (first | exact Drawn0.refl _ | apply Drawn0.step)⟩
    case round =>
      clear H'
      try clear c1
      try clear p2
      try clear c3
      try clear c3b0
      try clear c3b1
      try clear c3b2
      obtain ⟨x13_1, rfl, HA, HK1, ⟨m1, rfl⟩⟩ := hrel
      cases gk with
      | zero => exact absurd HA.out (by simp [cambiumref04_Same.l0])
      | succ k1 =>
        have H := HA.out
        clear HA
        simp only [cambiumref04_Same.l0] at H
        by_cases c4 : x13_1 < (l0.length : Int)
        · rw [if_pos c4] at H
          have c4b0 : decide (x13_1 < (l0.length : Int)) = true := decide_eq_true c4
          clear c4
          by_cases c5 : 0 ≤ x13_1
          · rw [if_pos c5] at H
            have c5b0 : decide (0 ≤ x13_1) = true := decide_eq_true c5
            clear c5
            by_cases c6 : x13_1 < (l0.length : Int)
            · rw [if_pos c6] at H
              have c6b0 : decide (x13_1 < (l0.length : Int)) = true := decide_eq_true c6
              clear c6
              by_cases c7 : x13_1 < (l1.length : Int)
              · rw [if_pos c7] at H
                have c7b0 : decide (x13_1 < (l1.length : Int)) = true := decide_eq_true c7
                clear c7
                by_cases c8 : (!((((rd_T54 l0 x13_1).f0).toList) == (((rd_T54 l1 x13_1).f0).toList)) || (!((((rd_T54 l0 x13_1).f1).toList) == (((rd_T54 l1 x13_1).f1).toList)))) = true
                · rw [if_pos c8] at H
                  have c8b0 : (!((((rd_T54 l0 x13_1).f0).toList) == (((rd_T54 l1 x13_1).f0).toList)) || (!((((rd_T54 l0 x13_1).f1).toList) == (((rd_T54 l1 x13_1).f1).toList)))) = true := c8
                  clear c8
                  obtain rfl := Option.some.inj H
                  have p305 : 0 ≤ (x13_1 : Int) := of_decide_eq_true (by first | (with_reducible assumption) | assumption)
                  have q305 : x13_1 < (l0.length : Int) := of_decide_eq_true (by first | (with_reducible assumption) | assumption)
                  obtain ⟨ad305, e305, hx305_0, hx305_1⟩ := at_T54 HR0.out x13_1 p305 q305
                  cases e305
                  replace p305 := eq_true p305
                  replace q305 := eq_true q305
                  have p306 : 0 ≤ (x13_1 : Int) := of_decide_eq_true (by first | (with_reducible assumption) | assumption)
                  have q306 : x13_1 < (l1.length : Int) := of_decide_eq_true (by first | (with_reducible assumption) | assumption)
                  obtain ⟨ad306, e306, hx306_0, hx306_1⟩ := at_T54 HR1.out x13_1 p306 q306
                  cases e306
                  replace p306 := eq_true p306
                  replace q306 := eq_true q306
                  go_wp2
                  repeat (go_quiet (fail); try go_wp2)
                  go_ret
                  exact ⟨by first | rfl | (simp; done) | (simp [*]; done), by repeat (first | exact Drawn0.refl _ | apply Drawn0.step)⟩
                rw [if_neg c8] at H
                have c8b0 : (!((((rd_T54 l0 x13_1).f0).toList) == (((rd_T54 l1 x13_1).f0).toList)) || (!((((rd_T54 l0 x13_1).f1).toList) == (((rd_T54 l1 x13_1).f1).toList)))) = false := by simpa using c8
                clear c8
                have H' := Aside0.mk H
                clear H
                have p305 : 0 ≤ (x13_1 : Int) := of_decide_eq_true (by first | (with_reducible assumption) | assumption)
                have q305 : x13_1 < (l0.length : Int) := of_decide_eq_true (by first | (with_reducible assumption) | assumption)
                obtain ⟨ad305, e305, hx305_0, hx305_1⟩ := at_T54 HR0.out x13_1 p305 q305
                cases e305
                replace p305 := eq_true p305
                replace q305 := eq_true q305
                have p306 : 0 ≤ (x13_1 : Int) := of_decide_eq_true (by first | (with_reducible assumption) | assumption)
                have q306 : x13_1 < (l1.length : Int) := of_decide_eq_true (by first | (with_reducible assumption) | assumption)
                obtain ⟨ad306, e306, hx306_0, hx306_1⟩ := at_T54 HR1.out x13_1 p306 q306
                cases e306
                replace p306 := eq_true p306
                replace q306 := eq_true q306
                go_wp2
                repeat (go_quiet (fail); try go_wp2)
                go_roundg k1
                case measure => have := HK1.out; omega
                case rel => exact ⟨(wrap64 (x13_1 + 1)), (by first | rfl | (simp; done) | (simp [*]; done)), H', ⟨by have := HK1.out; omega⟩, by repeat (first | exact Drawn0.refl _ | apply Drawn0.step)⟩
              rw [if_neg c7] at H
              exact absurd H (by simp)
            rw [if_neg c6] at H
            exact absurd H (by simp)
          rw [if_neg c5] at H
          exact absurd H (by simp)
        rw [if_neg c4] at H
        have c4b0 : decide (x13_1 < (l0.length : Int)) = false := decide_eq_false c4
        clear c4
        obtain rfl := Option.some.inj H
        go_wp2
        repeat (go_quiet (fail); try go_wp2)
        go_ret
        exact ⟨by first | rfl | (simp; done) | (simp [*]; done), by repeat (first | exact Drawn0.refl _ | apply Drawn0.step)⟩
  rw [if_neg c3] at H
  have c3b0 : ((l0.length : Int) == (l1.length : Int)) = false := beq_eq_false_iff_ne.mpr c3
  have c3b1 : ((l0.length : Int) != (l1.length : Int)) = true := bne_iff_ne.mpr c3
  have c3b2 : (l0.length == l1.length) = false := by first | simpa using c3 | (simp at c3 ⊢; omega)
  obtain rfl := Option.some.inj H
  go_enter Tryz.func13, Tryz.ntmps13
  go_wp2
  repeat (go_quiet (fail); try go_wp2)
  go_ret
  exact ⟨by first | rfl | (simp; done) | (simp [*]; done), by repeat (first | exact Drawn0.refl _ | apply Drawn0.step)⟩

end Go.Proofs.YtnngbhdofgodiaaGreatDoor.Z
end

section
/- What the functions of package item, and the reference's, come to. -/
namespace Go.Proofs.YtnngbhdofgodiaaGreatDoor.Z
open Go.RowKit Go.Proofs.YtnngbhdofgodiaaGreatDoorW.PrintWords Go.Proofs.YtnngbhdofgodiaaGreatDoorW.PrintLast
set_option linter.unusedVariables false
theorem rd_get (l : List It) (i : Nat) (h : i < l.length) : rd_T54 l (i : Int) = l[i] := by
  unfold rd_T54
  rw [Int.toNat_natCast, List.getD_eq_getElem?_getD, List.getElem?_eq_getElem h]; rfl
theorem rdc_get (l : List Ch) (i : Nat) (h : i < l.length) : rd_T43 l (i : Int) = l[i] := by
  unfold rd_T43
  rw [Int.toNat_natCast, List.getD_eq_getElem?_getD, List.getElem?_eq_getElem h]; rfl
theorem iright_f (x : It) : item_right.f x.f0 x.f1 = some (okI x) := by
  unfold item_right.f okI okK
  by_cases h : x.f0.toList = []
  · simp [h]
  · rw [if_neg h]
    by_cases h2 : (x.f0.size : Int) ≤ 48
    · rw [if_pos h2]
      have h3 : x.f0.size ≤ 48 := by omega
      have : decide ((x.f1.size : Int) ≤ 160) = decide (x.f1.size ≤ 160) := decide_eq_decide.2 (by omega)
      simp [h, h3, this]
    · rw [if_neg h2]
      have h3 : ¬ x.f0.size ≤ 48 := by omega
      simp [h3]
theorem rightc_f (c : Ch) : item_right.f c.f0 c.f2 = some (okK c.f0 && decide (c.f2.size ≤ 160)) := iright_f ⟨c.f0, c.f2⟩
def prv (l : List It) : Nat → Option It
  | 0 => none
  | j + 1 => l[j]?
theorem prv_succ (l : List It) (i : Nat) (h : i < l.length) : prv l (i + 1) = some l[i] := List.getElem?_eq_getElem h
/-- What Check says at a place. -/
def ckS (b : Bool) : Int := if b then 0 else 4
theorem okF_at (l : List It) (i : Nat) (h : i < l.length) : okF (prv l i) (l.drop i) = (okI l[i] && (match prv l i with | none => true | some q => Op.bytesLess (key q) (key l[i])) && okF (prv l (i + 1)) (l.drop (i + 1))) := by
  rw [List.drop_eq_getElem_cons h, prv_succ l i h]
  cases prv l i <;> rfl
theorem itCheck_l0 (l : List It) (hl : l.length ≤ 4398046511104) : ∀ d i : Nat, l.length = i + d → Ev (fun k => item_Check.l0 k l l (l.length : Int) (i : Int)) (ckS (okF (prv l i) (l.drop i)))
  | 0, i, hi => by
    refine Ev.step (fun k => by rw [item_Check.l0]) ?_
    refine Ev.ifn (by omega) (Ev.const ?_)
    rw [List.drop_of_length_le (by omega)]
    unfold okF; rfl
  | d + 1, i, hi => by
    have hlt : i < l.length := by omega
    have ih := itCheck_l0 l hl d (i + 1) (by omega)
    rw [okF_at l i hlt]
    refine Ev.step (fun k => by rw [item_Check.l0]) ?_
    refine Ev.ifp (by omega) (Ev.ifp (by omega) (Ev.ifp (by omega) (Ev.bindc (by rw [rd_get l i hlt]; exact iright_f _) ?_)))
    cases hr : okI l[i] with
    | false => exact Ev.ifn (by simp) (Ev.const rfl)
    | true =>
      refine Ev.ifp rfl ?_
      rw [w64 (i := (i : Int) + 1) (by omega) (by omega)]
      cases i with
      | zero =>
        refine Ev.ifn (by omega) (Ev.val ih ?_)
        simp [prv]
      | succ j =>
        refine Ev.ifp (by omega) ?_
        have e : wrap64 (((j + 1 : Nat) : Int) - 1) = (j : Int) := by rw [w64 (by omega) (by omega)]; omega
        rw [e]
        refine Ev.ifp (by omega) (Ev.ifp (by omega) ?_)
        rw [rd_get l j (by omega), rd_get l (j + 1) hlt]
        rw [prv_succ l j (by omega)]
        cases hb : Op.bytesLess (l[j]).f0.toList (l[j + 1]).f0.toList with
        | false =>
          refine Ev.ifn (by simp) (Ev.const ?_)
          simp [ckS, key, hb]
        | true =>
          refine Ev.ifp rfl (Ev.val ih ?_)
          simp [key, hb]
theorem itCheck (l : List It) (hl : l.length ≤ 4398046511104) : Ev (fun k => item_Check.f k l) (ckS (okL l)) := itCheck_l0 l hl l.length 0 (by omega)
-- two texts compared
def cmpS (a b : List UInt8) : Int := if Op.bytesLess a b = true then -1 else if Op.bytesLess b a = true then 1 else 0
theorem compare_f (a b : ByteArray) : cmp_Compare_string.f a b = some (cmpS a.toList b.toList) := by
  unfold cmp_Compare_string.f cmp_isNaN_string.f cmpS
  simp only [bne_self_eq_false, Option.bind_some, Bool.false_eq_true, if_false]
  split
  · rfl
  · split <;> rfl
theorem cmpS_lt (a b : List UInt8) : cmpS a b < 0 ↔ Op.bytesLess a b = true := by
  unfold cmpS
  cases h : Op.bytesLess a b
  · simp only [Bool.false_eq_true, if_false, iff_false]; split <;> omega
  · simp
theorem cmpS_eq (a b : List UInt8) : (cmpS a b == 0) = (a == b) := by
  unfold cmpS
  rcases bl_total a b with rfl | h | h
  · simp [bl_irrefl]
  · have := bl_ne h
    simp [h, this]
  · have := (bl_ne h).symm
    simp [h, bl_asymm h, this]
theorem iu64w {i : Int} (h0 : 0 ≤ i) (h1 : i ≤ 9223372036854775807) : IntKind.u64.wrap i = i := by
  simp [IntKind.wrap, IntKind.bits, IntKind.signed]; omega
theorem lo_get {l : List It} (ha : Asc l) (k : List UInt8) (h : Nat) (hh : h < l.length) : Op.bytesLess (key l[h]) k = true ↔ h < (lo l k).length := by
  have e := lo_up l k
  constructor
  · intro hb
    rcases Nat.lt_or_ge h (lo l k).length with hc | hc
    · exact hc
    · have hm : l[h] ∈ up l k := by
        have : l[h] = (lo l k ++ up l k)[h]'(by rw [e]; exact hh) := by simp only [e]
        rw [this, List.getElem_append_right hc]
        exact List.getElem_mem _
      rw [up_ge ha _ hm] at hb; cases hb
  · intro hc
    have hm : l[h] ∈ lo l k := by
      have : l[h] = (lo l k ++ up l k)[h]'(by rw [e]; exact hh) := by simp only [e]
      rw [this, List.getElem_append_left hc]
      exact List.getElem_mem _
    exact lo_mem _ hm
theorem lo_le (l : List It) (k : List UInt8) : (lo l k).length ≤ l.length := by
  have := congrArg List.length (lo_up l k); rw [List.length_append] at this; omega
theorem up_drop (l : List It) (k : List UInt8) : up l k = l.drop (lo l k).length := by
  have := congrArg (List.drop (lo l k).length) (lo_up l k)
  rw [List.drop_left] at this
  exact this
theorem search_l0 {l : List It} (ha : Asc l) (hl : l.length ≤ 4398046511104) (a : ByteArray) : ∀ d i j : Nat, j - i ≤ d → i ≤ (lo l a.toList).length → (lo l a.toList).length ≤ j → j ≤ l.length →
    Ev (fun k => slices_BinarySearchFunc_api_Item_api_Item_string_fn36.l0 k l a (l.length : Int) (i : Int) (j : Int)) (((lo l a.toList).length : Int), fnd l a.toList) := by
  have endd : ∀ i : Nat, i = (lo l a.toList).length → ∀ j : Nat, ¬ ((i : Int) < (j : Int)) → Ev (fun k => slices_BinarySearchFunc_api_Item_api_Item_string_fn36.l0 k l a (l.length : Int) (i : Int) (j : Int)) (((lo l a.toList).length : Int), fnd l a.toList) := by
    intro i hi j hj
    refine Ev.step (fun k => by rw [slices_BinarySearchFunc_api_Item_api_Item_string_fn36.l0]) (Ev.ifn hj ?_)
    have hu := up_drop l a.toList
    rw [← hi] at hu
    rcases Nat.lt_or_ge i l.length with hlt | hge
    · refine Ev.ifp (by omega) (Ev.ifp (by omega) (Ev.ifp (by omega) ?_))
      refine Ev.bindc (show item_place_1.f _ _ _ = some _ by unfold item_place_1.f; rw [compare_f]; rfl) (Ev.const ?_)
      rw [rd_get l i hlt, cmpS_eq, ← hi]
      unfold fnd
      rw [hu, List.drop_eq_getElem_cons hlt]
    · refine Ev.ifn (by omega) (Ev.const ?_)
      rw [← hi]
      unfold fnd
      rw [hu, List.drop_of_length_le hge]
  intro d
  induction d with
  | zero =>
    intro i j hd h1 h2 h3
    exact endd i (by omega) j (by omega)
  | succ d ih =>
    intro i j hd h1 h2 h3
    by_cases hij : i < j
    · refine Ev.step (fun k => by rw [slices_BinarySearchFunc_api_Item_api_Item_string_fn36.l0]) (Ev.ifp (by omega) ?_)
      have hm : wrap64 ((IntKind.u64.wrap (wrap64 ((i : Int) + (j : Int)))) / 2) = (((i + j) / 2 : Nat) : Int) := by
        rw [w64 (i := (i : Int) + (j : Int)) (by omega) (by omega), iu64w (by omega) (by omega), w64 (by omega) (by omega)]; omega
      rw [hm]
      obtain ⟨h, hh⟩ : ∃ h, h = (i + j) / 2 := ⟨_, rfl⟩
      have hh1 : i ≤ h := by omega
      have hh2 : h < j := by omega
      rw [← hh]
      have hlt : h < l.length := by omega
      refine Ev.ifp (by omega) (Ev.ifp (by omega) ?_)
      refine Ev.bindc (show item_place_1.f _ _ _ = some _ by unfold item_place_1.f; rw [compare_f]; rfl) ?_
      rw [rd_get l h hlt]
      have hg := lo_get ha a.toList h hlt
      by_cases hb : Op.bytesLess (key l[h]) a.toList = true
      · refine Ev.ifp ((cmpS_lt _ _).2 hb) ?_
        have e : wrap64 ((h : Int) + 1) = ((h + 1 : Nat) : Int) := by rw [w64 (by omega) (by omega)]; omega
        rw [e]
        exact ih (h + 1) j (by omega) (by have := hg.1 hb; omega) h2 h3
      · refine Ev.ifn (fun hc => hb ((cmpS_lt _ _).1 hc)) ?_
        refine ih i h (by omega) h1 ?_ (by omega)
        rcases Nat.lt_or_ge h (lo l a.toList).length with hc | hc
        · exact absurd (hg.2 hc) hb
        · exact hc
    · exact endd i (by omega) j (by omega)
theorem place_f {l : List It} (ha : Asc l) (hl : l.length ≤ 4398046511104) (a : ByteArray) : Ev (fun k => item_place.f k l a) (((lo l a.toList).length : Int), fnd l a.toList) := by
  unfold item_place.f slices_BinarySearchFunc_api_Item_api_Item_string_fn36.f
  exact Ev.bind (search_l0 ha hl a l.length 0 l.length (by omega) (by omega) (lo_le _ _) (Nat.le_refl _)) (Ev.const rfl)
/-- Where a key is: what stands there. -/
theorem at_fnd {l : List It} (ha : Asc l) {k : List UInt8} (hf : fnd l k = true) : ∃ h : (lo l k).length < l.length, key (l[(lo l k).length]) = k ∧ l = lo l k ++ [l[(lo l k).length]] ++ hi l k := by
  obtain ⟨mid, hp, hu, hlo, hhi, hm⟩ := parts_of ha k
  rcases hm with ⟨_, h⟩ | ⟨x, rfl, hx, _⟩
  · rw [h] at hf; cases hf
  · have hlen := congrArg List.length hp
    simp only [List.length_append, List.length_singleton] at hlen
    have hlt : (lo l k).length < l.length := by omega
    have hg : l[(lo l k).length] = x := by
      have : l[(lo l k).length]? = some x := by
        have h2 := congrArg (fun z => z[(lo l k).length]?) hp
        simp only [List.append_assoc] at h2
        rw [List.getElem?_append_right (Nat.le_refl _), Nat.sub_self] at h2
        simpa using h2
      rw [List.getElem?_eq_getElem hlt] at this
      exact Option.some.inj this
    exact ⟨hlt, by rw [hg]; exact hx, by rw [hg]; exact hp⟩
theorem not_fnd {l : List It} (ha : Asc l) {k : List UInt8} (hf : fnd l k = false) : l = lo l k ++ hi l k := by
  obtain ⟨mid, hp, hu, hlo, hhi, hm⟩ := parts_of ha k
  rcases hm with ⟨rfl, _⟩ | ⟨x, rfl, hx, h⟩
  · simpa using hp
  · rw [h] at hf; cases hf
theorem hi_gt {l : List It} (ha : Asc l) {k : List UInt8} : ∀ x ∈ hi l k, Op.bytesLess k (key x) = true := by
  obtain ⟨mid, hp, hu, hlo, hhi, hm⟩ := parts_of ha k
  exact hhi
theorem look_fnd {l : List It} (ha : Asc l) {k : List UInt8} (hf : fnd l k = true) (h : (lo l k).length < l.length) : look l k = some (l[(lo l k).length]).f1 := by
  obtain ⟨h2, hk, hp⟩ := at_fnd ha hf
  have e := congrArg (fun z => look z k) hp
  simp only [look_app] at e
  rw [e, look_none (fun x hx => bl_ne (lo_mem x hx)), look_cons, if_pos hk]
  simp
theorem look_not {l : List It} (ha : Asc l) {k : List UInt8} (hf : fnd l k = false) : look l k = none := by
  have e := congrArg (fun z => look z k) (not_fnd ha hf)
  simp only [look_app] at e
  rw [e, look_none (fun x hx => bl_ne (lo_mem x hx)), look_none (fun x hx => (bl_ne (hi_gt ha x hx)).symm)]; rfl
def getS (l : List It) (k : List UInt8) : ByteArray × Int := if okL l = true then (match look l k with | some v => (v, 0) | none => (⟨#[]⟩, 5)) else (⟨#[]⟩, 4)
theorem look_at {l : List It} (ha : Asc l) (j : Nat) (h : j < l.length) : look l (key l[j]) = some (l[j]).f1 := by
  have e : l = l.take j ++ l[j] :: l.drop (j + 1) := by rw [← List.drop_eq_getElem_cons h, List.take_append_drop]
  have ha2 : Asc (l.take j ++ l[j] :: l.drop (j + 1)) := e ▸ ha
  have e2 := congrArg (fun z => look z (key l[j])) e
  simp only [look_app] at e2
  rw [e2, look_none (fun x hx => bl_ne (ha2.parts.2.2 x hx _ (List.mem_cons_self ..))), look_cons, if_pos rfl]; rfl
end Go.Proofs.YtnngbhdofgodiaaGreatDoor.Z
end

section
/- What Under, Same and SameChanges come to. -/
namespace Go.Proofs.YtnngbhdofgodiaaGreatDoor.Z
open Go.RowKit Go.Proofs.YtnngbhdofgodiaaGreatDoorW.PrintWords Go.Proofs.YtnngbhdofgodiaaGreatDoorW.PrintLast
set_option linter.unusedVariables false
def hp (p : List UInt8) (x : It) : Bool := p.isPrefixOf (key x)
theorem cut_pre (a b : ByteArray) : ((a.extract 0 ((b.size : Int) : Int).toNat).toList = b.toList) ↔ b.toList.isPrefixOf a.toList = true := by
  rw [Int.toNat_natCast, Lib.extract_eq, ByteArray.toList_eq, ByteArray.toList_eq, ByteArray.toList_eq, List.isPrefixOf_iff_prefix, List.prefix_iff_eq_take]
  have hs : b.size = b.data.toList.length := by rw [Array.length_toList]; rfl
  rw [hs]
  simp only [List.drop_zero, Nat.sub_zero]
  exact eq_comm
theorem pre_size {a b : ByteArray} (h : b.toList.isPrefixOf a.toList = true) : b.size ≤ a.size := by
  rw [ByteArray.toList_eq, ByteArray.toList_eq, List.isPrefixOf_iff_prefix] at h
  have := h.length_le
  simpa using this
theorem hasPrefix_f (a b : ByteArray) : strings_HasPrefix.f a b = some (b.toList.isPrefixOf a.toList) := by
  unfold strings_HasPrefix.f stringslite_HasPrefix.f
  by_cases h : (a.size : Int) ≥ (b.size : Int)
  · rw [if_pos h, if_pos (by omega), if_pos (by omega)]
    have := cut_pre a b
    simp only [Option.bind_some, Option.some.injEq]
    rw [Bool.eq_iff_iff, beq_iff_eq]
    exact this
  · rw [if_neg h]
    have hn : b.toList.isPrefixOf a.toList = false := by
      cases hb : b.toList.isPrefixOf a.toList
      · rfl
      · have := pre_size hb; omega
    rw [hn]; rfl
theorem pre_not_lt : ∀ {p k : List UInt8}, p.isPrefixOf k = true → Op.bytesLess k p = false
  | [], [], _ => rfl
  | [], _ :: _, _ => rfl
  | _ :: _, [], h => by simp at h
  | c :: p, d :: k, h => by
    simp only [List.isPrefixOf, Bool.and_eq_true, beq_iff_eq] at h
    obtain ⟨rfl, h⟩ := h
    have := pre_not_lt h
    simp [Op.bytesLess, this]
theorem pre_between : ∀ {p x y : List UInt8}, Op.bytesLess x p = false → Op.bytesLess x y = true → p.isPrefixOf y = true → p.isPrefixOf x = true
  | [], _, _, _, _, _ => by simp
  | _ :: _, _, [], _, _, h => by simp at h
  | c :: p, [], d :: y, h, _, _ => by simp [Op.bytesLess] at h
  | c :: p, e :: x, d :: y, h1, h2, h3 => by
    simp only [List.isPrefixOf, Bool.and_eq_true, beq_iff_eq] at h3 ⊢
    obtain ⟨rfl, h3⟩ := h3
    simp only [Op.bytesLess, Bool.or_eq_false_iff, decide_eq_false_iff_not, Bool.and_eq_false_iff, beq_eq_false_iff_ne, Bool.or_eq_true, decide_eq_true_eq, Bool.and_eq_true, beq_iff_eq] at h1 h2
    obtain ⟨h1, h4⟩ := h1
    rcases h2 with h2 | ⟨rfl, h2⟩
    · exact absurd h2 h1
    · refine ⟨rfl, pre_between ?_ h2 h3⟩
      rcases h4 with h4 | h4
      · exact absurd rfl h4
      · exact h4
theorem filter_up {p : List UInt8} : ∀ {u : List It}, Asc u → (∀ x ∈ u, Op.bytesLess (key x) p = false) → u.filter (hp p) = u.takeWhile (hp p)
  | [], _, _ => rfl
  | x :: u, ha, h => by
    cases hx : hp p x with
    | true =>
      rw [List.filter_cons_of_pos hx, List.takeWhile_cons_of_pos hx]
      exact congrArg _ (filter_up ha.cons.2 (fun y hy => h y (List.mem_cons_of_mem _ hy)))
    | false =>
      rw [List.takeWhile_cons_of_neg (by simp [hx]), List.filter_eq_nil_iff]
      intro y hy
      rcases List.mem_cons.1 hy with rfl | hy
      · simp [hx]
      · intro hyp
        have := pre_between (h x (List.mem_cons_self ..)) (ha.cons.1 y hy) hyp
        unfold hp at hx; rw [hx] at this; cases this
theorem filter_pre {l : List It} (ha : Asc l) (p : List UInt8) : l.filter (hp p) = (up l p).takeWhile (hp p) := by
  have h2 : Asc (lo l p ++ up l p) := by rw [lo_up]; exact ha
  rw [← filter_up h2.parts.2.1 (up_ge ha)]
  conv => lhs; rw [← lo_up l p]
  rw [List.filter_append, List.filter_eq_nil_iff.2, List.nil_append]
  intro x hx hb
  have := pre_not_lt hb
  rw [lo_mem x hx] at this; cases this
theorem itUnder_l0 (l : List It) (hl : l.length ≤ 4398046511104) (a : ByteArray) (pos : Nat) : ∀ d i : Nat, l.length = i + d → pos ≤ i →
    Ev (fun k => item_Under.l0 k l a (pos : Int) (i : Int)) ((l.take (i + ((l.drop i).takeWhile (hp a.toList)).length)).drop pos, 0) := by
  have hcl : ∀ x : List It, x.length ≤ l.length → slices_Clone_api_Item_api_Item.f x = some x := by
    intro x hx
    unfold slices_Clone_api_Item_api_Item.f
    rw [if_pos (by omega)]
  intro d
  induction d with
  | zero =>
    intro i hi hp_
    refine Ev.step (fun k => by rw [item_Under.l0]) (Ev.ifn (by omega) (Ev.ifp (by omega) (Ev.ifp (by omega) (Ev.ifp (by omega) (Ev.bindc (hcl _ ?_) (Ev.const ?_))))))
    · rw [List.length_drop, List.length_take]; omega
    · rw [List.drop_of_length_le (i := i) (by omega)]; simp
  | succ d ih =>
    intro i hi hp_
    have hlt : i < l.length := by omega
    refine Ev.step (fun k => by rw [item_Under.l0]) (Ev.ifp (by omega) (Ev.ifp (by omega) (Ev.bindc (by rw [rd_get l i hlt]; exact hasPrefix_f _ _) ?_)))
    rw [List.drop_eq_getElem_cons hlt]
    cases hx : a.toList.isPrefixOf (l[i]).f0.toList with
    | true =>
      rw [List.takeWhile_cons_of_pos (show hp a.toList l[i] = true from hx)]
      refine Ev.ifp rfl ?_
      rw [w64 (by omega) (by omega)]
      refine Ev.val (ih (i + 1) (by omega) (by omega)) ?_
      rw [List.length_cons, Nat.add_assoc, Nat.add_comm 1]
    | false =>
      rw [List.takeWhile_cons_of_neg (show ¬ hp a.toList l[i] = true by unfold hp key; rw [hx]; simp)]
      refine Ev.ifn (by simp) (Ev.ifp (by omega) (Ev.ifp (by omega) (Ev.ifp (by omega) (Ev.bindc (hcl _ ?_) (Ev.const ?_)))))
      · rw [List.length_drop, List.length_take]; omega
      · simp
def underS (l : List It) (p : List UInt8) : List It × Int := if okL l = true then (l.filter (hp p), 0) else ([], 4)
theorem itUnder (l : List It) (hl : l.length ≤ 4398046511104) (a : ByteArray) : Ev (fun k => item_Under.f k l a) (underS l a.toList) := by
  unfold item_Under.f
  refine Ev.bind (itCheck l hl) ?_
  by_cases ho : okL l = true
  · have ha := ((okL_iff l).1 ho).2
    unfold underS
    rw [if_pos ho]
    refine Ev.ifp (by rw [ho]; rfl) (Ev.bind (place_f ha hl a) (Ev.val (itUnder_l0 l hl a _ (l.length - (lo l a.toList).length) _ (by have := lo_le l a.toList; omega) (Nat.le_refl _)) ?_))
    rw [filter_pre ha, up_drop, ← List.take_drop]
    exact congrArg (fun z => (z, (0 : Int))) (List.prefix_iff_eq_take.1 (List.takeWhile_prefix _)).symm
  · have ho' : okL l = false := by simpa using ho
    unfold underS
    rw [ho']
    exact Ev.ifn (by decide) (Ev.const rfl)
-- Same
theorem same_l0 (x y : List It) (hl : x.length ≤ 9223372036854775806) (he : x.length = y.length) : ∀ d i : Nat, x.length = i + d →
    ∃ b, Ev (fun k => cambiumref04_Same.l0 k x y (x.length : Int) (i : Int)) b ∧ (b = true ↔ x.drop i = y.drop i) := by
  intro d
  induction d with
  | zero =>
    intro i hi
    refine ⟨true, Ev.step (fun k => by rw [cambiumref04_Same.l0]) (Ev.ifn (by omega) (Ev.const rfl)), ?_⟩
    rw [List.drop_of_length_le (by omega), List.drop_of_length_le (by omega)]; simp
  | succ d ih =>
    intro i hi
    have h1 : i < x.length := by omega
    have h2 : i < y.length := by omega
    obtain ⟨b, hb, hbi⟩ := ih (i + 1) (by omega)
    rw [List.drop_eq_getElem_cons h1, List.drop_eq_getElem_cons h2]
    by_cases hk : x[i] = y[i]
    · refine ⟨b, Ev.step (fun k => by rw [cambiumref04_Same.l0]) (Ev.ifp (by omega) (Ev.ifp (by omega) (Ev.ifp (by omega) (Ev.ifp (by omega) (Ev.ifn ?_ ?_))))), ?_⟩
      · rw [rd_get x i h1, rd_get y i h2, hk]; simp
      · rw [w64 (by omega) (by omega)]; exact hb
      · rw [hbi, List.cons.injEq]; exact ⟨fun h => ⟨hk, h⟩, fun h => h.2⟩
    · refine ⟨false, Ev.step (fun k => by rw [cambiumref04_Same.l0]) (Ev.ifp (by omega) (Ev.ifp (by omega) (Ev.ifp (by omega) (Ev.ifp (by omega) (Ev.ifp ?_ (Ev.const rfl)))))), ?_⟩
      · rw [rd_get x i h1, rd_get y i h2]
        by_cases h3 : (x[i]).f0.toList = (y[i]).f0.toList
        · have h4 : (x[i]).f1.toList ≠ (y[i]).f1.toList := fun h4 => hk (it_ext h3 h4)
          simp [h4]
        · simp [h3]
      · rw [List.cons.injEq]; exact ⟨fun h => (by cases h), fun h => absurd h.1 hk⟩
theorem same_f (x y : List It) (hl : x.length ≤ 9223372036854775806) : ∃ b, Ev (fun k => cambiumref04_Same.f k x y) b ∧ (b = true ↔ x = y) := by
  unfold cambiumref04_Same.f
  by_cases he : x.length = y.length
  · obtain ⟨b, h1, h2⟩ := same_l0 x y hl he x.length 0 (by omega)
    exact ⟨b, Ev.ifp (by omega) h1, by simpa using h2⟩
  · refine ⟨false, Ev.ifn (by omega) (Ev.const rfl), ?_⟩
    simp only [Bool.false_eq_true, false_iff]
    rintro rfl; exact he rfl
theorem same_refl (x : List It) (hl : x.length ≤ 9223372036854775806) : Ev (fun k => cambiumref04_Same.f k x x) true := by
  obtain ⟨b, h1, h2⟩ := same_f x x hl
  rwa [h2.2 rfl] at h1
theorem same_not {x y : List It} (hl : x.length ≤ 9223372036854775806) (h : x ≠ y) : Ev (fun k => cambiumref04_Same.f k x y) false := by
  obtain ⟨b, h1, h2⟩ := same_f x y hl
  have : b = false := by cases b; rfl; exact absurd (h2.1 rfl) h
  rwa [this] at h1
end Go.Proofs.YtnngbhdofgodiaaGreatDoor.Z
end

section
-- Printed by a program of this session (mp.py) out of the translation.
namespace Go.Proofs.YtnngbhdofgodiaaGreatDoor.Z
open Go.RowKit Go.Proofs.YtnngbhdofgodiaaGreatDoorW.PrintWords Go.Proofs.YtnngbhdofgodiaaGreatDoorW.PrintLast Go.Proofs.YtnngbhdofgodiaaGreatDoorW.PrintMore
attribute [local go_sem] max2_int min2_int max_two min_two max_three min_three max_four min_four   -- for this text's walks alone
set_option linter.unusedVariables false
set_option linter.unusedSimpArgs false

/-! ### cmp_Or_api_Errno: function 17 -/
def cmp_Or_api_Errno.l0 : Nat → Int → List Int → Int → Int → Option (Int)
  | 0, _, _, _, _ => none
  | k + 1, x3, x6, x7, x8 => if x8 < x7 then (if 0 ≤ x8 then (if x8 < (x6.length : Int) then (if (rd x6 x8) = x3 then (cmp_Or_api_Errno.l0 k x3 x6 x7 (wrap64 (x8 + 1))) else (some (rd x6 x8))) else (none)) else (none)) else (some x3)
def cmp_Or_api_Errno.f (k : Nat) (l0 : List Int) : Option (Int) := cmp_Or_api_Errno.l0 k 0 l0 (l0.length : Int) 0
theorem cmp_Or_api_Errno.mono_l : ∀ k, (∀ y0 y1 y2 y3, LeO (cmp_Or_api_Errno.l0 k y0 y1 y2 y3) (cmp_Or_api_Errno.l0 (k + 1) y0 y1 y2 y3))
  | 0 => fun _ _ _ _ r h => by simp [cmp_Or_api_Errno.l0] at h
  | k + 1 => by
    have ih0 := cmp_Or_api_Errno.mono_l k
    · intro y0 y1 y2 y3
      unfold cmp_Or_api_Errno.l0
      repeat' first
      | (with_reducible exact ih0 _ _ _ _)
      | (with_reducible exact LeO.refl _)
      | (with_reducible exact LeO.none _)
      | (with_reducible refine LeO.ite ?_ ?_)
      | (with_reducible refine LeO.bind ?_ (fun _ => ?_))
      | exact ih0 _ _ _ _
      | exact LeO.none _
      | refine LeO.ite ?_ ?_
      | refine LeO.bind ?_ (fun _ => ?_)
theorem cmp_Or_api_Errno.mono : ∀ a0 k, LeO (cmp_Or_api_Errno.f k a0) (cmp_Or_api_Errno.f (k + 1) a0) := by
  intro a0 k
  have ih0 := cmp_Or_api_Errno.mono_l k
  unfold cmp_Or_api_Errno.f
  repeat' first
      | (with_reducible exact ih0 _ _ _ _)
      | (with_reducible exact LeO.refl _)
      | (with_reducible exact LeO.none _)
      | (with_reducible refine LeO.ite ?_ ?_)
      | (with_reducible refine LeO.bind ?_ (fun _ => ?_))
      | exact ih0 _ _ _ _
      | exact LeO.none _
      | refine LeO.ite ?_ ?_
      | refine LeO.bind ?_ (fun _ => ?_)
set_option maxHeartbeats 8000000 in
set_option maxRecDepth 100000 in
theorem cmp_Or_api_Errno.calls (k : Nat) (A0 : Option Addr) (c0 : Nat) (l0 : List Int) (r : Int) (w : World) (hr0 : Kd.C (Kd.int .i64) w A0 l0.length l0) (hc0 : l0.length ≤ c0) (h : cmp_Or_api_Errno.f k l0 = some r) :
    Calls Tryz.prog 17 #[.slice A0 l0.length c0] w fun e w' => e = .returned (.int .i64 r) ∧ Drawn0 w w' := by
  have HR0 := Aside0.mk hr0
  have HC0 := Aside0.mk hc0
  clear hr0 hc0
  have H : (cmp_Or_api_Errno.l0 k 0 l0 (l0.length : Int) 0) = some r := h
  clear h
  have H' := Aside0.mk H
  clear H
  go_enter Tryz.func17, Tryz.ntmps17
  go_wp2
  go_loopg [8] k (fun kq v8 w' => ∃ (x8_1 : Int), v8 = .int .i64 x8_1 ∧ Aside0 (cmp_Or_api_Errno.l0 kq 0 l0 (l0.length : Int) x8_1 = some r) ∧ Aside0 (kq ≤ k) ∧ Drawn0 w w')
  case atStart => exact ⟨(0), (by first | rfl | (simp; done) | (simp [*]; done)), H', ⟨Nat.le_refl _⟩, by repeat (first | exact Drawn0.refl _ | apply Drawn0.step)⟩
  case round =>
    clear H'
    try clear c1
    obtain ⟨x8_1, rfl, HA, HK1, ⟨m1, rfl⟩⟩ := hrel
    cases gk with
    | zero => exact absurd HA.out (by simp [cmp_Or_api_Errno.l0])
    | succ k1 =>
      have H := HA.out
      clear HA
      simp only [cmp_Or_api_Errno.l0] at H
      by_cases c2 : x8_1 < (l0.length : Int)
      · rw [if_pos c2] at H
        have c2b0 : decide (x8_1 < (l0.length : Int)) = true := decide_eq_true c2
        clear c2
        by_cases c3 : 0 ≤ x8_1
        · rw [if_pos c3] at H
          have c3b0 : decide (0 ≤ x8_1) = true := decide_eq_true c3
          clear c3
          by_cases c4 : x8_1 < (l0.length : Int)
          · rw [if_pos c4] at H
            have c4b0 : decide (x8_1 < (l0.length : Int)) = true := decide_eq_true c4
            clear c4
            by_cases c5 : (rd l0 x8_1) = 0
            · rw [if_pos c5] at H
              have c5b0 : ((rd l0 x8_1) == 0) = true := beq_iff_eq.mpr c5
              have c5b1 : ((rd l0 x8_1) != 0) = false := bne_eq_false_iff_eq.mpr c5
              clear c5
              have H' := Aside0.mk H
              clear H
              have p207 : 0 ≤ (x8_1 : Int) := of_decide_eq_true (by first | (with_reducible assumption) | assumption)
              have q207 : x8_1 < (l0.length : Int) := of_decide_eq_true (by first | (with_reducible assumption) | assumption)
              obtain ⟨ad207, e207, hx207_0⟩ := Kd.at_int HR0.out x8_1 p207 q207
              cases e207
              replace p207 := eq_true p207
              replace q207 := eq_true q207
              go_wp2
              go_roundg k1
              case measure => have := HK1.out; omega
              case rel => exact ⟨(wrap64 (x8_1 + 1)), (by first | rfl | (simp; done) | (simp [*]; done)), H', ⟨by have := HK1.out; omega⟩, by repeat (first | exact Drawn0.refl _ | apply Drawn0.step)⟩
            rw [if_neg c5] at H
            have c5b0 : ((rd l0 x8_1) == 0) = false := beq_eq_false_iff_ne.mpr c5
            have c5b1 : ((rd l0 x8_1) != 0) = true := bne_iff_ne.mpr c5
            obtain rfl := Option.some.inj H
            have p207 : 0 ≤ (x8_1 : Int) := of_decide_eq_true (by first | (with_reducible assumption) | assumption)
            have q207 : x8_1 < (l0.length : Int) := of_decide_eq_true (by first | (with_reducible assumption) | assumption)
            obtain ⟨ad207, e207, hx207_0⟩ := Kd.at_int HR0.out x8_1 p207 q207
            cases e207
            replace p207 := eq_true p207
            replace q207 := eq_true q207
            go_wp2
            go_ret
            exact ⟨by first | rfl | (simp; done) | (simp [*]; done), by repeat (first | exact Drawn0.refl _ | apply Drawn0.step)⟩
          rw [if_neg c4] at H
          exact absurd H (by simp)
        rw [if_neg c3] at H
        exact absurd H (by simp)
      rw [if_neg c2] at H
      have c2b0 : decide (x8_1 < (l0.length : Int)) = false := decide_eq_false c2
      clear c2
      obtain rfl := Option.some.inj H
      go_wp2
      go_ret
      exact ⟨by first | rfl | (simp; done) | (simp [*]; done), by repeat (first | exact Drawn0.refl _ | apply Drawn0.step)⟩

end Go.Proofs.YtnngbhdofgodiaaGreatDoor.Z
end

section
-- Printed by a program of this session (mp.py) out of the translation.
namespace Go.Proofs.YtnngbhdofgodiaaGreatDoor.Z
open Go.RowKit Go.Proofs.YtnngbhdofgodiaaGreatDoorW.PrintWords Go.Proofs.YtnngbhdofgodiaaGreatDoorW.PrintLast Go.Proofs.YtnngbhdofgodiaaGreatDoorW.PrintMore
attribute [local go_sem] max2_int min2_int max_two min_two max_three min_three max_four min_four   -- for this text's walks alone
set_option linter.unusedVariables false
set_option linter.unusedSimpArgs false

/-! ### item_CheckChanges: function 19 -/
def item_CheckChanges.l0 : Nat → List (S43) → Int → Int → Option (Int)
  | 0, _, _, _ => none
  | k + 1, x5, x6, x7 => if x7 < x6 then (if 0 ≤ x7 then (if x7 < (x5.length : Int) then ((item_right.f ((rd_T43 x5 x7).f0) ((rd_T43 x5 x7).f2)).bind fun t210 => (if t210 = true then (if ((rd_T43 x5 x7).f1 = true) then (item_CheckChanges.l0 k x5 x6 (wrap64 (x7 + 1))) else (if ((rd_T43 x5 x7).f2).toList = ([] : List UInt8) then (item_CheckChanges.l0 k x5 x6 (wrap64 (x7 + 1))) else (some 4))) else (some 4))) else (none)) else (none)) else (some 0)
def item_CheckChanges.f (k : Nat) (l0 : List (S43)) : Option (Int) := item_CheckChanges.l0 k l0 (l0.length : Int) 0
theorem item_CheckChanges.mono_l : ∀ k, (∀ y0 y1 y2, LeO (item_CheckChanges.l0 k y0 y1 y2) (item_CheckChanges.l0 (k + 1) y0 y1 y2))
  | 0 => fun _ _ _ r h => by simp [item_CheckChanges.l0] at h
  | k + 1 => by
    have ih0 := item_CheckChanges.mono_l k
    · intro y0 y1 y2
      unfold item_CheckChanges.l0
      repeat' first
      | (with_reducible exact ih0 _ _ _)
      | (with_reducible exact LeO.refl _)
      | (with_reducible exact LeO.none _)
      | (with_reducible refine LeO.ite ?_ ?_)
      | (with_reducible refine LeO.bind ?_ (fun _ => ?_))
      | exact ih0 _ _ _
      | exact LeO.none _
      | refine LeO.ite ?_ ?_
      | refine LeO.bind ?_ (fun _ => ?_)
theorem item_CheckChanges.mono : ∀ a0 k, LeO (item_CheckChanges.f k a0) (item_CheckChanges.f (k + 1) a0) := by
  intro a0 k
  have ih0 := item_CheckChanges.mono_l k
  unfold item_CheckChanges.f
  repeat' first
      | (with_reducible exact ih0 _ _ _)
      | (with_reducible exact LeO.refl _)
      | (with_reducible exact LeO.none _)
      | (with_reducible refine LeO.ite ?_ ?_)
      | (with_reducible refine LeO.bind ?_ (fun _ => ?_))
      | exact ih0 _ _ _
      | exact LeO.none _
      | refine LeO.ite ?_ ?_
      | refine LeO.bind ?_ (fun _ => ?_)
set_option maxHeartbeats 8000000 in
set_option maxRecDepth 100000 in
theorem item_CheckChanges.calls (k : Nat) (A0 : Option Addr) (c0 : Nat) (l0 : List (S43)) (r : Int) (w : World) (hr0 : Kd.C k43 w A0 l0.length l0) (hc0 : l0.length ≤ c0) (h : item_CheckChanges.f k l0 = some r) :
    Calls Tryz.prog 19 #[.slice A0 l0.length c0] w fun e w' => e = .returned (.int .i64 r) ∧ Below w.heap.size w w' := by
  have hu43 := Tryz.underlying43
  have HR0 := Aside0.mk hr0
  have HC0 := Aside0.mk hc0
  clear hr0 hc0
  have HB := Aside0.mk (Below.refl w.heap.size w)
  have H : (item_CheckChanges.l0 k l0 (l0.length : Int) 0) = some r := h
  clear h
  have H' := Aside0.mk H
  clear H
  go_enter Tryz.func19, Tryz.ntmps19
  go_wp2
  go_loopg [7] k (fun kq v7 w' => ∃ (x7_1 : Int), v7 = .int .i64 x7_1 ∧ Aside0 (item_CheckChanges.l0 kq l0 (l0.length : Int) x7_1 = some r) ∧ Aside0 (kq ≤ k) ∧ Aside0 (Below w.heap.size w w'))
  case atStart => exact ⟨(0), (by first | rfl | (simp; done) | (simp [*]; done)), H', ⟨Nat.le_refl _⟩, ⟨bel_⟩⟩
  case round =>
    clear H'
    try clear c1
    obtain ⟨x7_1, rfl, HA, HK1, HB⟩ := hrel
    cases gk with
    | zero => exact absurd HA.out (by simp [item_CheckChanges.l0])
    | succ k1 =>
      have H := HA.out
      clear HA
      simp only [item_CheckChanges.l0] at H
      by_cases c2 : x7_1 < (l0.length : Int)
      · rw [if_pos c2] at H
        have c2b0 : decide (x7_1 < (l0.length : Int)) = true := decide_eq_true c2
        clear c2
        by_cases c3 : 0 ≤ x7_1
        · rw [if_pos c3] at H
          have c3b0 : decide (0 ≤ x7_1) = true := decide_eq_true c3
          clear c3
          by_cases c4 : x7_1 < (l0.length : Int)
          · rw [if_pos c4] at H
            have c4b0 : decide (x7_1 < (l0.length : Int)) = true := decide_eq_true c4
            clear c4
            replace H := Option.bind_eq_some_iff.mp H
            obtain ⟨t210, A50, H⟩ := H
            replace H : (if t210 = true then (if ((rd_T43 l0 x7_1).f1 = true) then (item_CheckChanges.l0 k1 l0 (l0.length : Int) (wrap64 (x7_1 + 1))) else (if ((rd_T43 l0 x7_1).f2).toList = ([] : List UInt8) then (item_CheckChanges.l0 k1 l0 (l0.length : Int) (wrap64 (x7_1 + 1))) else (some 4))) else (some 4)) = some r := H
            have A5 := Aside0.mk A50
            clear A50
            by_cases c6 : t210 = true
            · subst c6
              have H1 : (if ((rd_T43 l0 x7_1).f1 = true) then (item_CheckChanges.l0 k1 l0 (l0.length : Int) (wrap64 (x7_1 + 1))) else (if ((rd_T43 l0 x7_1).f2).toList = ([] : List UInt8) then (item_CheckChanges.l0 k1 l0 (l0.length : Int) (wrap64 (x7_1 + 1))) else (some 4))) = some r := by rw [if_pos rfl] at H; exact H
              clear H
              have H := H1
              clear H1
              obtain ⟨bq7, hbq7⟩ : ∃ b_ : Bool, b_ = ((rd_T43 l0 x7_1).f1) := ⟨_, rfl⟩
              replace H : (if (bq7 = true) then (item_CheckChanges.l0 k1 l0 (l0.length : Int) (wrap64 (x7_1 + 1))) else (if ((rd_T43 l0 x7_1).f2).toList = ([] : List UInt8) then (item_CheckChanges.l0 k1 l0 (l0.length : Int) (wrap64 (x7_1 + 1))) else (some 4))) = some r := by rw [← hbq7] at H; exact H
              have Nbq7 := Aside0.mk hbq7
              clear hbq7
              by_cases c8 : (bq7 = true)
              · subst c8
                have H1 : (item_CheckChanges.l0 k1 l0 (l0.length : Int) (wrap64 (x7_1 + 1))) = some r := by rw [if_pos rfl] at H; exact H
                clear H
                have H := H1
                clear H1
                have H' := Aside0.mk H
                clear H
                have p208 : 0 ≤ (x7_1 : Int) := of_decide_eq_true (by first | (with_reducible assumption) | assumption)
                have q208 : x7_1 < (l0.length : Int) := of_decide_eq_true (by first | (with_reducible assumption) | assumption)
                obtain ⟨ad208, e208, hx208_0, hx208_1, hx208_2⟩ := at_T43 HR0.out x7_1 p208 q208
                (try rw [← Nbq7.out] at hx208_1)
                cases e208
                replace hx208_0 := (HB.out.cell (World.block_lt_of_cell? w _ hx208_0)).trans hx208_0
                replace hx208_1 := (HB.out.cell (World.block_lt_of_cell? w _ hx208_1)).trans hx208_1
                replace hx208_2 := (HB.out.cell (World.block_lt_of_cell? w _ hx208_2)).trans hx208_2
                replace p208 := eq_true p208
                replace q208 := eq_true q208
                go_wp2_with (first | ((with_reducible refine gate_dst (N := 4) rfl ?_); refine bx_ (N := 4) (cs := #[.string (⟨#[]⟩ : ByteArray), .bool false, .string (⟨#[]⟩ : ByteArray)]) (t := 43) ?_; intro gb209 hg w9 hbox hb; have BK209 := Aside0.mk (hbox); have GW209 := ge_ hg; have GE209 := ge_ hg; replace HB := hb_ hb; clear hb hbox hg; obtain ⟨hcz10_0, hcz10_1, hcz10_2⟩ := cl3_ BK209; obtain ⟨hfz10_0, hfz10_1, hfz10_2⟩ := fz3_ BK209) | ((with_reducible refine gate_callee (f := 34) rfl ?_); refine gl_ (some 15) Tryz.func34 #[.string ((rd_T43 l0 x7_1).f0), .string ((rd_T43 l0 x7_1).f2)] ?_; (with_reducible refine (item_right.calls ((rd_T43 l0 x7_1).f0) ((rd_T43 l0 x7_1).f2) true _ A5.out).mono ?_); rintro e w' ⟨rfl, ⟨nd, rfl⟩⟩; refine ⟨_, rfl, ?_⟩))
                go_roundg k1
                case measure => have := HK1.out; omega
                case rel => exact ⟨(wrap64 (x7_1 + 1)), (by first | rfl | (simp; done) | (simp [*]; done)), H', ⟨by have := HK1.out; omega⟩, ⟨bel_⟩⟩
              replace c8 := Bool.eq_false_iff.mpr c8
              subst c8
              have H1 : (if ((rd_T43 l0 x7_1).f2).toList = ([] : List UInt8) then (item_CheckChanges.l0 k1 l0 (l0.length : Int) (wrap64 (x7_1 + 1))) else (some 4)) = some r := by rw [if_neg (show ¬ (false = true) by decide)] at H; exact H
              clear H
              have H := H1
              clear H1
              by_cases c11 : ((rd_T43 l0 x7_1).f2).toList = ([] : List UInt8)
              · rw [if_pos c11] at H
                have c11b0 : (((rd_T43 l0 x7_1).f2).toList == ([] : List UInt8)) = true := beq_iff_eq.mpr c11
                have c11b1 : (((rd_T43 l0 x7_1).f2).toList != ([] : List UInt8)) = false := bne_eq_false_iff_eq.mpr c11
                clear c11
                have H' := Aside0.mk H
                clear H
                have p208 : 0 ≤ (x7_1 : Int) := of_decide_eq_true (by first | (with_reducible assumption) | assumption)
                have q208 : x7_1 < (l0.length : Int) := of_decide_eq_true (by first | (with_reducible assumption) | assumption)
                obtain ⟨ad208, e208, hx208_0, hx208_1, hx208_2⟩ := at_T43 HR0.out x7_1 p208 q208
                (try rw [← Nbq7.out] at hx208_1)
                cases e208
                replace hx208_0 := (HB.out.cell (World.block_lt_of_cell? w _ hx208_0)).trans hx208_0
                replace hx208_1 := (HB.out.cell (World.block_lt_of_cell? w _ hx208_1)).trans hx208_1
                replace hx208_2 := (HB.out.cell (World.block_lt_of_cell? w _ hx208_2)).trans hx208_2
                replace p208 := eq_true p208
                replace q208 := eq_true q208
                go_wp2_with (first | ((with_reducible refine gate_dst (N := 4) rfl ?_); refine bx_ (N := 4) (cs := #[.string (⟨#[]⟩ : ByteArray), .bool false, .string (⟨#[]⟩ : ByteArray)]) (t := 43) ?_; intro gb209 hg w12 hbox hb; have BK209 := Aside0.mk (hbox); have GW209 := ge_ hg; have GE209 := ge_ hg; replace HB := hb_ hb; clear hb hbox hg; obtain ⟨hcz13_0, hcz13_1, hcz13_2⟩ := cl3_ BK209; obtain ⟨hfz13_0, hfz13_1, hfz13_2⟩ := fz3_ BK209) | ((with_reducible refine gate_callee (f := 34) rfl ?_); refine gl_ (some 15) Tryz.func34 #[.string ((rd_T43 l0 x7_1).f0), .string ((rd_T43 l0 x7_1).f2)] ?_; (with_reducible refine (item_right.calls ((rd_T43 l0 x7_1).f0) ((rd_T43 l0 x7_1).f2) true _ A5.out).mono ?_); rintro e w' ⟨rfl, ⟨nd, rfl⟩⟩; refine ⟨_, rfl, ?_⟩))
                go_roundg k1
                case measure => have := HK1.out; omega
                case rel => exact ⟨(wrap64 (x7_1 + 1)), (by first | rfl | (simp; done) | (simp [*]; done)), H', ⟨by have := HK1.out; omega⟩, ⟨bel_⟩⟩
              rw [if_neg c11] at H
              have c11b0 : (((rd_T43 l0 x7_1).f2).toList == ([] : List UInt8)) = false := beq_eq_false_iff_ne.mpr c11
              have c11b1 : (((rd_T43 l0 x7_1).f2).toList != ([] : List UInt8)) = true := bne_iff_ne.mpr c11
              obtain rfl := Option.some.inj H
              have p208 : 0 ≤ (x7_1 : Int) := of_decide_eq_true (by first | (with_reducible assumption) | assumption)
              have q208 : x7_1 < (l0.length : Int) := of_decide_eq_true (by first | (with_reducible assumption) | assumption)
              obtain ⟨ad208, e208, hx208_0, hx208_1, hx208_2⟩ := at_T43 HR0.out x7_1 p208 q208
              (try rw [← Nbq7.out] at hx208_1)
              cases e208
              replace hx208_0 := (HB.out.cell (World.block_lt_of_cell? w _ hx208_0)).trans hx208_0
              replace hx208_1 := (HB.out.cell (World.block_lt_of_cell? w _ hx208_1)).trans hx208_1
              replace hx208_2 := (HB.out.cell (World.block_lt_of_cell? w _ hx208_2)).trans hx208_2
              replace p208 := eq_true p208
              replace q208 := eq_true q208
              go_wp2_with (first | ((with_reducible refine gate_dst (N := 4) rfl ?_); refine bx_ (N := 4) (cs := #[.string (⟨#[]⟩ : ByteArray), .bool false, .string (⟨#[]⟩ : ByteArray)]) (t := 43) ?_; intro gb209 hg w14 hbox hb; have BK209 := Aside0.mk (hbox); have GW209 := ge_ hg; have GE209 := ge_ hg; replace HB := hb_ hb; clear hb hbox hg; obtain ⟨hcz15_0, hcz15_1, hcz15_2⟩ := cl3_ BK209; obtain ⟨hfz15_0, hfz15_1, hfz15_2⟩ := fz3_ BK209) | ((with_reducible refine gate_callee (f := 34) rfl ?_); refine gl_ (some 15) Tryz.func34 #[.string ((rd_T43 l0 x7_1).f0), .string ((rd_T43 l0 x7_1).f2)] ?_; (with_reducible refine (item_right.calls ((rd_T43 l0 x7_1).f0) ((rd_T43 l0 x7_1).f2) true _ A5.out).mono ?_); rintro e w' ⟨rfl, ⟨nd, rfl⟩⟩; refine ⟨_, rfl, ?_⟩))
              go_ret
              exact ⟨by first | rfl | (simp [errW_none, errW_some] <;> rfl) | (simp [*, errW_none, errW_some] <;> rfl), bel_⟩
            replace c6 := Bool.eq_false_iff.mpr c6
            subst c6
            have H1 : (some 4) = some r := by rw [if_neg (show ¬ (false = true) by decide)] at H; exact H
            clear H
            have H := H1
            clear H1
            obtain rfl := Option.some.inj H
            have p208 : 0 ≤ (x7_1 : Int) := of_decide_eq_true (by first | (with_reducible assumption) | assumption)
            have q208 : x7_1 < (l0.length : Int) := of_decide_eq_true (by first | (with_reducible assumption) | assumption)
            obtain ⟨ad208, e208, hx208_0, hx208_1, hx208_2⟩ := at_T43 HR0.out x7_1 p208 q208
            cases e208
            replace hx208_0 := (HB.out.cell (World.block_lt_of_cell? w _ hx208_0)).trans hx208_0
            replace hx208_1 := (HB.out.cell (World.block_lt_of_cell? w _ hx208_1)).trans hx208_1
            replace hx208_2 := (HB.out.cell (World.block_lt_of_cell? w _ hx208_2)).trans hx208_2
            replace p208 := eq_true p208
            replace q208 := eq_true q208
            go_wp2_with (first | ((with_reducible refine gate_dst (N := 4) rfl ?_); refine bx_ (N := 4) (cs := #[.string (⟨#[]⟩ : ByteArray), .bool false, .string (⟨#[]⟩ : ByteArray)]) (t := 43) ?_; intro gb209 hg w16 hbox hb; have BK209 := Aside0.mk (hbox); have GW209 := ge_ hg; have GE209 := ge_ hg; replace HB := hb_ hb; clear hb hbox hg; obtain ⟨hcz17_0, hcz17_1, hcz17_2⟩ := cl3_ BK209; obtain ⟨hfz17_0, hfz17_1, hfz17_2⟩ := fz3_ BK209) | ((with_reducible refine gate_callee (f := 34) rfl ?_); refine gl_ (some 15) Tryz.func34 #[.string ((rd_T43 l0 x7_1).f0), .string ((rd_T43 l0 x7_1).f2)] ?_; (with_reducible refine (item_right.calls ((rd_T43 l0 x7_1).f0) ((rd_T43 l0 x7_1).f2) false _ A5.out).mono ?_); rintro e w' ⟨rfl, ⟨nd, rfl⟩⟩; refine ⟨_, rfl, ?_⟩))
            go_ret
            exact ⟨by first | rfl | (simp [errW_none, errW_some] <;> rfl) | (simp [*, errW_none, errW_some] <;> rfl), bel_⟩
          rw [if_neg c4] at H
          exact absurd H (by simp)
        rw [if_neg c3] at H
        exact absurd H (by simp)
      rw [if_neg c2] at H
      have c2b0 : decide (x7_1 < (l0.length : Int)) = false := decide_eq_false c2
      clear c2
      obtain rfl := Option.some.inj H
      go_wp2
      go_ret
      exact ⟨by first | rfl | (simp [errW_none, errW_some] <;> rfl) | (simp [*, errW_none, errW_some] <;> rfl), bel_⟩

end Go.Proofs.YtnngbhdofgodiaaGreatDoor.Z
end
