/- What a reading of an argument as data gives a contract: the values of a kind (Kd), well formed, and their bulk. -/
import Derived.Test.YtjemaajliodmhaaRows
import Derived.Test.YtjemaajliodmhaaZ0
import Derived.Test.YtjemaajliodmhaaHBase
import Derived.Lib.SmallJoins
import Derived.Deep.Strs
import Derived.SizedLaws
import Derived.ChangeArms
namespace Go.Proofs.Ytjemaajliodmhaa.Z
open Go.ChangeShapes Go.WideShapes Go.ChangeAt Go.RowKit Go.Deep Go.Proofs.YtjemaajliodmhaaW.PrintWords Go.Proofs.YtjemaajliodmhaaW.PrintLast
set_option linter.unusedVariables false
/-- Every reading of type t's cells is one of d, is G, and is of bulk B at least. -/
def Opens {α : Type} (P : Program) (t : TypeId) (d : Kd α) (G : α → Prop) (B : α → Nat) : Prop :=
  d.sz = P.cellsOf t ∧ ∀ {H : Type} {enc : TypeId × Value → H} {w : World} {base : Nat} {spare : Nat → Bool} {held : Bool} {fuel : Nat} {cs : List Value} {x : DataW H × List MemPlace},
    DataW.trod enc P w base spare held fuel t cs = some x → ∃ a, d.K w a cs ∧ G a ∧ B a ≤ Rows.uptoBulk x.1
theorem Opens.bool {P : Program} {t : TypeId} (ht : P.underlying t = some .bool) (hc : P.cellsOf t = 1) : Opens P t Kd.bool (fun _ => True) (fun _ => 1) := by
  refine ⟨hc.symm, fun h => ?_⟩
  obtain ⟨b, rfl, rfl⟩ := DataW.trod_bool ht h
  exact ⟨b, rfl, trivial, by simp [Rows.uptoBulk]⟩
theorem Opens.int {P : Program} {t : TypeId} {k : IntKind} (ht : P.underlying t = some (.int k)) (hc : P.cellsOf t = 1) : Opens P t (Kd.int k) (fun n => (Lit.int k n).wf = true) (fun _ => 1) := by
  refine ⟨hc.symm, fun h => ?_⟩
  obtain ⟨b, rfl, rfl, hw⟩ := DataW.trod_int ht h
  exact ⟨b, rfl, hw, by simp [Rows.uptoBulk]⟩
theorem Opens.string {P : Program} {t : TypeId} (ht : P.underlying t = some .string) (hc : P.cellsOf t = 1) : Opens P t Kd.string (fun s => s.size ≤ maxLen) (fun s => s.size + 1) := by
  refine ⟨hc.symm, fun h => ?_⟩
  obtain ⟨b, rfl, rfl, hw⟩ := DataW.trod_string ht h
  exact ⟨b, rfl, hw, by simp [Rows.uptoBulk]⟩
theorem bulk_len {H : Type} (l : List (DataW H)) {α : Type} {B : α → Nat} (xs : List α) (hl : xs.length = l.length) (h : ∀ (i : Nat) (a : α) (y : DataW H), xs[i]? = some a → l[i]? = some y → B a ≤ Rows.uptoBulk y) : (xs.map B).sum ≤ Rows.uptoBulkAll l := by
  induction l generalizing xs with
  | nil => have : xs = [] := List.eq_nil_of_length_eq_zero hl; subst this; simp [Rows.uptoBulkAll]
  | cons y l ih =>
    cases xs with
    | nil => simp at hl
    | cons a xs =>
      simp only [List.map_cons, List.sum_cons, Rows.uptoBulkAll]
      have h0 := h 0 a y rfl rfl
      have h1 := ih xs (by simpa using hl) (fun i a y ha hy => h (i + 1) a y (by simpa using ha) (by simpa using hy))
      omega
theorem list_of_each {α : Type} (p : Nat → α → Prop) : ∀ n : Nat, (∀ i, i < n → ∃ a, p i a) → ∃ l : List α, l.length = n ∧ ∀ i a, l[i]? = some a → p i a
  | 0, _ => ⟨[], rfl, fun i a h => by simp at h⟩
  | n + 1, h => by
    obtain ⟨l, hl, hp⟩ := list_of_each p n (fun i hi => h i (by omega))
    obtain ⟨a, ha⟩ := h n (by omega)
    refine ⟨l ++ [a], by simp [hl], fun i b hb => ?_⟩
    rcases Nat.lt_or_ge i l.length with hi | hi
    · rw [List.getElem?_append_left hi] at hb; exact hp i b hb
    · have hi2 : i = l.length := by
        have := (List.getElem?_eq_some_iff.1 hb).1
        simp at this; omega
      subst hi2
      have hb2 : a = b := by simpa using hb
      subst hb2
      rw [hl]; exact ha
/-- A slice, opened. -/
theorem Opens.row {α : Type} {P : Program} {t e : TypeId} {d : Kd α} {G : α → Prop} {B : α → Nat} (ht : P.underlying t = some (.slice e)) (hO : Opens P e d G B) (hpos : 0 < P.cellsOf e)
    {H : Type} {enc : TypeId × Value → H} {w : World} {base : Nat} {spare : Nat → Bool} {held : Bool} {fuel : Nat} {cs : List Value} {x : DataW H × List MemPlace} (h : DataW.trod enc P w base spare held fuel t cs = some x) :
    ∃ (A : Option Addr) (c : Nat) (l : List α), cs = [.slice A l.length c] ∧ l.length ≤ c ∧ c ≤ maxLen ∧ Kd.C d w A l.length l ∧ (∀ a ∈ l, G a) ∧ (l.map B).sum + 1 ≤ Rows.uptoBulk x.1 ∧ (x.1 = .nil ∧ l = [] ∨ ∃ el sp, x.1 = .slice el sp ∧ el.length = l.length) := by
  rcases DataW.trod_slice ht h with ⟨rfl, rfl⟩ | ⟨a, len, cap, elems, rest, n, _, rfl, rfl, hb, hl, hm, hlen, hel, _, _⟩
  · exact ⟨none, 0, [], rfl, Nat.le_refl _, Nat.zero_le _, Kd.C_nil _ _, by simp, by simp [Rows.uptoBulk], Or.inl ⟨rfl, rfl⟩⟩
  · have each : ∀ i, i < len → ∃ a' : α, ∃ cs' y, w.cells? base (a.add (i * P.cellsOf e)) (P.cellsOf e) = some cs' ∧ elems[i]? = some y ∧ d.K w a' cs' ∧ G a' ∧ B a' ≤ Rows.uptoBulk y.1 := by
      intro i hi
      have h1 := hel i hi
      obtain ⟨y, hy⟩ : ∃ y, elems[i]? = some y := ⟨elems[i]'(by omega), List.getElem?_eq_getElem (by omega)⟩
      rw [hy, Option.bind_eq_some_iff] at h1
      obtain ⟨cs', hcs, htr⟩ := h1
      obtain ⟨a', hK, hG, hB⟩ := hO.2 htr
      exact ⟨a', cs', y, hcs, hy, hK, hG, hB⟩
    obtain ⟨l, hll, hp⟩ := list_of_each _ len each
    subst hll
    refine ⟨some a, cap, l, rfl, hl, hm, ⟨rfl, by unfold maxLen at hm; omega, fun _ => ⟨a, rfl, fun j p hj => ?_⟩⟩, ?_, ?_, Or.inr ⟨_, _, rfl, by simpa using hlen⟩⟩
    · obtain ⟨cs', y, hcs, _, hK, _, _⟩ := hp j p hj
      obtain ⟨_, hln, hc⟩ := World.cells?_some hcs
      refine ⟨cs', by rw [hln, hO.1], hK, fun i u hu => ?_⟩
      have hi : i < P.cellsOf e := by rw [← hln]; exact (List.getElem?_eq_some_iff.1 hu).1
      have := hc i hi
      rw [hu] at this
      rw [hO.1, ← this]
      congr 1
      have hs : a.spot = none := by
        have h0 := hc 0 hpos
        rw [List.getElem?_eq_getElem (by omega)] at h0
        cases hsp : a.spot with
        | none => rfl
        | some s =>
          rcases Nat.eq_zero_or_pos (j * P.cellsOf e) with hz | hz
          · rw [hz] at h0
            have : w.cell? a = some _ := h0
            unfold World.cell? at this
            rw [hsp] at this
            split at this <;> simp at this
          · have hl0 : 0 < l.length := by have := (List.getElem?_eq_some_iff.1 hj).1; omega
            obtain ⟨p0, hp0⟩ : ∃ p0, l[0]? = some p0 := ⟨l[0], List.getElem?_eq_getElem hl0⟩
            obtain ⟨cs0, y0, hcs0, _, _, _, _⟩ := hp 0 p0 hp0
            obtain ⟨_, hln0, hc0⟩ := World.cells?_some hcs0
            have h00 := hc0 0 hpos
            rw [List.getElem?_eq_getElem (by omega), Nat.zero_mul] at h00
            have : w.cell? a = some _ := h00
            unfold World.cell? at this
            rw [hsp] at this
            split at this <;> simp at this
      obtain ⟨b, o, s⟩ := a
      simp only at hs
      subst hs
      rw [add_at, add_at, add_at, Nat.add_assoc]
    · intro b hb
      obtain ⟨i, hi⟩ := List.getElem?_of_mem hb
      exact (hp i b hi).choose_spec.choose_spec.2.2.2.1
    · simp only [Rows.uptoBulk]
      have := bulk_len (elems.map (·.1)) (B := B) l (by simp [hlen]) (fun i b y hb hy => by
        obtain ⟨cs', y', _, hy', _, _, hB⟩ := hp i b hb
        rw [List.getElem?_map, hy'] at hy
        simp at hy
        subst hy
        exact hB)
      omega
/-- A struct of fields of one cell: each field's cell and reading. -/
theorem flat_fields {P : Program} {t : TypeId} {fs : Array Field} (ht : P.underlying t = some (.struct fs)) (hone : oneCellFields P fs = true) (hC : P.cellsOf t = fs.size)
    {H : Type} {enc : TypeId × Value → H} {w : World} {base : Nat} {spare : Nat → Bool} {held : Bool} {fuel : Nat} {cs : List Value} {x : DataW H × List MemPlace} (h : DataW.trod enc P w base spare held fuel t cs = some x) :
    ∃ (ys : List (DataW H × List MemPlace)) (n : Nat), cs.length = fs.size ∧ ys.length = fs.size ∧ x.1 = .agg (ys.map (·.1)) ∧ ∀ (i : Nat) (f : Field) (c : Value), fs[i]? = some f → cs[i]? = some c → DataW.trod enc P w base spare held n f.type [c] = ys[i]? := by
  obtain ⟨xs, n, _, rfl, hl, hlen, hf⟩ := DataW.trod_struct ht h
  refine ⟨xs, n, hl.trans hC, hlen, rfl, fun i f c hfi hc => ?_⟩
  have h1 := hf i f hfi
  obtain ⟨o0, k0⟩ := hone_of hone i f hfi
  rw [o0, k0] at h1
  rw [← h1]
  congr 1
  have hi := (List.getElem?_eq_some_iff.1 hc).1
  rw [List.drop_eq_getElem_cons hi, List.take_succ_cons, List.take_zero]
  rw [List.getElem?_eq_getElem hi] at hc
  simp at hc
  rw [hc]
/-- A slice among the arguments: its length, by the form's reach. -/
theorem sized_row {H : Type} {P : Program} {ts : List TypeId} {ds : List (DataW H)} {j : Nat} {t e : TypeId} {d : DataW H} {α : Type} {l : List α}
    (hsz : (DataW.weightsEach P ts ds).all (· ≤ reachBytes) = true) (ht : ts[j]? = some t) (hd : ds[j]? = some d) (hu : P.underlying t = some (.slice e)) {b : Nat} (hb : P.bytesOf e = b)
    (hx : d = .nil ∧ l = [] ∨ ∃ el sp, d = .slice el sp ∧ el.length = l.length) : l.length * b ≤ 140737488351232 := by
  rcases hx with ⟨_, rfl⟩ | ⟨el, sp, rfl, hl⟩
  · simp
  · have := sized_slice hsz ht hd hu
    rw [hb, hl] at this
    exact Nat.le_trans (Nat.mul_le_mul_right _ (Nat.le_add_right _ _)) this
theorem string_len {s : ByteArray} : s.data.toList.length = s.size := by rw [Array.length_toList]; rfl
end Go.Proofs.Ytjemaajliodmhaa.Z
