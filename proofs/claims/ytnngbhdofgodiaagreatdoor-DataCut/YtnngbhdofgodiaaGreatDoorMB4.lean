/- This session's own texts, laid together (a part that several claims share). -/
import Derived.Test.YtnngbhdofgodiaaGreatDoorMB3
import Derived.Test.YtnngbhdofgodiaaGreatDoorMB1
import Derived.Test.YtnngbhdofgodiaaGreatDoorMB2
import Derived.DataShut
import Derived.Test.YtnngbhdofgodiaaGreatDoorRows
import Derived.Lib.SmallJoins
import Derived.Deep.Strs
import Derived.SizedLaws
import Derived.ChangeArms
section
/- What Read, Write and Cut come to. -/
namespace Go.Proofs.YtnngbhdofgodiaaGreatDoor.Z
open Go.RowKit Go.Proofs.YtnngbhdofgodiaaGreatDoorW.PrintWords Go.Proofs.YtnngbhdofgodiaaGreatDoorW.PrintLast Go.Proofs.YtnngbhdofgodiaaGreatDoorW.PrintMore Go.Proofs.YtnngbhdofgodiaaGreatDoor.PM
set_option linter.unusedVariables false
set_option linter.unusedSimpArgs false
theorem chunk_slice (f : Nat → UInt8) (c p q : Nat) (h1 : 128 * c ≤ p) (h2 : p ≤ q) (h3 : q ≤ 128 * c + 128) : ((chunkF f c).drop (p - 128 * c)).take (q - 128 * c - (p - 128 * c)) = (List.range' p (q - p)).map f := by
  refine List.ext_getElem? (fun i => ?_)
  rw [List.getElem?_take, List.getElem?_map]
  rcases Nat.lt_or_ge i (q - p) with h | h
  · rw [if_pos (by omega), List.getElem?_drop, chunkF_get _ _ _ (by omega), List.getElem?_range' h]
    simp only [Option.map_some]
    congr 2
    omega
  · rw [if_neg (by omega), List.getElem?_eq_none (by rw [List.length_range']; exact h)]
    rfl
theorem readL_f {l : List It} (ha : Asc l) {ino : Int} (hi : 0 < ino ∧ ino < 4294967296) (e : Nat) (he : e ≤ 65536) : ∀ (n p c : Nat) (acc : List UInt8), (p = e ∨ p < e ∧ c = p / 128) → e + 128 ≤ 128 * (c + n) → 128 * c < e + 128 → acc.length ≤ p →
    Ev (fun k => readL k ino (own l ino) (e : Int) n (p : Int) (c : Int) acc) (acc ++ (List.range' p (e - p)).map (byteD l ino)) := by
  intro n
  induction n with
  | zero => intro p c acc _ h1 h2 _; omega
  | succ n ih =>
    intro p c acc hpc h1 h2 hacc
    refine Ev.congr (fun k => by rw [readL]) ?_
    by_cases hp : p < e
    · have hc : c = p / 128 := by omega
      refine Ev.ifn (by omega) (Ev.bind (bytesF_f ha hi (c := c) (by omega)) (Ev.ifp ⟨by omega, by omega, by omega, by omega, by omega, by omega⟩ ?_))
      rw [show min (e : Int) (((c : Int) + 1) * 128) = ((min e ((c + 1) * 128) : Nat) : Int) by omega, show (c : Int) + 1 = ((c + 1 : Nat) : Int) by omega]
      obtain ⟨q, hq⟩ : ∃ q, q = min e ((c + 1) * 128) := ⟨_, rfl⟩
      rw [← hq, show ((p : Int) - (c : Int) * 128).toNat = p - 128 * c by omega, show ((q : Int) - (c : Int) * 128).toNat = q - 128 * c by omega, chunk_slice _ c p q (by omega) (by omega) (by omega)]
      refine Ev.val (ih q (c + 1) _ (by omega) (by omega) (by omega) (by rw [List.length_append, List.length_map, List.length_range']; omega)) ?_
      rw [List.append_assoc, ← List.map_append]
      have hr := List.range'_append_1 (s := p) (m := q - p) (n := e - q)
      rw [show p + (q - p) = q by omega] at hr
      rw [hr, show q - p + (e - q) = e - p by omega]
    · refine Ev.ifp (by omega) (Ev.const ?_)
      rw [show e - p = 0 by omega]
      simp
def readS (l : List It) (ino len off n : Int) : ByteArray × Int := if okL l = true then (if ino = 0 ∨ len > 65536 then (⟨#[]⟩, 1) else (ba ((List.range' off.toNat ((min len (off + n)).toNat - off.toNat)).map (byteD l ino)), 0)) else (⟨#[]⟩, 4)
theorem data_Read_f (l : List It) (hl : l.length ≤ 4398046511104) {ino len off n : Int} (hi : 0 ≤ ino ∧ ino < 4294967296) (hlen : 0 ≤ len) (ho : 0 ≤ off ∧ off < 4294967296) (hn : 0 ≤ n ∧ n < 4294967296) :
    Ev (fun k => data_Read.f k l ino len off n) (readS l ino len off n) := by
  unfold data_Read.f
  refine Ev.ifp ⟨hlen, ho.1, ho.2, hn.1, hn.2⟩ (Ev.bind (openF_f l hl hi) ?_)
  unfold opnS readS
  by_cases hk : okL l = true
  · rw [if_pos hk, if_pos hk]
    have ha := ((okL_iff l).1 hk).2
    by_cases h0 : ino = 0
    · rw [if_pos h0, if_pos (.inl h0)]
      have e : rck 1 len = 1 := if_neg (fun h => by have := h.1; omega)
      refine Ev.ifn (by simp only; rw [e]; decide) (Ev.const ?_)
      simp only
      rw [e]
    · rw [if_neg h0]
      by_cases h1 : len > 65536
      · rw [if_pos (.inr h1)]
        have e : rck 0 len = 1 := if_pos ⟨rfl, h1⟩
        refine Ev.ifn (by simp only; rw [e]; decide) (Ev.const ?_)
        simp only
        rw [e]
      · rw [if_neg (fun h => h.elim h0 h1)]
        have e : rck 0 len = 0 := if_neg (fun h => h1 h.2)
        refine Ev.ifp e ?_
        obtain ⟨E, hE⟩ : ∃ E : Nat, E = (min len (off + n)).toNat := ⟨_, rfl⟩
        obtain ⟨p, hp⟩ : ∃ p : Nat, p = off.toNat := ⟨_, rfl⟩
        rw [← hE, ← hp, show min len (off + n) = (E : Int) by omega, show off = (p : Int) by omega, show (p : Int) / 128 = ((p / 128 : Nat) : Int) by omega]
        by_cases hpe : p < E
        · refine Ev.bind (readL_f ha ⟨by omega, hi.2⟩ E (by omega) 600 p (p / 128) [] (.inr ⟨hpe, rfl⟩) (by omega) (by omega) (by simp)) (Ev.const ?_)
          rw [List.nil_append]
          rfl
        · refine Ev.bind (Ev.congr (fun k => by rw [readL]) (Ev.ifp (by omega) (Ev.const rfl))) (Ev.const ?_)
          rw [show E - p = 0 by omega]
          rfl
  · rw [if_neg hk, if_neg hk]
    have e : rck 4 len = 4 := if_neg (fun h => by have := h.1; omega)
    refine Ev.ifn (by simp only; rw [e]; decide) (Ev.const ?_)
    simp only
    rw [e]
/-! ### Write -/
/-- The chunks that n bytes at p touch. -/
def js (p n : Nat) : List Nat := if n = 0 then [] else List.range' (p / 128) ((p + n - 1) / 128 - p / 128 + 1)
theorem js_mem (p n j : Nat) : j ∈ js p n ↔ ∃ q, p ≤ q ∧ q < p + n ∧ q / 128 = j := by
  unfold js
  by_cases h : n = 0
  · rw [if_pos h]
    constructor
    · intro h; cases h
    · rintro ⟨q, h1, h2, _⟩; omega
  · rw [if_neg h, List.mem_range'_1]
    constructor
    · intro hj
      by_cases h1 : 128 * j ≤ p
      · exact ⟨p, by omega, by omega, by omega⟩
      · exact ⟨128 * j, by omega, by omega, by omega⟩
    · rintro ⟨q, h1, h2, h3⟩
      omega
theorem keepS_len (l : List It) (ino : Int) (j : Nat) (t : ByteArray) : (keepS l ino j t).length ≤ 1 := by
  unfold keepS
  split <;> simp
theorem sizeL (s : ByteArray) : s.data.toList.length = s.size := by rw [Array.length_toList]; rfl
def laidT (l : List It) (ino : Int) (p0 : Nat) (s0 : List UInt8) (j : Nat) : ByteArray := trimB (ba (chunkF (layF (byteD l ino) p0 s0) j))
theorem writeL_f {l : List It} (ha : Asc l) {ino : Int} (hi : 0 < ino ∧ ino < 4294967296) (p0 : Nat) (s0 : List UInt8) (h0 : p0 + s0.length ≤ 65536) : ∀ (n p : Nat) (s : ByteArray) (acc : List Ch), s.size < n → p0 ≤ p → s.data.toList = s0.drop (p - p0) → p + s.size = p0 + s0.length → (p = p0 ∨ p % 128 = 0 ∨ s.size = 0) → acc.length ≤ p →
    Ev (fun k => writeL k ino (own l ino) n (p : Int) s acc) (acc ++ (js p s.size).flatMap (fun j => keepS l ino j (laidT l ino p0 s0 j))) := by
  intro n
  induction n with
  | zero => intro p s acc h; omega
  | succ n ih =>
    intro p s acc h1 h2 h3 h4 h5 h6
    refine Ev.congr (fun k => by rw [writeL]) ?_
    have hz := sizeL s
    by_cases hs : s.toList = []
    · refine Ev.ifp hs (Ev.const ?_)
      rw [ByteArray.toList_eq] at hs
      rw [hs] at hz
      unfold js
      rw [if_pos (by simpa using hz.symm)]
      simp
    · have hs0 : s.size ≠ 0 := by
        intro h
        apply hs
        rw [ByteArray.toList_eq]
        exact List.length_eq_zero_iff.1 (hz.trans h)
      rw [show (p : Int) / 128 = ((p / 128 : Nat) : Int) by omega, show ((p : Int) % 128).toNat = p % 128 by omega]
      refine Ev.ifn hs (Ev.bind (bytesF_f ha hi (c := p / 128) (by omega)) (Ev.ifp ⟨by omega, by omega, by omega⟩ ?_))
      rw [over_chunk]
      have hch : chunkF (layF (byteD l ino) p s.data.toList) (p / 128) = chunkF (layF (byteD l ino) p0 s0) (p / 128) := by
        refine chunkF_congr (fun q hq => ?_)
        unfold layF
        by_cases hin : p ≤ q ∧ q < p + s.data.toList.length
        · rw [if_pos hin, if_pos (by omega), h3, List.getD_eq_getElem?_getD, List.getD_eq_getElem?_getD, List.getElem?_drop, show p - p0 + (q - p) = q - p0 by omega]
        · rw [if_neg hin]
          by_cases hin2 : p0 ≤ q ∧ q < p0 + s0.length
          · omega
          · rw [if_neg hin2]
      rw [hch]
      have hkl := keepS_len l ino (p / 128) (laidT l ino p0 s0 (p / 128))
      refine Ev.bind (keepF_f ha hi (c := p / 128) (by omega) _ (by rw [show (⟨(chunkF (layF (byteD l ino) p0 s0) (p / 128)).toArray⟩ : ByteArray).size = _ from ba_size _, chunkF_len]; decide)) (Ev.ifp (by
        show acc.length + (keepS l ino (p / 128) (laidT l ino p0 s0 (p / 128))).length ≤ 1048576
        omega) ?_)
      obtain ⟨m, hm⟩ : ∃ m, m = min s.size (128 - p % 128) := ⟨_, rfl⟩
      rw [← hm, show (p : Int) + (m : Int) = ((p + m : Nat) : Int) by omega]
      have hd : (s.extract m s.size).data.toList = s.data.toList.drop m := by rw [ext_end, ba_data]
      have hsz : (s.extract m s.size).size = s.size - m := by rw [ext_end, ba_size, List.length_drop, hz]
      refine Ev.val (ih (p + m) (s.extract m s.size) _ (by omega) (by omega) (by rw [hd, h3, List.drop_drop]; congr 1; omega) (by omega) ?_ ?_) ?_
      · by_cases hlast : m = s.size
        · exact .inr (.inr (by omega))
        · exact .inr (.inl (by omega))
      · rw [List.length_append]
        show acc.length + (keepS l ino (p / 128) (laidT l ino p0 s0 (p / 128))).length ≤ p + m
        omega
      · rw [List.append_assoc, hsz]
        congr 1
        have hj : js p s.size = (p / 128) :: js (p + m) (s.size - m) := by
          unfold js
          rw [if_neg hs0]
          by_cases hlast : m = s.size
          · rw [if_pos (by omega), show (p + s.size - 1) / 128 - p / 128 + 1 = 1 by omega]
            rfl
          · rw [if_neg (by omega), List.range'_succ]
            congr 1
            rw [show (p + m) / 128 = p / 128 + 1 by omega, show (p + m + (s.size - m) - 1) / 128 - (p / 128 + 1) + 1 = (p + s.size - 1) / 128 - p / 128 by omega]
        rw [hj, List.flatMap_cons]
        rfl
def writeS (l : List It) (ino off : Int) (s : ByteArray) : List Ch × Int := if okL l = true then (if ino = 0 ∨ off + s.size > 65536 then ([], 1) else ((js off.toNat s.size).flatMap (fun j => keepS l ino j (laidT l ino off.toNat s.data.toList j)), 0)) else ([], 4)
theorem data_Write_f (l : List It) (hl : l.length ≤ 4398046511104) {ino off : Int} (s : ByteArray) (hi : 0 ≤ ino ∧ ino < 4294967296) (ho : 0 ≤ off ∧ off < 4294967296) (hs : s.size ≤ 9223372036854775807) :
    Ev (fun k => data_Write.f k l ino off s) (writeS l ino off s) := by
  unfold data_Write.f
  refine Ev.ifp ⟨ho.1, ho.2, hs⟩ (Ev.bind (openF_f l hl hi) ?_)
  unfold opnS writeS
  by_cases hk : okL l = true
  · rw [if_pos hk, if_pos hk]
    have ha := ((okL_iff l).1 hk).2
    by_cases h0 : ino = 0
    · rw [if_pos h0, if_pos (.inl h0)]
      have e : wk 1 off s.size = 1 := if_neg (fun h => by have := h.1; omega)
      refine Ev.ifn (by simp only; rw [e]; decide) (Ev.const ?_)
      simp only
      rw [e]
    · rw [if_neg h0]
      by_cases h1 : off + s.size > 65536
      · rw [if_pos (.inr h1)]
        have e : wk 0 off s.size = 1 := if_pos ⟨rfl, h1⟩
        refine Ev.ifn (by simp only; rw [e]; decide) (Ev.const ?_)
        simp only
        rw [e]
      · rw [if_neg (fun h => h.elim h0 h1)]
        have e : wk 0 off s.size = 0 := if_neg (fun h => h1 h.2)
        refine Ev.ifp e ?_
        have hz := sizeL s
        obtain ⟨p, hp⟩ : ∃ p : Nat, p = off.toNat := ⟨_, rfl⟩
        rw [← hp, show off = (p : Int) by omega]
        refine Ev.bind (writeL_f ha ⟨by omega, hi.2⟩ p s.data.toList (by omega) 70000 p s [] (by omega) (Nat.le_refl _) (by rw [Nat.sub_self]; rfl) (by omega) (.inl rfl) (by simp)) (Ev.const ?_)
        rw [List.nil_append]
  · rw [if_neg hk, if_neg hk]
    have e : wk 4 off s.size = 4 := if_neg (fun h => by have := h.1; omega)
    refine Ev.ifn (by simp only; rw [e]; decide) (Ev.const ?_)
    simp only
    rw [e]
/-! ### Cut -/
def chOf (x : It) : Nat := (parsS (key x)).2.2.2.1.toNat
def cutT (len : Int) (j : Nat) (v : ByteArray) : ByteArray := trimB (v.extract 0 (len - (j : Int) * 128).toNat)
def cutS (l : List It) (ino len : Int) (x : It) : List Ch :=
  if len - (chOf x : Int) * 128 ≤ 0 then [⟨x.f0, false, ⟨#[]⟩⟩] else if len - (chOf x : Int) * 128 < x.f1.size then keepS l ino (chOf x) (cutT len (chOf x) x.f1) else []
theorem chOf_key {ino : Int} (hi : 0 < ino ∧ ino < 4294967296) {x : It} {c : Nat} (hc : c < 512) (h : key x = kc ino c) : chOf x = c := by
  unfold chOf
  rw [h, kc_pars hi hc]
  rfl
theorem cutS_len (l : List It) (ino len : Int) (x : It) : (cutS l ino len x).length ≤ 1 := by
  unfold cutS
  split
  · simp
  · split
    · exact keepS_len ..
    · simp
theorem cutL_f {l : List It} (hk : okL l = true) {ino : Int} (hi : 0 < ino ∧ ino < 4294967296) (len : Int) : ∀ (xs : List It) (acc : List Ch), (∀ x ∈ xs, x ∈ own l ino) → acc.length + xs.length ≤ 4194304 →
    Ev (fun k => cutL k ino (own l ino) len xs acc) (acc ++ xs.flatMap (cutS l ino len)) := by
  have ha := ((okL_iff l).1 hk).2
  intro xs
  induction xs with
  | nil =>
    intro acc _ _
    refine Ev.congr (fun k => by rw [cutL]) (Ev.const ?_)
    simp
  | cons x xs ih =>
    intro acc hx hb
    refine Ev.congr (fun k => by rw [cutL]) ?_
    obtain ⟨hm, hK⟩ := own_mem (hx x (List.mem_cons_self ..))
    obtain ⟨c, hc, hkc⟩ := (isK_iff hi _).1 hK
    obtain ⟨hz0, hz1⟩ := okI_size hk hm
    have hp := parse_f x.f0 (by omega)
    rw [← ByteArray.toList_eq, show x.f0.toList = kc ino c from hkc, kc_pars hi hc] at hp
    have hco := chOf_key hi hc hkc
    have hsl := cutS_len l ino len x
    rw [List.length_cons] at hb
    refine Ev.bind hp (Ev.ifp ⟨by show (0 : Int) ≤ (c : Int); omega, by show (c : Int) < _; omega, by omega, by omega⟩ ?_)
    show Ev (fun k => if len - (c : Int) * 128 ≤ 0 then _ else if len - (c : Int) * 128 < x.f1.size then Option.bind (keepF k ino (own l ino) (c : Int) (x.f1.extract 0 (len - (c : Int) * 128).toNat)) _ else _) _
    rw [List.flatMap_cons, ← List.append_assoc]
    have hcut : cutS l ino len x = if len - (c : Int) * 128 ≤ 0 then [⟨x.f0, false, ⟨#[]⟩⟩] else if len - (c : Int) * 128 < x.f1.size then keepS l ino c (cutT len c x.f1) else [] := by
      unfold cutS
      rw [hco]
    have go := ih (acc ++ cutS l ino len x) (fun y hy => hx y (List.mem_cons_of_mem _ hy)) (by rw [List.length_append]; omega)
    by_cases h1 : len - (c : Int) * 128 ≤ 0
    · rw [if_pos h1] at hcut
      rw [hcut] at go ⊢
      exact Ev.ifp h1 go
    · rw [if_neg h1] at hcut
      refine Ev.ifn h1 ?_
      by_cases h2 : len - (c : Int) * 128 < x.f1.size
      · rw [if_pos h2] at hcut
        rw [hcut] at go ⊢
        have hkl := keepS_len l ino c (cutT len c x.f1)
        exact Ev.ifp h2 (Ev.bind (keepF_f ha hi hc _ (by rw [ByteArray.size_extract]; omega)) (Ev.ifp (by show (keepS l ino c (cutT len c x.f1)).length ≤ _; omega) go))
      · rw [if_neg h2] at hcut
        rw [hcut, List.append_nil] at go ⊢
        exact Ev.ifn h2 go
def cutSS (l : List It) (ino len : Int) : List Ch × Int := if okL l = true then (if ino = 0 ∨ len > 65536 then ([], 1) else ((own l ino).flatMap (cutS l ino len), 0)) else ([], 4)
theorem data_Cut_f (l : List It) (hl : l.length ≤ 4398046511104) {ino len : Int} (hi : 0 ≤ ino ∧ ino < 4294967296) (hlen : 0 ≤ len ∧ len < 4294967296) : Ev (fun k => data_Cut.f k l ino len) (cutSS l ino len) := by
  unfold data_Cut.f
  refine Ev.ifp hlen (Ev.bind (openF_f l hl hi) ?_)
  unfold opnS cutSS
  by_cases hk : okL l = true
  · rw [if_pos hk, if_pos hk]
    have ha := ((okL_iff l).1 hk).2
    by_cases h0 : ino = 0
    · rw [if_pos h0, if_pos (.inl h0)]
      have e : ck' 1 len = 1 := if_neg (fun h => by have := h.1; omega)
      refine Ev.ifn (by simp only; rw [e]; decide) (Ev.const ?_)
      simp only
      rw [e]
    · rw [if_neg h0]
      by_cases h1 : len > 65536
      · rw [if_pos (.inr h1)]
        have e : ck' 0 len = 1 := if_pos ⟨rfl, h1⟩
        refine Ev.ifn (by simp only; rw [e]; decide) (Ev.const ?_)
        simp only
        rw [e]
      · rw [if_neg (fun h => h.elim h0 h1)]
        have e : ck' 0 len = 0 := if_neg (fun h => h1 h.2)
        have hi' : 0 < ino ∧ ino < 4294967296 := ⟨by omega, hi.2⟩
        have hol := own_len ha hi'
        refine Ev.ifp e (Ev.bind (cutL_f hk hi' len (own l ino) [] (fun _ h => h) (by simp; omega)) (Ev.const ?_))
        rw [List.nil_append]
  · rw [if_neg hk, if_neg hk]
    have e : ck' 4 len = 4 := if_neg (fun h => by have := h.1; omega)
    refine Ev.ifn (by simp only; rw [e]; decide) (Ev.const ?_)
    simp only
    rw [e]
end Go.Proofs.YtnngbhdofgodiaaGreatDoor.Z
end

section
/- What data's changes make of a list. -/
namespace Go.Proofs.YtnngbhdofgodiaaGreatDoor.Z
open Go.RowKit Go.Proofs.YtnngbhdofgodiaaGreatDoorW.PrintWords Go.Proofs.YtnngbhdofgodiaaGreatDoorW.PrintLast Go.Proofs.YtnngbhdofgodiaaGreatDoorW.PrintMore Go.Proofs.YtnngbhdofgodiaaGreatDoor.PM
set_option linter.unusedVariables false
set_option linter.unusedSimpArgs false
theorem apl_l1 (cs : List Ch) (hcs : cs.length ≤ 4398046511000) : ∀ d i : Nat, cs.length = i + d → ∀ l : List It, okL l = true → okC (cs.drop i) = true → (∀ t, (apl l ((cs.drop i).take t)).length ≤ 4398046511000) →
    Ev (fun k => item_Apply.l0 k l cs (cs.length : Int) (i : Int)) (apl l (cs.drop i), 0) := by
  intro d
  induction d with
  | zero =>
    intro i hi l ho hoc hb
    refine Ev.step (fun k => by rw [item_Apply.l0]) (Ev.ifn (by omega) (Ev.const ?_))
    rw [List.drop_of_length_le (by omega)]; rfl
  | succ d ih =>
    intro i hi l ho hoc hb
    have hlt : i < cs.length := by omega
    have ha := ((okL_iff l).1 ho).2
    obtain ⟨c, hc⟩ : ∃ c, c = cs[i] := ⟨_, rfl⟩
    rw [List.drop_eq_getElem_cons hlt, ← hc] at hoc hb ⊢
    have hb0 : l.length ≤ 4398046511000 := hb 0
    unfold okC at hoc
    rw [List.all_cons, Bool.and_eq_true] at hoc
    have hpl := put_len l c
    have hpo := put_ok ho hoc.1
    have hlp := lo_le l (ck c)
    -- what is done here, then the rest
    have go : ∀ r : List It, r = put l c → Ev (fun k => item_Apply.l0 k r cs (cs.length : Int) (wrap64 ((i : Int) + 1))) (apl l (c :: cs.drop (i + 1)), 0) := by
      rintro r rfl
      rw [w64 (by omega) (by omega)]
      exact ih (i + 1) (by omega) (put l c) hpo hoc.2 (fun t => hb (t + 1))
    refine Ev.step (fun k => by rw [item_Apply.l0]) (Ev.ifp (by omega) (Ev.ifp (by omega) (Ev.ifp (by omega) ?_)))
    rw [rdc_get cs i hlt, ← hc]
    have hpf : Ev (fun k => item_place.f k l c.f0) (((lo l (ck c)).length : Int), fnd l (ck c)) := place_f ha (by omega) c.f0
    refine Ev.bind hpf ?_
    clear hpf
    have hw : wrap64 (((lo l (ck c)).length : Int) + 1) = ((lo l (ck c)).length : Int) + 1 := w64 (by omega) (by omega)
    cases hf : fnd l (ck c) with
    | true =>
      refine Ev.ifp rfl (Ev.step (fun k => by rw [item_Apply.j1]) ?_)
      obtain ⟨hp, _, _⟩ := at_fnd ha hf
      cases hh : c.f1 with
      | true =>
        refine Ev.ifp rfl (Ev.ifp (by simp only; omega) (Ev.ifp (by simp only; omega) (go _ ?_)))
        simp only
        rw [rd_get l _ hp, Int.toNat_natCast]
        exact put_set ha hf hh hp
      | false =>
        refine Ev.ifn (by simp) (Ev.ifp rfl (Ev.bindc ?_ (go _ (put_del ha hf hh))))
        simp only
        unfold slices_Delete_api_Item_api_Item.f
        rw [hw, if_pos ⟨by omega, by omega, rfl⟩, Int.toNat_natCast]
    | false =>
      refine Ev.ifn (by simp) (Ev.step (fun k => by rw [item_Apply.j1]) ?_)
      refine Ev.ifn (by simp) (Ev.ifn (by simp) ?_)
      cases hh : c.f1 with
      | true =>
        refine Ev.ifp rfl (Ev.bindc ?_ (go _ (put_ins ha hf hh)))
        simp only
        unfold slices_Insert_api_Item_api_Item.f
        rw [if_pos ⟨by omega, by omega, rfl, by omega⟩, Int.toNat_natCast]
      | false => exact Ev.ifn (by simp) (go _ (put_non ha hf hh))
theorem itApplyIn (l : List It) (cs : List Ch) (hcs : cs.length ≤ 4398046511000) (hb : ∀ t, (apl l (cs.take t)).length ≤ 4398046511000) : Ev (fun k => item_Apply.f k l cs) (aplS l cs) := by
  unfold item_Apply.f
  have hb0 : l.length ≤ 4398046511000 := hb 0
  refine Ev.bind (itCheck l (by omega)) (Ev.bind (itCheckC cs (by omega)) (Ev.bind (or_ck _ _) ?_))
  unfold aplS
  by_cases h : (okL l && okC cs) = true
  · rw [h, if_pos rfl]
    rw [Bool.and_eq_true] at h
    refine Ev.ifp rfl (Ev.bindc (show slices_Clone_api_Item_api_Item.f l = some l by unfold slices_Clone_api_Item_api_Item.f; rw [if_pos (by omega)]) ?_)
    exact apl_l1 cs (by omega) cs.length 0 (by omega) l h.1 (by simpa using h.2) hb
  · have h' : (okL l && okC cs) = false := by simpa using h
    rw [h']
    exact Ev.ifn (by decide) (Ev.const rfl)
theorem look_mem_ {l : List It} (ha : Asc l) {x : It} (hx : x ∈ l) : look l (key x) = some x.f1 := by
  obtain ⟨i, h, rfl⟩ := List.getElem_of_mem hx
  exact look_at ha i h
theorem look_ex {l : List It} {k : List UInt8} {v : ByteArray} (h : look l k = some v) : ∃ x ∈ l, key x = k ∧ x.f1 = v := by
  unfold look at h
  obtain ⟨x, h1, h2⟩ := Option.map_eq_some_iff.1 h
  exact ⟨x, List.mem_of_find?_eq_some h1, by simpa using List.find?_some h1, h2⟩
theorem put_len_in {l : List It} (ha : Asc l) {c : Ch} (h : c.f1 = true → look l (ck c) ≠ none) : (put l c).length ≤ l.length := by
  have h1 := congrArg List.length (lo_up l (ck c))
  rw [List.length_append] at h1
  have h2 : (hi l (ck c)).length ≤ (up l (ck c)).length := List.Sublist.length_le (List.dropWhile_sublist _)
  cases hf : c.f1 with
  | false =>
    unfold put new_
    rw [hf]
    simp only [List.length_append]
    simp
    omega
  | true =>
    cases hn : fnd l (ck c) with
    | false => exact absurd (look_not ha hn) (h hf)
    | true =>
      obtain ⟨_, _, hp⟩ := at_fnd ha hn
      have h3 := congrArg List.length hp
      unfold put new_
      rw [hf]
      simp only [List.length_append, List.length_singleton] at h3 ⊢
      simp
      omega
theorem apl_len_in : ∀ (cs : List Ch) (l : List It), okL l = true → okC cs = true → cs.Pairwise (fun a b => ck a ≠ ck b) → (∀ c ∈ cs, c.f1 = true → look l (ck c) ≠ none) → ∀ t, (apl l (cs.take t)).length ≤ l.length
  | [], l, _, _, _, _, t => by simp [apl]
  | c :: cs, l, hl, hc, hp, hin, 0 => Nat.le_refl _
  | c :: cs, l, hl, hc, hp, hin, t + 1 => by
    unfold okC at hc
    rw [List.all_cons, Bool.and_eq_true] at hc
    have ha := ((okL_iff l).1 hl).2
    obtain ⟨p1, p2⟩ := List.pairwise_cons.1 hp
    have := apl_len_in cs (put l c) (put_ok hl hc.1) hc.2 p2 (fun d hd hf => by
      rw [look_put ha, if_neg (p1 d hd)]
      exact hin d (List.mem_cons_of_mem _ hd) hf) t
    exact Nat.le_trans this (put_len_in ha (hin c (List.mem_cons_self ..)))
theorem lk_eq {l m : List It} {k : List UInt8} (h : look m k = look l k) : lk m k = lk l k := by
  unfold lk
  rw [h]
/-! ### Write -/
def wrC (l : List It) (ino : Int) (p : Nat) (s : List UInt8) : List Ch := (js p s.length).flatMap (fun j => keepS l ino j (laidT l ino p s j))
theorem laidT_size (l : List It) (ino : Int) (p : Nat) (s : List UInt8) (j : Nat) : (laidT l ino p s j).size ≤ 128 := by
  unfold laidT
  have := trimB_size (ba (chunkF (layF (byteD l ino) p s) j))
  rw [ba_size, chunkF_len] at this
  exact this
theorem js_lt {p n : Nat} (h : p + n ≤ 65536) {j : Nat} (hj : j ∈ js p n) : j < 512 := by
  obtain ⟨q, h1, h2, h3⟩ := (js_mem _ _ _).1 hj
  omega
theorem wrC_okC (l : List It) {ino : Int} (hi : 0 < ino ∧ ino < 4294967296) {p : Nat} {s : List UInt8} (h : p + s.length ≤ 65536) : okC (wrC l ino p s) = true := by
  refine List.all_eq_true.2 (fun c hc => ?_)
  obtain ⟨j, hj, hc⟩ := List.mem_flatMap.1 hc
  exact keepS_ok hi.1 (js_lt h hj) (by have := laidT_size l ino p s j; omega) c hc
theorem wrC_done {l : List It} (hk : okL l = true) {ino : Int} (hi : 0 < ino ∧ ino < 4294967296) {p : Nat} {s : List UInt8} (h : p + s.length ≤ 65536) :
    (∀ j ∈ js p s.length, lk (apl l (wrC l ino p s)) (kc ino j) = opt (laidT l ino p s j)) ∧ ∀ k, (∀ j ∈ js p s.length, kc ino j ≠ k) → look (apl l (wrC l ino p s)) k = look l k :=
  Real.done hi (fun j hj => js_lt h hj) _ l hk (wrC_okC l hi h) (keepS_real l ino _ _)
theorem laidT_get (l : List It) (ino : Int) (p : Nat) (s : List UInt8) (q : Nat) : (laidT l ino p s (q / 128)).data.toList.getD (q % 128) 0 = layF (byteD l ino) p s q := by
  unfold laidT
  rw [trimB_get, ba_data, List.getD_eq_getElem?_getD, chunkF_get _ _ _ (Nat.mod_lt _ (by decide)), show 128 * (q / 128) + q % 128 = q by omega]
  rfl
theorem wrC_byte {l : List It} (hk : okL l = true) {ino : Int} (hi : 0 < ino ∧ ino < 4294967296) {p : Nat} {s : List UInt8} (h : p + s.length ≤ 65536) {q : Nat} (hq : q < 65536) :
    byteD (apl l (wrC l ino p s)) ino q = layF (byteD l ino) p s q := by
  obtain ⟨h1, h2⟩ := wrC_done hk hi h
  by_cases hj : q / 128 ∈ js p s.length
  · rw [byteD_opt (h1 _ hj), laidT_get]
  · rw [byteD_lk (lk_eq (h2 (kc ino (q / 128)) (fun j hj2 e => hj ((kc_inj hi hi (js_lt h hj2) (by omega) e).2 ▸ hj2))))]
    unfold layF
    rw [if_neg]
    intro hin
    exact hj ((js_mem _ _ _).2 ⟨q, hin.1, hin.2, rfl⟩)
theorem wrC_other {l : List It} (hk : okL l = true) {ino i2 : Int} (hi : 0 < ino ∧ ino < 4294967296) (hi2 : 0 < i2 ∧ i2 < 4294967296) (hne : i2 ≠ ino) {p : Nat} {s : List UInt8} (h : p + s.length ≤ 65536) {q : Nat} (hq : q < 65536) :
    byteD (apl l (wrC l ino p s)) i2 q = byteD l i2 q := by
  obtain ⟨h1, h2⟩ := wrC_done hk hi h
  exact byteD_lk (lk_eq (h2 (kc i2 (q / 128)) (fun j hj2 e => hne (kc_inj hi hi2 (js_lt h hj2) (by omega) e).1.symm)))
theorem wrC_len (l : List It) (ino : Int) {p : Nat} {s : List UInt8} (h : p + s.length ≤ 65536) : (wrC l ino p s).length ≤ 513 := by
  have key : ∀ (xs : List Nat) (f : Nat → List Ch), (∀ j, (f j).length ≤ 1) → (xs.flatMap f).length ≤ xs.length := by
    intro xs f hf
    induction xs with
    | nil => simp
    | cons x xs ih =>
      rw [List.flatMap_cons, List.length_append, List.length_cons]
      have := hf x
      omega
  refine Nat.le_trans (key _ _ (fun j => keepS_len ..)) ?_
  unfold js
  split
  · simp
  · rw [List.length_range']; omega
theorem wrC_again {l : List It} (hk : okL l = true) {ino : Int} (hi : 0 < ino ∧ ino < 4294967296) {p : Nat} {s : List UInt8} (h : p + s.length ≤ 65536) : wrC (apl l (wrC l ino p s)) ino p s = [] := by
  obtain ⟨h1, h2⟩ := wrC_done hk hi h
  have hB := fun (q : Nat) (hq : q < 65536) => wrC_byte hk hi h hq
  generalize apl l (wrC l ino p s) = m at h1 hB
  unfold wrC
  rw [List.flatMap_eq_nil_iff]
  intro j hj
  have hl : laidT m ino p s j = laidT l ino p s j := by
    unfold laidT
    rw [chunkF_congr (g := layF (byteD l ino) p s) (fun q hq => ?_)]
    have := hB q (by have := js_lt h hj; omega)
    unfold layF at this ⊢
    by_cases hin : p ≤ q ∧ q < p + s.length
    · rw [if_pos hin, if_pos hin]
    · rw [if_neg hin, this, if_neg hin]
  unfold keepS
  rw [hl, if_pos (h1 j hj)]
/-! ### Cut -/
def cuC (l : List It) (ino len : Int) : List Ch := (own l ino).flatMap (cutS l ino len)
theorem cutS_key {l : List It} {ino : Int} (hi : 0 < ino ∧ ino < 4294967296) (len : Int) {x : It} (hx : x ∈ own l ino) : ∀ c ∈ cutS l ino len x, ck c = key x := by
  obtain ⟨c0, hc, hkc⟩ := (isK_iff hi _).1 (own_mem hx).2
  intro c hcm
  unfold cutS at hcm
  split at hcm
  · rw [List.mem_singleton.1 hcm]
  · split at hcm
    · unfold keepS at hcm
      split at hcm
      · cases hcm
      · rw [List.mem_singleton.1 hcm, hkc, chOf_key hi hc hkc]
        exact ba_toList _
    · cases hcm
theorem cutT_size (len : Int) (j : Nat) (v : ByteArray) : (cutT len j v).size ≤ v.size ∧ ((cutT len j v).size : Int) ≤ max 0 (len - (j : Int) * 128) := by
  unfold cutT
  have := trimB_size (v.extract 0 (len - (j : Int) * 128).toNat)
  rw [ByteArray.size_extract] at this
  omega
theorem cuC_okC {l : List It} (hk : okL l = true) {ino : Int} (hi : 0 < ino ∧ ino < 4294967296) (len : Int) : okC (cuC l ino len) = true := by
  refine List.all_eq_true.2 (fun c hc => ?_)
  obtain ⟨x, hx, hc⟩ := List.mem_flatMap.1 hc
  obtain ⟨hm, hK⟩ := own_mem hx
  obtain ⟨c0, hc0, hkc⟩ := (isK_iff hi _).1 hK
  have hco := chOf_key hi hc0 hkc
  have hs := okI_size hk hm
  unfold cutS at hc
  rw [hco] at hc
  split at hc
  · rw [List.mem_singleton.1 hc]
    have h1 := ((okL_iff l).1 hk).1 x hm
    unfold okI at h1
    unfold okc
    rw [(Bool.and_eq_true_iff.1 h1).1]
    simp [ByteArray.toList_eq]
    decide
  · split at hc
    · exact keepS_ok hi.1 hc0 (by have := cutT_size len c0 x.f1; omega) c hc
    · cases hc
theorem cuC_pair {l : List It} (hk : okL l = true) {ino : Int} (hi : 0 < ino ∧ ino < 4294967296) (len : Int) : (cuC l ino len).Pairwise (fun a b => ck a ≠ ck b) := by
  have ha := own_asc ((okL_iff l).1 hk).2 ino
  have hx : ∀ x ∈ own l ino, x ∈ own l ino := fun _ h => h
  unfold cuC
  generalize hL : own l ino = L at ha
  have hx : ∀ x ∈ L, x ∈ own l ino := fun x h => hL ▸ h
  clear hL
  induction L with
  | nil => exact List.Pairwise.nil
  | cons x L ih =>
    rw [List.flatMap_cons]
    refine List.pairwise_append.2 ⟨?_, ih ha.cons.2 (fun y hy => hx y (List.mem_cons_of_mem _ hy)), fun a hA b hB e => ?_⟩
    · have := cutS_len l ino len x
      match h : cutS l ino len x, this with
      | [], _ => exact List.Pairwise.nil
      | [a], _ => exact List.pairwise_singleton ..
      | a :: b :: r, h2 => exact absurd h2 (by simp)
    · obtain ⟨y, hy, hB⟩ := List.mem_flatMap.1 hB
      have h1 := cutS_key hi len (hx x (List.mem_cons_self ..)) a hA
      have h2 := cutS_key hi len (hx y (List.mem_cons_of_mem _ hy)) b hB
      have := ha.cons.1 y hy
      exact bl_ne this (h1.symm.trans (e.trans h2))
theorem cuC_in {l : List It} (hk : okL l = true) {ino : Int} (hi : 0 < ino ∧ ino < 4294967296) (len : Int) : ∀ c ∈ cuC l ino len, c.f1 = true → look l (ck c) ≠ none := by
  intro c hc _
  obtain ⟨x, hx, hc⟩ := List.mem_flatMap.1 hc
  rw [cutS_key hi len hx c hc, look_mem_ ((okL_iff l).1 hk).2 (own_mem hx).1]
  simp
theorem cuC_len {l : List It} (hk : okL l = true) {ino : Int} (hi : 0 < ino ∧ ino < 4294967296) (len : Int) : (cuC l ino len).length ≤ 512 := by
  have key : ∀ (xs : List It) (f : It → List Ch), (∀ j, (f j).length ≤ 1) → (xs.flatMap f).length ≤ xs.length := by
    intro xs f hf
    induction xs with
    | nil => simp
    | cons x xs ih =>
      rw [List.flatMap_cons, List.length_append, List.length_cons]
      have := hf x
      omega
  exact Nat.le_trans (key _ _ (fun j => cutS_len ..)) (own_len ((okL_iff l).1 hk).2 hi)
/-- What is kept of a chunk behind a cut. -/
def cutO (len : Int) (j : Nat) : Option ByteArray → Option (List UInt8)
  | none => none
  | some v => if len - (j : Int) * 128 ≤ 0 then none else if len - (j : Int) * 128 < v.size then opt (cutT len j v) else some v.data.toList
theorem cuC_real {l : List It} (hk : okL l = true) {ino : Int} (hi : 0 < ino ∧ ino < 4294967296) (len : Int) : Real l (cuC l ino len) ino (fun j => j < 512 ∧ look l (kc ino j) ≠ none) (fun j => cutO len j (look l (kc ino j))) := by
  have ha := ((okL_iff l).1 hk).2
  refine ⟨fun c hc => ?_, fun j hj => ?_⟩
  · obtain ⟨x, hx, hc⟩ := List.mem_flatMap.1 hc
    have hck := cutS_key hi len hx c hc
    obtain ⟨hm, hK⟩ := own_mem hx
    obtain ⟨c0, hc0, hkc⟩ := (isK_iff hi _).1 hK
    have hlo := look_mem_ ha hm
    rw [hkc] at hlo
    refine ⟨c0, ⟨hc0, by rw [hlo]; simp⟩, hck.trans hkc, ?_⟩
    show _ = cutO len c0 (look l (kc ino c0))
    rw [hlo]
    unfold cutS at hc
    rw [chOf_key hi hc0 hkc] at hc
    unfold cutO
    split at hc
    · rename_i h1
      rw [List.mem_singleton.1 hc]
      simp only
      rw [if_pos h1, if_neg (by decide)]
    · rename_i h1
      simp only
      rw [if_neg h1]
      split at hc
      · rename_i h2
        rw [if_pos h2]
        unfold keepS at hc
        split at hc
        · cases hc
        · rw [List.mem_singleton.1 hc]
          unfold opt
          dsimp only
          generalize (cutT len c0 x.f1).data.toList = tl
          cases tl <;> simp
      · cases hc
  · obtain ⟨hj5, hn⟩ := hj
    obtain ⟨v, hv⟩ := Option.ne_none_iff_exists'.1 hn
    obtain ⟨x, hm, hkc, hxv⟩ := look_ex hv
    have hx : x ∈ own l ino := by
      rw [own_eq]
      exact List.mem_filter.2 ⟨hm, (isK_iff hi _).2 ⟨j, hj5, hkc⟩⟩
    have hco := chOf_key hi hj5 hkc
    by_cases hcs : cutS l ino len x = []
    · refine .inr ?_
      show lk l (kc ino j) = cutO len j (look l (kc ino j))
      rw [hv]
      unfold cutS at hcs
      rw [hco, hxv] at hcs
      unfold cutO
      simp only
      split at hcs
      · cases hcs
      · rename_i h1
        rw [if_neg h1]
        split at hcs
        · rename_i h2
          rw [if_pos h2]
          unfold keepS at hcs
          split at hcs
          · rename_i h3
            exact h3
          · cases hcs
        · rename_i h2
          rw [if_neg h2]
          unfold lk
          rw [hv]
          rfl
    · refine .inl ?_
      obtain ⟨c, hc⟩ := List.exists_mem_of_ne_nil _ hcs
      exact ⟨c, List.mem_flatMap.2 ⟨x, hx, hc⟩, (cutS_key hi len hx c hc).trans hkc⟩
theorem cuC_done {l : List It} (hk : okL l = true) {ino : Int} (hi : 0 < ino ∧ ino < 4294967296) (len : Int) :
    (∀ j, j < 512 → lk (apl l (cuC l ino len)) (kc ino j) = cutO len j (look l (kc ino j))) ∧ ∀ k, (∀ j, j < 512 → kc ino j ≠ k) → look (apl l (cuC l ino len)) k = look l k := by
  obtain ⟨h1, h2⟩ := Real.done hi (R := fun j => j < 512 ∧ look l (kc ino j) ≠ none) (fun j hj => hj.1) _ l hk (cuC_okC hk hi len) (cuC_real hk hi len)
  refine ⟨fun j hj => ?_, fun k hkk => h2 k (fun j hj => hkk j hj.1)⟩
  by_cases hn : look l (kc ino j) = none
  · have h3 := h2 (kc ino j) (fun j2 hj2 e => hj2.2 (e ▸ hn))
    rw [lk_eq h3, hn]
    unfold lk
    rw [hn]
    rfl
  · exact h1 j ⟨hj, hn⟩
theorem getD_take (l : List UInt8) (n i : Nat) : (l.take n).getD i 0 = if i < n then l.getD i 0 else 0 := by
  rw [List.getD_eq_getElem?_getD, List.getElem?_take]
  split
  · rw [List.getD_eq_getElem?_getD]
  · rfl
theorem cuC_byte {l : List It} (hk : okL l = true) {ino : Int} (hi : 0 < ino ∧ ino < 4294967296) (len : Int) {q : Nat} (hq : q < 65536) :
    byteD (apl l (cuC l ino len)) ino q = if (q : Int) < len then byteD l ino q else 0 := by
  obtain ⟨h1, h2⟩ := cuC_done hk hi len
  have h3 := h1 (q / 128) (by omega)
  cases hv : look l (kc ino (q / 128)) with
  | none =>
    rw [hv] at h3
    have e1 : byteD (apl l (cuC l ino len)) ino q = 0 := byteD_opt (t := ⟨#[]⟩) h3
    have e2 : byteD l ino q = 0 := byteD_opt (t := ⟨#[]⟩) (by unfold lk; rw [hv]; rfl)
    rw [e1, e2]
    split <;> rfl
  | some v =>
    rw [hv] at h3
    unfold cutO at h3
    simp only at h3
    have e2 : byteD l ino q = v.data.toList.getD (q % 128) 0 := by
      unfold byteD vl
      rw [hv]
      rfl
    have hz := sizeL v
    by_cases g1 : len - ((q / 128 : Nat) : Int) * 128 ≤ 0
    · rw [if_pos g1] at h3
      rw [byteD_opt (t := ⟨#[]⟩) h3, if_neg (by omega)]
      rfl
    · rw [if_neg g1] at h3
      by_cases g2 : len - ((q / 128 : Nat) : Int) * 128 < v.size
      · rw [if_pos g2] at h3
        rw [byteD_opt h3]
        unfold cutT
        rw [trimB_get, ext_front, ba_data, getD_take, e2]
        by_cases g3 : (q : Int) < len
        · rw [if_pos g3, if_pos (by omega)]
        · rw [if_neg g3, if_neg (by omega)]
      · rw [if_neg g2] at h3
        rw [byteD_lk (m := l) (i2 := ino) (by rw [h3]; unfold lk; rw [hv]; rfl)]
        by_cases g3 : (q : Int) < len
        · rw [if_pos g3]
        · rw [if_neg g3, e2, List.getD_eq_getElem?_getD, List.getElem?_eq_none (by omega)]
          rfl
theorem cuC_other {l : List It} (hk : okL l = true) {ino i2 : Int} (hi : 0 < ino ∧ ino < 4294967296) (hi2 : 0 < i2 ∧ i2 < 4294967296) (hne : i2 ≠ ino) (len : Int) {q : Nat} (hq : q < 65536) :
    byteD (apl l (cuC l ino len)) i2 q = byteD l i2 q := by
  obtain ⟨h1, h2⟩ := cuC_done hk hi len
  exact byteD_lk (lk_eq (h2 (kc i2 (q / 128)) (fun j hj2 e => hne (kc_inj hi hi2 hj2 (by omega) e).1.symm)))
theorem cuC_okL {l : List It} (hk : okL l = true) {ino : Int} (hi : 0 < ino ∧ ino < 4294967296) (len : Int) : okL (apl l (cuC l ino len)) = true := apl_ok hk (cuC_okC hk hi len)
theorem cuC_again {l : List It} (hk : okL l = true) {ino : Int} (hi : 0 < ino ∧ ino < 4294967296) (len : Int) : cuC (apl l (cuC l ino len)) ino len = [] := by
  obtain ⟨h1, h2⟩ := cuC_done hk hi len
  have hm := cuC_okL hk hi len
  generalize hM : apl l (cuC l ino len) = m at h1 hm
  unfold cuC
  rw [List.flatMap_eq_nil_iff]
  intro x hx
  obtain ⟨hxm, hK⟩ := own_mem hx
  obtain ⟨j, hj, hkc⟩ := (isK_iff hi _).1 hK
  have h3 := h1 j hj
  have hlo := look_mem_ ((okL_iff m).1 hm).2 hxm
  rw [hkc] at hlo
  unfold lk at h3
  rw [hlo] at h3
  unfold cutS
  rw [chOf_key hi hj hkc]
  cases hv : look l (kc ino j) with
  | none =>
    rw [hv] at h3
    cases h3
  | some v =>
    rw [hv] at h3
    unfold cutO at h3
    simp only [Option.map_some] at h3
    by_cases g1 : len - (j : Int) * 128 ≤ 0
    · rw [if_pos g1] at h3
      cases h3
    · rw [if_neg g1] at h3 ⊢
      have hz1 := sizeL x.f1
      have hz2 := sizeL v
      by_cases g2 : len - (j : Int) * 128 < v.size
      · rw [if_pos g2] at h3
        unfold opt at h3
        split at h3
        · cases h3
        · have h4 := Option.some.inj h3
          have hz3 := sizeL (cutT len j v)
          have := (cutT_size len j v).2
          rw [← h4] at hz3
          rw [if_neg (by omega)]
      · rw [if_neg g2] at h3
        have h4 := Option.some.inj h3
        rw [h4] at hz1
        rw [if_neg (by omega)]
end Go.Proofs.YtnngbhdofgodiaaGreatDoor.Z
end

section
-- Printed by a program of this session (mp.py) out of the translation.
namespace Go.Proofs.YtnngbhdofgodiaaGreatDoor.Z
open Go.RowKit Go.Proofs.YtnngbhdofgodiaaGreatDoorW.PrintWords Go.Proofs.YtnngbhdofgodiaaGreatDoorW.PrintLast Go.Proofs.YtnngbhdofgodiaaGreatDoorW.PrintMore
attribute [local go_sem] max2_int min2_int max_two min_two max_three min_three max_four min_four   -- for this text's walks alone
set_option linter.unusedVariables false
set_option linter.unusedSimpArgs false

/-! ### cambiumlaw13_lives: function 8 -/
def cambiumlaw13_lives.f (k : Nat)  : Option (Bool) := (data_Write.f k ([] : List (S54)) 2 126 (⟨#[97, 98, 99]⟩ : ByteArray)).bind fun bt234 => ((item_Apply.f k ([] : List (S54)) bt234.1).bind fun bt238 => ((data_Read.f k bt238.1 2 129 127 9).bind fun bt242 => ((data_Cut.f k bt238.1 2 127).bind fun bt244 => ((data_Write.f k ([] : List (S54)) 2 65535 (⟨#[97, 98]⟩ : ByteArray)).bind fun bt248 => (if (bt234.1.length : Int) = 2 then (if bt234.2 = 0 then (if bt238.2 = 0 then (if bt242.1.toList = ([98, 99] : List UInt8) then (if bt242.2 = 0 then (if (bt244.1.length : Int) = 2 then (if 0 < (bt244.1.length : Int) then (if (rd_T43 bt244.1 0).f1 = true then (if 1 < (bt244.1.length : Int) then (if ((rd_T43 bt244.1 1).f1 = true) then (some false) else (if bt244.2 = 0 then (some (bt248.2 == 1)) else (some false))) else (none)) else (some false)) else (none)) else (some false)) else (some false)) else (some false)) else (some false)) else (some false)) else (some false))))))
theorem cambiumlaw13_lives.mono : ∀ k, LeO (cambiumlaw13_lives.f k ) (cambiumlaw13_lives.f (k + 1) ) := by
  intro  k
  unfold cambiumlaw13_lives.f
  repeat' first
      | (with_reducible exact data_Cut.mono _ _ _ _)
      | (with_reducible exact data_Read.mono _ _ _ _ _ _)
      | (with_reducible exact data_Write.mono _ _ _ _ _)
      | (with_reducible exact item_Apply.mono _ _ _)
      | (with_reducible exact LeO.refl _)
      | (with_reducible exact LeO.none _)
      | (with_reducible refine LeO.ite ?_ ?_)
      | (with_reducible refine LeO.bind ?_ (fun _ => ?_))
      | exact data_Cut.mono _ _ _ _
      | exact data_Read.mono _ _ _ _ _ _
      | exact data_Write.mono _ _ _ _ _
      | exact item_Apply.mono _ _ _
      | exact LeO.none _
      | refine LeO.ite ?_ ?_
      | refine LeO.bind ?_ (fun _ => ?_)
set_option maxHeartbeats 8000000 in
set_option maxRecDepth 100000 in
theorem cambiumlaw13_lives.calls (k : Nat)  (r : Bool) (w : World) (h : cambiumlaw13_lives.f k  = some r) (hT_ : r = true := by rfl) :
    Calls Tryz.prog 8 #[] w fun e w' => e = .returned (.bool r) ∧ Below w.heap.size w w' := by
  have HT_ := Aside0.mk hT_
  clear hT_
  have HB := Aside0.mk (Below.refl w.heap.size w)
  have H : ((data_Write.f k ([] : List (S54)) 2 126 (⟨#[97, 98, 99]⟩ : ByteArray)).bind fun bt234 => ((item_Apply.f k ([] : List (S54)) bt234.1).bind fun bt238 => ((data_Read.f k bt238.1 2 129 127 9).bind fun bt242 => ((data_Cut.f k bt238.1 2 127).bind fun bt244 => ((data_Write.f k ([] : List (S54)) 2 65535 (⟨#[97, 98]⟩ : ByteArray)).bind fun bt248 => (if (bt234.1.length : Int) = 2 then (if bt234.2 = 0 then (if bt238.2 = 0 then (if bt242.1.toList = ([98, 99] : List UInt8) then (if bt242.2 = 0 then (if (bt244.1.length : Int) = 2 then (if 0 < (bt244.1.length : Int) then (if (rd_T43 bt244.1 0).f1 = true then (if 1 < (bt244.1.length : Int) then (if ((rd_T43 bt244.1 1).f1 = true) then (some false) else (if bt244.2 = 0 then (some (bt248.2 == 1)) else (some false))) else (none)) else (some false)) else (none)) else (some false)) else (some false)) else (some false)) else (some false)) else (some false)) else (some false))))))) = some r := h
  clear h
  replace H := Option.bind_eq_some_iff.mp H
  obtain ⟨⟨t234, t235⟩, A10, H⟩ := H
  replace H : ((item_Apply.f k ([] : List (S54)) t234).bind fun bt238 => ((data_Read.f k bt238.1 2 129 127 9).bind fun bt242 => ((data_Cut.f k bt238.1 2 127).bind fun bt244 => ((data_Write.f k ([] : List (S54)) 2 65535 (⟨#[97, 98]⟩ : ByteArray)).bind fun bt248 => (if (t234.length : Int) = 2 then (if t235 = 0 then (if bt238.2 = 0 then (if bt242.1.toList = ([98, 99] : List UInt8) then (if bt242.2 = 0 then (if (bt244.1.length : Int) = 2 then (if 0 < (bt244.1.length : Int) then (if (rd_T43 bt244.1 0).f1 = true then (if 1 < (bt244.1.length : Int) then (if ((rd_T43 bt244.1 1).f1 = true) then (some false) else (if bt244.2 = 0 then (some (bt248.2 == 1)) else (some false))) else (none)) else (some false)) else (none)) else (some false)) else (some false)) else (some false)) else (some false)) else (some false)) else (some false)))))) = some r := H
  have A1 := Aside0.mk A10
  clear A10
  replace H := Option.bind_eq_some_iff.mp H
  obtain ⟨⟨t238, t239⟩, A20, H⟩ := H
  replace H : ((data_Read.f k t238 2 129 127 9).bind fun bt242 => ((data_Cut.f k t238 2 127).bind fun bt244 => ((data_Write.f k ([] : List (S54)) 2 65535 (⟨#[97, 98]⟩ : ByteArray)).bind fun bt248 => (if (t234.length : Int) = 2 then (if t235 = 0 then (if t239 = 0 then (if bt242.1.toList = ([98, 99] : List UInt8) then (if bt242.2 = 0 then (if (bt244.1.length : Int) = 2 then (if 0 < (bt244.1.length : Int) then (if (rd_T43 bt244.1 0).f1 = true then (if 1 < (bt244.1.length : Int) then (if ((rd_T43 bt244.1 1).f1 = true) then (some false) else (if bt244.2 = 0 then (some (bt248.2 == 1)) else (some false))) else (none)) else (some false)) else (none)) else (some false)) else (some false)) else (some false)) else (some false)) else (some false)) else (some false))))) = some r := H
  have A2 := Aside0.mk A20
  clear A20
  replace H := Option.bind_eq_some_iff.mp H
  obtain ⟨⟨t242, t243⟩, A30, H⟩ := H
  replace H : ((data_Cut.f k t238 2 127).bind fun bt244 => ((data_Write.f k ([] : List (S54)) 2 65535 (⟨#[97, 98]⟩ : ByteArray)).bind fun bt248 => (if (t234.length : Int) = 2 then (if t235 = 0 then (if t239 = 0 then (if t242.toList = ([98, 99] : List UInt8) then (if t243 = 0 then (if (bt244.1.length : Int) = 2 then (if 0 < (bt244.1.length : Int) then (if (rd_T43 bt244.1 0).f1 = true then (if 1 < (bt244.1.length : Int) then (if ((rd_T43 bt244.1 1).f1 = true) then (some false) else (if bt244.2 = 0 then (some (bt248.2 == 1)) else (some false))) else (none)) else (some false)) else (none)) else (some false)) else (some false)) else (some false)) else (some false)) else (some false)) else (some false)))) = some r := H
  have A3 := Aside0.mk A30
  clear A30
  replace H := Option.bind_eq_some_iff.mp H
  obtain ⟨⟨t244, t245⟩, A40, H⟩ := H
  replace H : ((data_Write.f k ([] : List (S54)) 2 65535 (⟨#[97, 98]⟩ : ByteArray)).bind fun bt248 => (if (t234.length : Int) = 2 then (if t235 = 0 then (if t239 = 0 then (if t242.toList = ([98, 99] : List UInt8) then (if t243 = 0 then (if (t244.length : Int) = 2 then (if 0 < (t244.length : Int) then (if (rd_T43 t244 0).f1 = true then (if 1 < (t244.length : Int) then (if ((rd_T43 t244 1).f1 = true) then (some false) else (if t245 = 0 then (some (bt248.2 == 1)) else (some false))) else (none)) else (some false)) else (none)) else (some false)) else (some false)) else (some false)) else (some false)) else (some false)) else (some false))) = some r := H
  have A4 := Aside0.mk A40
  clear A40
  replace H := Option.bind_eq_some_iff.mp H
  obtain ⟨⟨t248, t249⟩, A50, H⟩ := H
  replace H : (if (t234.length : Int) = 2 then (if t235 = 0 then (if t239 = 0 then (if t242.toList = ([98, 99] : List UInt8) then (if t243 = 0 then (if (t244.length : Int) = 2 then (if 0 < (t244.length : Int) then (if (rd_T43 t244 0).f1 = true then (if 1 < (t244.length : Int) then (if ((rd_T43 t244 1).f1 = true) then (some false) else (if t245 = 0 then (some (t249 == 1)) else (some false))) else (none)) else (some false)) else (none)) else (some false)) else (some false)) else (some false)) else (some false)) else (some false)) else (some false)) = some r := H
  have A5 := Aside0.mk A50
  clear A50
  by_cases c6 : (t234.length : Int) = 2
  · rw [if_pos c6] at H
    have c6b0 : ((t234.length : Int) == 2) = true := beq_iff_eq.mpr c6
    have c6b1 : ((t234.length : Int) != 2) = false := bne_eq_false_iff_eq.mpr c6
    clear c6
    by_cases c7 : t235 = 0
    · rw [if_pos c7] at H
      have c7b0 : (t235 == 0) = true := beq_iff_eq.mpr c7
      have c7b1 : (t235 != 0) = false := bne_eq_false_iff_eq.mpr c7
      clear c7
      by_cases c8 : t239 = 0
      · rw [if_pos c8] at H
        have c8b0 : (t239 == 0) = true := beq_iff_eq.mpr c8
        have c8b1 : (t239 != 0) = false := bne_eq_false_iff_eq.mpr c8
        clear c8
        by_cases c9 : t242.toList = ([98, 99] : List UInt8)
        · rw [if_pos c9] at H
          have c9b0 : (t242.toList == ([98, 99] : List UInt8)) = true := beq_iff_eq.mpr c9
          have c9b1 : (t242.toList != ([98, 99] : List UInt8)) = false := bne_eq_false_iff_eq.mpr c9
          clear c9
          by_cases c10 : t243 = 0
          · rw [if_pos c10] at H
            have c10b0 : (t243 == 0) = true := beq_iff_eq.mpr c10
            have c10b1 : (t243 != 0) = false := bne_eq_false_iff_eq.mpr c10
            clear c10
            by_cases c11 : (t244.length : Int) = 2
            · rw [if_pos c11] at H
              have c11b0 : ((t244.length : Int) == 2) = true := beq_iff_eq.mpr c11
              have c11b1 : ((t244.length : Int) != 2) = false := bne_eq_false_iff_eq.mpr c11
              clear c11
              by_cases c12 : 0 < (t244.length : Int)
              · rw [if_pos c12] at H
                have c12b0 : decide (0 < (t244.length : Int)) = true := decide_eq_true c12
                have c12b1 : decide (0 < t244.length) = true := decide_eq_true (by omega)
                clear c12
                obtain ⟨bq13, hbq13⟩ : ∃ b_ : Bool, b_ = ((rd_T43 t244 0).f1) := ⟨_, rfl⟩
                replace H : (if bq13 = true then (if 1 < (t244.length : Int) then (if ((rd_T43 t244 1).f1 = true) then (some false) else (if t245 = 0 then (some (t249 == 1)) else (some false))) else (none)) else (some false)) = some r := by rw [← hbq13] at H; exact H
                have Nbq13 := Aside0.mk hbq13
                clear hbq13
                by_cases c14 : bq13 = true
                · subst c14
                  have H1 : (if 1 < (t244.length : Int) then (if ((rd_T43 t244 1).f1 = true) then (some false) else (if t245 = 0 then (some (t249 == 1)) else (some false))) else (none)) = some r := by rw [if_pos rfl] at H; exact H
                  clear H
                  have H := H1
                  clear H1
                  by_cases c15 : 1 < (t244.length : Int)
                  · rw [if_pos c15] at H
                    have c15b0 : decide (1 < (t244.length : Int)) = true := decide_eq_true c15
                    have c15b1 : decide (1 < t244.length) = true := decide_eq_true (by omega)
                    clear c15
                    obtain ⟨bq16, hbq16⟩ : ∃ b_ : Bool, b_ = ((rd_T43 t244 1).f1) := ⟨_, rfl⟩
                    replace H : (if (bq16 = true) then (some false) else (if t245 = 0 then (some (t249 == 1)) else (some false))) = some r := by rw [← hbq16] at H; exact H
                    have Nbq16 := Aside0.mk hbq16
                    clear hbq16
                    by_cases c17 : (bq16 = true)
                    · subst c17
                      have H1 : (some false) = some r := by rw [if_pos rfl] at H; exact H
                      clear H
                      have H := H1
                      clear H1
                      exact absurd ((Option.some.inj H).trans HT_.out) (by simp)
                    replace c17 := Bool.eq_false_iff.mpr c17
                    subst c17
                    have H1 : (if t245 = 0 then (some (t249 == 1)) else (some false)) = some r := by rw [if_neg (show ¬ (false = true) by decide)] at H; exact H
                    clear H
                    have H := H1
                    clear H1
                    by_cases c18 : t245 = 0
                    · rw [if_pos c18] at H
                      have c18b0 : (t245 == 0) = true := beq_iff_eq.mpr c18
                      have c18b1 : (t245 != 0) = false := bne_eq_false_iff_eq.mpr c18
                      clear c18
                      obtain rfl := Option.some.inj H
                      go_enter Tryz.func8, Tryz.ntmps8
                      go_wp2_with (first | ((with_reducible refine gate_callee (f := 9) rfl ?_); refine gl_ (some 12) Tryz.func9 #[.slice none 0 0, .int .u32 2, .int .u32 126, .string (⟨#[97, 98, 99]⟩ : ByteArray)] ?_; (refine (data_Write.calls k _ _ ([] : List (S54)) 2 126 (⟨#[97, 98, 99]⟩ : ByteArray) t234 t235 _ ?side1 ?side2 A1.out).mono ?_); (case side1 => exact Kd.C_nil _ _); (case side2 => exact Nat.le_refl _); rintro e w19 ⟨v236, rfl, ho0, hb⟩; refine ⟨_, rfl, ?_⟩; have HO237 := rl_ ho0; replace HB := hb_ hb; (try clear hb); (try clear hb2); (try clear hk); (try clear hi); (try clear ho0); obtain ⟨Ao20, co20, eo20⟩ := Kd.R_slice HO237.out; subst eo20) | ((with_reducible refine gate_callee (f := 10) rfl ?_); refine gl_ (some 17) Tryz.func10 #[.slice none 0 0, .slice Ao20 t234.length co20] ?_; (refine (item_Apply.calls k _ _ ([] : List (S54)) _ _ t234 t238 t239 _ ?side1 ?side2 ?side3 ?side4 A2.out).mono ?_); (case side1 => exact Kd.C_nil _ _); (case side2 => exact Nat.le_refl _); (case side3 => exact cr_ HO237); (case side4 => exact (Kd.R_reads' HO237.out).2.1); rintro e w21 ⟨v240, rfl, ho0, hb⟩; refine ⟨_, rfl, ?_⟩; have HO241 := rl_ ho0; replace HO237 := rb_ HO237 hb; replace HB := hb_ hb; (try clear hb); (try clear hb2); (try clear hk); (try clear hi); (try clear ho0); obtain ⟨Ao22, co22, eo22⟩ := Kd.R_slice HO241.out; subst eo22) | ((with_reducible refine gate_callee (f := 11) rfl ?_); refine gl_ (some 22) Tryz.func11 #[.slice Ao22 t238.length co22, .int .u32 2, .int .u32 129, .int .u32 127, .int .u32 9] ?_; (with_reducible refine (data_Read.calls k _ _ t238 2 129 127 9 t242 t243 _ ?side1 ?side2 A3.out).mono ?_); (case side1 => exact cr_ HO241); (case side2 => exact (Kd.R_reads' HO241.out).2.1); rintro e w23 ⟨rfl, hb⟩; refine ⟨_, rfl, ?_⟩; replace HO237 := rb_ HO237 hb; replace HO241 := rb_ HO241 hb; replace HB := hb_ hb; (try clear hb); (try clear hb2); (try clear hk); (try clear hi)) | ((with_reducible refine gate_callee (f := 12) rfl ?_); refine gl_ (some 27) Tryz.func12 #[.slice Ao22 t238.length co22, .int .u32 2, .int .u32 127] ?_; (with_reducible refine (data_Cut.calls k _ _ t238 2 127 t244 t245 _ ?side1 ?side2 A4.out).mono ?_); (case side1 => exact cr_ HO241); (case side2 => exact (Kd.R_reads' HO241.out).2.1); rintro e w24 ⟨v246, rfl, ho0, hb⟩; refine ⟨_, rfl, ?_⟩; have HO247 := Aside0.mk (Kd.R_lower (Kd.R_new' ho0 (Kd.R_lt (ra_ HO237))) (below_size bel_)); replace HO237 := Aside0.mk (Kd.R_elder' (ra_ HO237) (Kd.R_base ho0) hb); replace HO241 := rb_ HO241 hb; replace HB := hb_ hb; (try clear hb); (try clear hb2); (try clear hk); (try clear hi); (try clear ho0)) | ((with_reducible refine gate_callee (f := 9) rfl ?_); refine gl_ (some 31) Tryz.func9 #[.slice none 0 0, .int .u32 2, .int .u32 65535, .string (⟨#[97, 98]⟩ : ByteArray)] ?_; (refine (data_Write.calls k _ _ ([] : List (S54)) 2 65535 (⟨#[97, 98]⟩ : ByteArray) t248 t249 _ ?side1 ?side2 A5.out).mono ?_); (case side1 => exact Kd.C_nil _ _); (case side2 => exact Nat.le_refl _); rintro e w25 ⟨v250, rfl, ho0, hb⟩; refine ⟨_, rfl, ?_⟩; have HO251 := Aside0.mk (Kd.R_lower (Kd.R_new' (Kd.R_new' ho0 (Kd.R_lt (ra_ HO237))) (Kd.R_lt (ra_ HO247))) (below_size bel_)); replace HO237 := Aside0.mk (Kd.R_elder' (ra_ HO237) (Kd.R_base ho0) hb); replace HO241 := rb_ HO241 hb; replace HO247 := Aside0.mk (Kd.R_elder' (ra_ HO247) (Kd.R_base ho0) hb); replace HB := hb_ hb; (try clear hb); (try clear hb2); (try clear hk); (try clear hi); (try clear ho0); obtain ⟨Ao26, co26, eo26⟩ := Kd.R_slice HO247.out; subst eo26; have p252 : 0 ≤ (0 : Int) := (by omega); have q252 : 0 < (t244.length : Int) := of_decide_eq_true (by first | (with_reducible assumption) | assumption); obtain ⟨ad252, e252, hx252_0, hx252_1, hx252_2⟩ := at_T43 (Kd.R_reads' HO247.out).2.2 0 p252 q252; (try rw [← Nbq13.out] at hx252_1); (try rw [← Nbq16.out] at hx252_1); cases e252; have qi252 : (0 < t244.length) = True := eq_true (by omega); (try rw [show ((0 : Int)).toNat = 0 from rfl] at hx252_0); (try rw [show 0 * 3 = 0 from rfl] at hx252_0); (try rw [Addr.add_zero'] at hx252_0); (try rw [show ((0 : Int)).toNat = 0 from rfl] at hx252_1); (try rw [show 0 * 3 = 0 from rfl] at hx252_1); (try rw [Addr.add_zero'] at hx252_1); (try rw [show ((0 : Int)).toNat = 0 from rfl] at hx252_2); (try rw [show 0 * 3 = 0 from rfl] at hx252_2); (try rw [Addr.add_zero'] at hx252_2); replace p252 := eq_true p252; replace q252 := eq_true q252; have p253 : 0 ≤ (1 : Int) := (by omega); have q253 : 1 < (t244.length : Int) := of_decide_eq_true (by first | (with_reducible assumption) | assumption); obtain ⟨ad253, e253, hx253_0, hx253_1, hx253_2⟩ := at_T43 (Kd.R_reads' HO247.out).2.2 1 p253 q253; (try rw [← Nbq13.out] at hx253_1); (try rw [← Nbq16.out] at hx253_1); obtain rfl : ad252 = ad253 := (by injection e253); (try simp only [show (1 : Int).toNat = 1 from rfl, Nat.reduceMul, Nat.reduceEqDiff, Go.Addr.add, ↓reduceIte] at hx253_0); (try simp only [show (1 : Int).toNat = 1 from rfl, Nat.reduceMul, Nat.reduceEqDiff, Go.Addr.add, ↓reduceIte] at hx253_1); (try simp only [show (1 : Int).toNat = 1 from rfl, Nat.reduceMul, Nat.reduceEqDiff, Go.Addr.add, ↓reduceIte] at hx253_2); have qi253 : (1 < t244.length) = True := eq_true (by omega); (try rw [show ((1 : Int)).toNat = 1 from rfl] at hx253_0); (try rw [show 1 * 3 = 3 from rfl] at hx253_0); (try rw [show ((1 : Int)).toNat = 1 from rfl] at hx253_1); (try rw [show 1 * 3 = 3 from rfl] at hx253_1); (try rw [show ((1 : Int)).toNat = 1 from rfl] at hx253_2); (try rw [show 1 * 3 = 3 from rfl] at hx253_2); replace p253 := eq_true p253; replace q253 := eq_true q253))
                      go_ret
                      exact ⟨by first | rfl | (simp [errW_none, errW_some] <;> rfl) | (simp [*, errW_none, errW_some] <;> rfl), bel_⟩
                    rw [if_neg c18] at H
                    have c18b0 : (t245 == 0) = false := beq_eq_false_iff_ne.mpr c18
                    have c18b1 : (t245 != 0) = true := bne_iff_ne.mpr c18
                    exact absurd ((Option.some.inj H).trans HT_.out) (by simp)
                  rw [if_neg c15] at H
                  exact absurd H (by simp)
                replace c14 := Bool.eq_false_iff.mpr c14
                subst c14
                have H1 : (some false) = some r := by rw [if_neg (show ¬ (false = true) by decide)] at H; exact H
                clear H
                have H := H1
                clear H1
                exact absurd ((Option.some.inj H).trans HT_.out) (by simp)
              rw [if_neg c12] at H
              exact absurd H (by simp)
            rw [if_neg c11] at H
            have c11b0 : ((t244.length : Int) == 2) = false := beq_eq_false_iff_ne.mpr c11
            have c11b1 : ((t244.length : Int) != 2) = true := bne_iff_ne.mpr c11
            exact absurd ((Option.some.inj H).trans HT_.out) (by simp)
          rw [if_neg c10] at H
          have c10b0 : (t243 == 0) = false := beq_eq_false_iff_ne.mpr c10
          have c10b1 : (t243 != 0) = true := bne_iff_ne.mpr c10
          exact absurd ((Option.some.inj H).trans HT_.out) (by simp)
        rw [if_neg c9] at H
        have c9b0 : (t242.toList == ([98, 99] : List UInt8)) = false := beq_eq_false_iff_ne.mpr c9
        have c9b1 : (t242.toList != ([98, 99] : List UInt8)) = true := bne_iff_ne.mpr c9
        exact absurd ((Option.some.inj H).trans HT_.out) (by simp)
      rw [if_neg c8] at H
      have c8b0 : (t239 == 0) = false := beq_eq_false_iff_ne.mpr c8
      have c8b1 : (t239 != 0) = true := bne_iff_ne.mpr c8
      exact absurd ((Option.some.inj H).trans HT_.out) (by simp)
    rw [if_neg c7] at H
    have c7b0 : (t235 == 0) = false := beq_eq_false_iff_ne.mpr c7
    have c7b1 : (t235 != 0) = true := bne_iff_ne.mpr c7
    exact absurd ((Option.some.inj H).trans HT_.out) (by simp)
  rw [if_neg c6] at H
  have c6b0 : ((t234.length : Int) == 2) = false := beq_eq_false_iff_ne.mpr c6
  have c6b1 : ((t234.length : Int) != 2) = true := bne_iff_ne.mpr c6
  exact absurd ((Option.some.inj H).trans HT_.out) (by simp)

end Go.Proofs.YtnngbhdofgodiaaGreatDoor.Z
end

section
/- 'lives' of the statements on data is true; the answers' forms. -/
namespace Go.Proofs.YtnngbhdofgodiaaGreatDoor.Z
open Go.RowKit Go.Proofs.YtnngbhdofgodiaaGreatDoorW.PrintWords Go.Proofs.YtnngbhdofgodiaaGreatDoorW.PrintLast Go.Proofs.YtnngbhdofgodiaaGreatDoorW.PrintMore Go.Proofs.YtnngbhdofgodiaaGreatDoor.PM
set_option linter.unusedVariables false
set_option linter.unusedSimpArgs false
theorem wf32 {n : Int} (h : (Lit.int .u32 n).wf = true) : 0 ≤ n ∧ n < 4294967296 := by
  have := (Lit.wf_int_iff .u32 n).1 h
  simp only [IntKind.min, IntKind.max, IntKind.signed, IntKind.bits] at this
  simp at this
  omega
theorem writeS_ok {l : List It} (hk : okL l = true) {ino off : Int} (h0 : ino ≠ 0) (ho : 0 ≤ off) {s : ByteArray} (h : off + s.size ≤ 65536) : writeS l ino off s = (wrC l ino off.toNat s.data.toList, 0) := by
  unfold writeS wrC
  rw [if_pos hk, if_neg (fun h' => h'.elim h0 (by omega)), sizeL]
theorem writeS_bad {l : List It} {ino off : Int} {s : ByteArray} (h : ¬ (okL l = true ∧ ino ≠ 0 ∧ off + s.size ≤ 65536)) : ∃ e, writeS l ino off s = ([], e) ∧ e ≠ 0 := by
  unfold writeS
  by_cases hk : okL l = true
  · rw [if_pos hk, if_pos (by
      by_cases h0 : ino = 0
      · exact .inl h0
      · exact .inr (by
          by_cases h1 : off + s.size ≤ 65536
          · exact absurd ⟨hk, h0, h1⟩ h
          · omega))]
    exact ⟨1, rfl, by decide⟩
  · rw [if_neg hk]
    exact ⟨4, rfl, by decide⟩
theorem cutSS_ok {l : List It} (hk : okL l = true) {ino len : Int} (h0 : ino ≠ 0) (h : len ≤ 65536) : cutSS l ino len = (cuC l ino len, 0) := by
  unfold cutSS cuC
  rw [if_pos hk, if_neg (fun h' => h'.elim h0 (by omega))]
theorem cutSS_bad {l : List It} {ino len : Int} (h : ¬ (okL l = true ∧ ino ≠ 0 ∧ len ≤ 65536)) : ∃ e, cutSS l ino len = ([], e) ∧ e ≠ 0 := by
  unfold cutSS
  by_cases hk : okL l = true
  · rw [if_pos hk, if_pos (by
      by_cases h0 : ino = 0
      · exact .inl h0
      · exact .inr (by
          by_cases h1 : len ≤ 65536
          · exact absurd ⟨hk, h0, h1⟩ h
          · omega))]
    exact ⟨1, rfl, by decide⟩
  · rw [if_neg hk]
    exact ⟨4, rfl, by decide⟩
theorem readS_ok {l : List It} (hk : okL l = true) {ino len off n : Int} (h0 : ino ≠ 0) (h : len ≤ 65536) : readS l ino len off n = (ba ((List.range' off.toNat ((min len (off + n)).toNat - off.toNat)).map (byteD l ino)), 0) := by
  unfold readS
  rw [if_pos hk, if_neg (fun h' => h'.elim h0 (by omega))]
theorem readS_zero {l : List It} (hk : okL l = true) (len off n : Int) : readS l 0 len off n = (⟨#[]⟩, 1) := by
  unfold readS
  rw [if_pos hk, if_pos (.inl rfl)]
theorem readS_one {l : List It} (hk : okL l = true) {ino k : Int} (h0 : ino ≠ 0) (h : 0 ≤ k ∧ k < 65536) : readS l ino 65536 k 1 = (ba [byteD l ino k.toNat], 0) := by
  rw [readS_ok hk h0 (by decide), show min (65536 : Int) (k + 1) = k + 1 by omega, show (k + 1).toNat - k.toNat = 1 by omega]
  rfl
theorem aplS_ok {l : List It} {cs : List Ch} (hk : okL l = true) (hc : okC cs = true) : aplS l cs = (apl l cs, 0) := by
  unfold aplS
  rw [hk, hc]
  rfl
theorem mapR (f : Nat → UInt8) (p : Nat) (s : List UInt8) : (List.range' p s.length).map (layF f p s) = s := by
  refine List.ext_getElem? (fun i => ?_)
  rw [List.getElem?_map]
  rcases Nat.lt_or_ge i s.length with h | h
  · rw [List.getElem?_range' h, Option.map_some]
    unfold layF
    rw [if_pos (by omega), show p + 1 * i - p = i by omega, List.getD_eq_getElem?_getD, List.getElem?_eq_getElem h]
    rfl
  · rw [List.getElem?_eq_none (by rw [List.length_range']; exact h), List.getElem?_eq_none h]
    rfl
theorem lives_f : Ev (fun k => cambiumlaw13_lives.f k) true := by
  have h2 : (0 : Int) < 2 ∧ (2 : Int) < 4294967296 := by decide
  have hk : okL ([] : List It) = true := rfl
  have hb : 126 + ([97, 98, 99] : List UInt8).length ≤ 65536 := by decide
  obtain ⟨t0, ht0⟩ : ∃ t, t = laidT [] 2 126 [97, 98, 99] 0 := ⟨_, rfl⟩
  obtain ⟨t1, ht1⟩ : ∃ t, t = laidT [] 2 126 [97, 98, 99] 1 := ⟨_, rfl⟩
  have e0 : opt t0 = some (List.replicate 126 0 ++ [97, 98]) := by rw [ht0]; kernel_rfl
  have e1 : opt t1 = some [99] := by rw [ht1]; kernel_rfl
  have f0 : (!t0.data.toList.isEmpty) = true := by rw [ht0]; kernel_rfl
  have f1 : (!t1.data.toList.isEmpty) = true := by rw [ht1]; kernel_rfl
  have z0 : t0.size = 128 := by rw [ht0]; kernel_rfl
  have hcs : wrC [] 2 126 [97, 98, 99] = [⟨ba (kc 2 0), true, t0⟩, ⟨ba (kc 2 1), true, t1⟩] := by
    unfold wrC
    rw [show js 126 ([97, 98, 99] : List UInt8).length = [0, 1] by kernel_rfl]
    simp only [List.flatMap_cons, List.flatMap_nil, List.append_nil]
    rw [← ht0, ← ht1]
    unfold keepS
    rw [if_neg (by rw [e0]; unfold lk look; simp), if_neg (by rw [e1]; unfold lk look; simp), f0, f1]
    rfl
  have hless := kc_less 2 (c := 0) (d := 1) (by decide) (by decide)
  have hm : apl [] (wrC [] 2 126 [97, 98, 99]) = [(⟨ba (kc 2 0), t0⟩ : It), ⟨ba (kc 2 1), t1⟩] := by
    rw [hcs]
    have hl2 : Op.bytesLess (kc 2 0) (kc 2 1) = true := hless
    show put (put [] ⟨ba (kc 2 0), true, t0⟩) ⟨ba (kc 2 1), true, t1⟩ = _
    rw [show put [] (⟨ba (kc 2 0), true, t0⟩ : Ch) = [(⟨ba (kc 2 0), t0⟩ : It)] from rfl]
    simp [put, lo, up, hi, new_, List.takeWhile, List.dropWhile, key, ck, ba_toList, hl2]
  have hd := wrC_done hk h2 hb
  have hB := fun (q : Nat) (hq : q < 65536) => wrC_byte hk h2 hb hq
  have hokc := wrC_okC [] h2 hb
  have hmk : okL (apl [] (wrC [] 2 126 [97, 98, 99])) = true := apl_ok hk hokc
  have b1 := hB 127 (by decide)
  have b2 := hB 128 (by decide)
  rw [show layF (byteD [] 2) 126 [97, 98, 99] 127 = 98 by kernel_rfl] at b1
  rw [show layF (byteD [] 2) 126 [97, 98, 99] 128 = 99 by kernel_rfl] at b2
  have hl0 := hd.1 0 (by rw [show js 126 ([97, 98, 99] : List UInt8).length = [0, 1] by kernel_rfl]; simp)
  rw [← ht0, e0] at hl0
  have hwr : writeS [] 2 126 ⟨#[97, 98, 99]⟩ = (wrC [] 2 126 [97, 98, 99], 0) := writeS_ok hk (by decide) (by decide) (by decide)
  have hrd : readS (apl [] (wrC [] 2 126 [97, 98, 99])) 2 129 127 9 = (ba [98, 99], 0) := by
    rw [readS_ok hmk (by decide) (by decide)]
    rw [show (List.range' (127 : Int).toNat ((min (129 : Int) (127 + 9)).toNat - (127 : Int).toNat)) = [127, 128] by decide]
    rw [List.map_cons, List.map_cons, List.map_nil, b1, b2]
  have hlen : (apl [] (wrC [] 2 126 [97, 98, 99])).length ≤ 4398046511104 := by rw [hm]; simp
  obtain ⟨u, hu⟩ : ∃ u, u = cutT 127 0 t0 := ⟨_, rfl⟩
  have eu : opt u = some (List.replicate 126 0 ++ [97]) := by rw [hu, ht0]; kernel_rfl
  have fu : (!u.data.toList.isEmpty) = true := by rw [hu, ht0]; kernel_rfl
  have hcut : cuC (apl [] (wrC [] 2 126 [97, 98, 99])) 2 127 = [⟨ba (kc 2 0), true, u⟩, ⟨ba (kc 2 1), false, ⟨#[]⟩⟩] := by
    unfold cuC
    have ho : own (apl [] (wrC [] 2 126 [97, 98, 99])) 2 = [(⟨ba (kc 2 0), t0⟩ : It), ⟨ba (kc 2 1), t1⟩] := by
      rw [own_eq, hm]
      have k0 : isK 2 (key (⟨ba (kc 2 0), t0⟩ : It)) = true := (isK_iff h2 _).2 ⟨0, by decide, ba_toList _⟩
      have k1 : isK 2 (key (⟨ba (kc 2 1), t1⟩ : It)) = true := (isK_iff h2 _).2 ⟨1, by decide, ba_toList _⟩
      rw [List.filter_cons_of_pos (p := fun x => isK 2 (key x)) k0, List.filter_cons_of_pos (p := fun x => isK 2 (key x)) k1]
      rfl
    have c0 : chOf (⟨ba (kc 2 0), t0⟩ : It) = 0 := chOf_key h2 (by decide) (ba_toList _)
    have c1 : chOf (⟨ba (kc 2 1), t1⟩ : It) = 1 := chOf_key h2 (by decide) (ba_toList _)
    rw [ho]
    simp only [List.flatMap_cons, List.flatMap_nil, List.append_nil]
    unfold cutS
    rw [c0, c1]
    dsimp only
    rw [if_neg (by decide), z0, if_pos (by decide), if_pos (by decide)]
    unfold keepS
    rw [hl0, ← hu, eu, if_neg (by
      intro h
      have h := congrArg (fun z => z.map List.length) h
      simp at h), fu]
    rfl
  have hw5 : writeS [] 2 65535 ⟨#[97, 98]⟩ = ([], 1) := by
    unfold writeS
    rw [if_pos hk, if_pos (.inr (by decide))]
  unfold cambiumlaw13_lives.f
  refine Ev.bind (Ev.val (data_Write_f [] (by decide) ⟨#[97, 98, 99]⟩ ⟨by decide, by decide⟩ ⟨by decide, by decide⟩ (by decide)) hwr) ?_
  refine Ev.bind (Ev.val (itApply [] _ (by rw [hcs]; simp)) (aplS_ok hk hokc)) ?_
  refine Ev.bind (Ev.val (data_Read_f _ hlen ⟨by decide, by decide⟩ (by decide) ⟨by decide, by decide⟩ ⟨by decide, by decide⟩) hrd) ?_
  refine Ev.bind (Ev.val (data_Cut_f _ hlen ⟨by decide, by decide⟩ ⟨by decide, by decide⟩) (cutSS_ok hmk (by decide) (by decide))) ?_
  refine Ev.bind (Ev.val (data_Write_f [] (by decide) ⟨#[97, 98]⟩ ⟨by decide, by decide⟩ ⟨by decide, by decide⟩ (by decide)) hw5) ?_
  rw [hcut, hcs]
  exact Ev.ifp rfl (Ev.ifp rfl (Ev.ifp rfl (Ev.ifp (ba_toList _) (Ev.ifp rfl (Ev.ifp rfl (Ev.ifp (by simp) (Ev.ifp rfl (Ev.ifp (by simp) (Ev.ifn (by show ¬ (false = true); decide) (Ev.ifp rfl (Ev.const rfl)))))))))))
end Go.Proofs.YtnngbhdofgodiaaGreatDoor.Z
end

section
/- What a reading of an argument as data gives a contract: the values of a kind (Kd), well formed, and their bulk. -/
namespace Go.Proofs.YtnngbhdofgodiaaGreatDoor.Z
open Go.ChangeShapes Go.WideShapes Go.ChangeAt Go.RowKit Go.Deep Go.Proofs.YtnngbhdofgodiaaGreatDoorW.PrintWords Go.Proofs.YtnngbhdofgodiaaGreatDoorW.PrintLast
set_option linter.unusedVariables false
/-- Every reading of type t's cells is one of d, is G, and is of bulk B at least. -/
def Opens {α : Type} (P : Program) (t : TypeId) (d : Kd α) (G : α → Prop) (B : α → Nat) : Prop :=
  d.sz = P.cellsOf t ∧ ∀ {H : Type} {enc : TypeId × Value → H} {w : World} {base : Nat} {spare : Nat → Bool} {held : Bool} {fuel : Nat} {cs : List Value} {x : DataW H × List MemPlace},
    DataW.trod enc P w base spare held fuel t cs = some x → ∃ a, d.K w a cs ∧ G a ∧ B a ≤ Rows.uptoBulk x.1
theorem Opens.bool {P : Program} {t : TypeId} (ht : P.underlying t = some .bool) (hc : P.cellsOf t = 1) : Opens P t Kd.bool (fun _ => True) (fun _ => 1) := by
  refine ⟨hc.symm, fun h => ?_⟩
  obtain ⟨b, rfl, rfl⟩ := DataW.trod_bool ht h
  exact ⟨b, rfl, trivial, by simp [Rows.uptoBulk]⟩
theorem Opens.int {P : Program} {t : TypeId} {k : IntKind} (ht : P.underlying t = some (.int k)) (hc : P.cellsOf t = 1) : Opens P t (Kd.int k) (fun n => (Lit.int k n).wf = true) (fun _ => 1) := by
  refine ⟨hc.symm, fun h => ?_⟩
  obtain ⟨b, rfl, rfl, hw⟩ := DataW.trod_int ht h
  exact ⟨b, rfl, hw, by simp [Rows.uptoBulk]⟩
theorem Opens.string {P : Program} {t : TypeId} (ht : P.underlying t = some .string) (hc : P.cellsOf t = 1) : Opens P t Kd.string (fun s => s.size ≤ maxLen) (fun s => s.size + 1) := by
  refine ⟨hc.symm, fun h => ?_⟩
  obtain ⟨b, rfl, rfl, hw⟩ := DataW.trod_string ht h
  exact ⟨b, rfl, hw, by simp [Rows.uptoBulk]⟩
theorem bulk_len {H : Type} (l : List (DataW H)) {α : Type} {B : α → Nat} (xs : List α) (hl : xs.length = l.length) (h : ∀ (i : Nat) (a : α) (y : DataW H), xs[i]? = some a → l[i]? = some y → B a ≤ Rows.uptoBulk y) : (xs.map B).sum ≤ Rows.uptoBulkAll l := by
  induction l generalizing xs with
  | nil => have : xs = [] := List.eq_nil_of_length_eq_zero hl; subst this; simp [Rows.uptoBulkAll]
  | cons y l ih =>
    cases xs with
    | nil => simp at hl
    | cons a xs =>
      simp only [List.map_cons, List.sum_cons, Rows.uptoBulkAll]
      have h0 := h 0 a y rfl rfl
      have h1 := ih xs (by simpa using hl) (fun i a y ha hy => h (i + 1) a y (by simpa using ha) (by simpa using hy))
      omega
theorem list_of_each {α : Type} (p : Nat → α → Prop) : ∀ n : Nat, (∀ i, i < n → ∃ a, p i a) → ∃ l : List α, l.length = n ∧ ∀ i a, l[i]? = some a → p i a
  | 0, _ => ⟨[], rfl, fun i a h => by simp at h⟩
  | n + 1, h => by
    obtain ⟨l, hl, hp⟩ := list_of_each p n (fun i hi => h i (by omega))
    obtain ⟨a, ha⟩ := h n (by omega)
    refine ⟨l ++ [a], by simp [hl], fun i b hb => ?_⟩
    rcases Nat.lt_or_ge i l.length with hi | hi
    · rw [List.getElem?_append_left hi] at hb; exact hp i b hb
    · have hi2 : i = l.length := by
        have := (List.getElem?_eq_some_iff.1 hb).1
        simp at this; omega
      subst hi2
      have hb2 : a = b := by simpa using hb
      subst hb2
      rw [hl]; exact ha
/-- A slice, opened. -/
theorem Opens.row {α : Type} {P : Program} {t e : TypeId} {d : Kd α} {G : α → Prop} {B : α → Nat} (ht : P.underlying t = some (.slice e)) (hO : Opens P e d G B) (hpos : 0 < P.cellsOf e)
    {H : Type} {enc : TypeId × Value → H} {w : World} {base : Nat} {spare : Nat → Bool} {held : Bool} {fuel : Nat} {cs : List Value} {x : DataW H × List MemPlace} (h : DataW.trod enc P w base spare held fuel t cs = some x) :
    ∃ (A : Option Addr) (c : Nat) (l : List α), cs = [.slice A l.length c] ∧ l.length ≤ c ∧ c ≤ maxLen ∧ Kd.C d w A l.length l ∧ (∀ a ∈ l, G a) ∧ (l.map B).sum + 1 ≤ Rows.uptoBulk x.1 ∧ (x.1 = .nil ∧ l = [] ∨ ∃ el sp, x.1 = .slice el sp ∧ el.length = l.length) := by
  rcases DataW.trod_slice ht h with ⟨rfl, rfl⟩ | ⟨a, len, cap, elems, rest, n, _, rfl, rfl, hb, hl, hm, hlen, hel, _, _⟩
  · exact ⟨none, 0, [], rfl, Nat.le_refl _, Nat.zero_le _, Kd.C_nil _ _, by simp, by simp [Rows.uptoBulk], Or.inl ⟨rfl, rfl⟩⟩
  · have each : ∀ i, i < len → ∃ a' : α, ∃ cs' y, w.cells? base (a.add (i * P.cellsOf e)) (P.cellsOf e) = some cs' ∧ elems[i]? = some y ∧ d.K w a' cs' ∧ G a' ∧ B a' ≤ Rows.uptoBulk y.1 := by
      intro i hi
      have h1 := hel i hi
      obtain ⟨y, hy⟩ : ∃ y, elems[i]? = some y := ⟨elems[i]'(by omega), List.getElem?_eq_getElem (by omega)⟩
      rw [hy, Option.bind_eq_some_iff] at h1
      obtain ⟨cs', hcs, htr⟩ := h1
      obtain ⟨a', hK, hG, hB⟩ := hO.2 htr
      exact ⟨a', cs', y, hcs, hy, hK, hG, hB⟩
    obtain ⟨l, hll, hp⟩ := list_of_each _ len each
    subst hll
    refine ⟨some a, cap, l, rfl, hl, hm, ⟨rfl, by unfold maxLen at hm; omega, fun _ => ⟨a, rfl, fun j p hj => ?_⟩⟩, ?_, ?_, Or.inr ⟨_, _, rfl, by simpa using hlen⟩⟩
    · obtain ⟨cs', y, hcs, _, hK, _, _⟩ := hp j p hj
      obtain ⟨_, hln, hc⟩ := World.cells?_some hcs
      refine ⟨cs', by rw [hln, hO.1], hK, fun i u hu => ?_⟩
      have hi : i < P.cellsOf e := by rw [← hln]; exact (List.getElem?_eq_some_iff.1 hu).1
      have := hc i hi
      rw [hu] at this
      rw [hO.1, ← this]
      congr 1
      have hs : a.spot = none := by
        have h0 := hc 0 hpos
        rw [List.getElem?_eq_getElem (by omega)] at h0
        cases hsp : a.spot with
        | none => rfl
        | some s =>
          rcases Nat.eq_zero_or_pos (j * P.cellsOf e) with hz | hz
          · rw [hz] at h0
            have : w.cell? a = some _ := h0
            unfold World.cell? at this
            rw [hsp] at this
            split at this <;> simp at this
          · have hl0 : 0 < l.length := by have := (List.getElem?_eq_some_iff.1 hj).1; omega
            obtain ⟨p0, hp0⟩ : ∃ p0, l[0]? = some p0 := ⟨l[0], List.getElem?_eq_getElem hl0⟩
            obtain ⟨cs0, y0, hcs0, _, _, _, _⟩ := hp 0 p0 hp0
            obtain ⟨_, hln0, hc0⟩ := World.cells?_some hcs0
            have h00 := hc0 0 hpos
            rw [List.getElem?_eq_getElem (by omega), Nat.zero_mul] at h00
            have : w.cell? a = some _ := h00
            unfold World.cell? at this
            rw [hsp] at this
            split at this <;> simp at this
      obtain ⟨b, o, s⟩ := a
      simp only at hs
      subst hs
      rw [add_at, add_at, add_at, Nat.add_assoc]
    · intro b hb
      obtain ⟨i, hi⟩ := List.getElem?_of_mem hb
      exact (hp i b hi).choose_spec.choose_spec.2.2.2.1
    · simp only [Rows.uptoBulk]
      have := bulk_len (elems.map (·.1)) (B := B) l (by simp [hlen]) (fun i b y hb hy => by
        obtain ⟨cs', y', _, hy', _, _, hB⟩ := hp i b hb
        rw [List.getElem?_map, hy'] at hy
        simp at hy
        subst hy
        exact hB)
      omega
/-- A struct of fields of one cell: each field's cell and reading. -/
theorem flat_fields {P : Program} {t : TypeId} {fs : Array Field} (ht : P.underlying t = some (.struct fs)) (hone : oneCellFields P fs = true) (hC : P.cellsOf t = fs.size)
    {H : Type} {enc : TypeId × Value → H} {w : World} {base : Nat} {spare : Nat → Bool} {held : Bool} {fuel : Nat} {cs : List Value} {x : DataW H × List MemPlace} (h : DataW.trod enc P w base spare held fuel t cs = some x) :
    ∃ (ys : List (DataW H × List MemPlace)) (n : Nat), cs.length = fs.size ∧ ys.length = fs.size ∧ x.1 = .agg (ys.map (·.1)) ∧ ∀ (i : Nat) (f : Field) (c : Value), fs[i]? = some f → cs[i]? = some c → DataW.trod enc P w base spare held n f.type [c] = ys[i]? := by
  obtain ⟨xs, n, _, rfl, hl, hlen, hf⟩ := DataW.trod_struct ht h
  refine ⟨xs, n, hl.trans hC, hlen, rfl, fun i f c hfi hc => ?_⟩
  have h1 := hf i f hfi
  obtain ⟨o0, k0⟩ := hone_of hone i f hfi
  rw [o0, k0] at h1
  rw [← h1]
  congr 1
  have hi := (List.getElem?_eq_some_iff.1 hc).1
  rw [List.drop_eq_getElem_cons hi, List.take_succ_cons, List.take_zero]
  rw [List.getElem?_eq_getElem hi] at hc
  simp at hc
  rw [hc]
/-- A slice among the arguments: its length, by the form's reach. -/
theorem sized_row {H : Type} {P : Program} {ts : List TypeId} {ds : List (DataW H)} {j : Nat} {t e : TypeId} {d : DataW H} {α : Type} {l : List α}
    (hsz : (DataW.weightsEach P ts ds).all (· ≤ reachBytes) = true) (ht : ts[j]? = some t) (hd : ds[j]? = some d) (hu : P.underlying t = some (.slice e)) {b : Nat} (hb : P.bytesOf e = b)
    (hx : d = .nil ∧ l = [] ∨ ∃ el sp, d = .slice el sp ∧ el.length = l.length) : l.length * b ≤ 140737488351232 := by
  rcases hx with ⟨_, rfl⟩ | ⟨el, sp, rfl, hl⟩
  · simp
  · have := sized_slice hsz ht hd hu
    rw [hb, hl] at this
    exact Nat.le_trans (Nat.mul_le_mul_right _ (Nat.le_add_right _ _)) this
/-- A slice that is a field of an argument: its length, by the form's reach. -/
theorem sized_field {H : Type} {P : Program} {ts : List TypeId} {ds : List (DataW H)} {j i : Nat} {t u e : TypeId} {d y : DataW H} {parts : List (DataW H)} {fs : Array Field} {α : Type} {l : List α}
    (hsz : (DataW.weightsEach P ts ds).all (· ≤ reachBytes) = true) (ht : ts[j]? = some t) (hd : ds[j]? = some d) (hx : d = .agg parts) (hu : P.underlying t = some (.struct fs)) (hf : (fs.toList.map (·.type))[i]? = some u) (hp : parts[i]? = some y)
    (hu2 : P.underlying u = some (.slice e)) {b : Nat} (hb : P.bytesOf e = b) (hy : y = .nil ∧ l = [] ∨ ∃ el sp, y = .slice el sp ∧ el.length = l.length) : l.length * b ≤ 140737488351232 := by
  rcases hy with ⟨_, rfl⟩ | ⟨el, sp, rfl, hl⟩
  · simp
  · have h1 : (el.length + sp.length) * P.bytesOf e ∈ DataW.weights P t d := by
      subst hx
      simp only [DataW.weights, hu]
      exact DataW.weights_mem_each hf hp _ (by simp [DataW.weights, hu2])
    have h2 := List.all_eq_true.1 hsz _ (DataW.weights_mem_each ht hd _ h1)
    rw [decide_eq_true_eq, hb, hl] at h2
    exact Nat.le_trans (Nat.mul_le_mul_right _ (Nat.le_add_right _ _)) h2
theorem string_len {s : ByteArray} : s.data.toList.length = s.size := by rw [Array.length_toList]; rfl
end Go.Proofs.YtnngbhdofgodiaaGreatDoor.Z
end

section
-- Printed by a program of this session (mp.py): what a reading gives of the kinds that are arguments.
namespace Go.Proofs.YtnngbhdofgodiaaGreatDoor.Z
open Go.ChangeShapes Go.WideShapes Go.ChangeAt Go.RowKit Go.Deep Go.Proofs.YtnngbhdofgodiaaGreatDoorW.PrintWords
set_option linter.unusedVariables false
def G54 (x : S54) : Prop := x.f0.size ≤ maxLen ∧ x.f1.size ≤ maxLen
def B54 (x : S54) : Nat := (x.f0.size + 1) + (x.f1.size + 1) + 1
theorem opens54 : Opens Tryz.prog 54 k54 G54 B54 := by
  refine ⟨by kernel_rfl, fun {H enc w base spare held fuel cs x} h => ?_⟩
  obtain ⟨ys, n, hl, hy, hx, hf⟩ := flat_fields Tryz.underlying54 (by kernel_rfl) (by kernel_rfl) h
  match cs, hl with
  | [c0, c1], _ =>
    match ys, hy with
    | [y0, y1], _ =>
      obtain ⟨a0, k0, g0, b0⟩ := (Opens.string Tryz.underlying9 (by kernel_rfl)).2 (hf 0 _ c0 rfl rfl)
      obtain ⟨a1, k1, g1, b1⟩ := (Opens.string Tryz.underlying9 (by kernel_rfl)).2 (hf 1 _ c1 rfl rfl)
      refine ⟨⟨a0, a1⟩, ⟨[c0], [c1], rfl, k0, k1⟩, ⟨g0, g1⟩, ?_⟩
      rw [hx]
      simp only [Rows.uptoBulk, Rows.uptoBulkAll, List.map_cons, List.map_nil, B54]
      dsimp only at b0 b1
      omega
end Go.Proofs.YtnngbhdofgodiaaGreatDoor.Z
end
