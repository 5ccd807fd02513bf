/- What the functions of package path, and the reference's, come to: the plain definitions. -/
import Derived.Test.YtjemaajliodmhaaHPMath
import Derived.Test.YtjemaajliodmhaaHPath
import Derived.Test.YtjemaajliodmhaaHLast
import Derived.Test.YtjemaajliodmhaaHUnder
import Derived.Test.YtjemaajliodmhaaZf17
import Derived.Test.YtjemaajliodmhaaZf18
import Derived.Test.YtjemaajliodmhaaZf14
namespace Go.Proofs.Ytjemaajliodmhaa.Z
open Go.RowKit Go.Proofs.YtjemaajliodmhaaW.PrintWords Go.Proofs.YtjemaajliodmhaaW.PrintLast Go.Proofs.Ytjemaajliodmhaa.PM
set_option linter.unusedVariables false
theorem Ev.val {α : Type} {g : Nat → Option α} {a b : α} (h : Ev g a) (e : a = b) : Ev g b := e ▸ h
theorem Ev.const {α : Type} {x : Option α} {r : α} (h : x = some r) : Ev (fun _ => x) r := ⟨0, fun _ _ => h⟩
theorem Ev.ifp {α : Type} {c : Prop} [Decidable c] {f g : Nat → Option α} {r : α} (hc : c) (h : Ev f r) : Ev (fun k => if c then f k else g k) r := Ev.congr (fun k => if_pos hc) h
theorem Ev.ifn {α : Type} {c : Prop} [Decidable c] {f g : Nat → Option α} {r : α} (hc : ¬ c) (h : Ev g r) : Ev (fun k => if c then f k else g k) r := Ev.congr (fun k => if_neg hc) h
theorem Ev.bindc {α β : Type} {x : Option α} {f : Nat → α → Option β} {a : α} {r : β} (h : x = some a) (k : Ev (fun n => f n a) r) : Ev (fun n => x.bind (f n)) r := Ev.bind (Ev.const h) k
theorem Ev.both {α : Type} {g : Nat → Option α} {a b : α} (h : Ev g a) (h2 : Ev g b) : a = b := by
  obtain ⟨K, h⟩ := h
  obtain ⟨K2, h2⟩ := h2
  have e1 := h (max K K2) (by omega)
  have e2 := h2 (max K K2) (by omega)
  rw [e1] at e2
  exact Option.some.inj e2
theorem w64 {i : Int} (h0 : -9223372036854775808 ≤ i) (h1 : i ≤ 9223372036854775807) : wrap64 i = i := by unfold wrap64; omega
theorem index_mem (l : List UInt8) (c : UInt8) : 0 ≤ Lib.indexByte l c ↔ c ∈ l := by
  induction l with
  | nil => simp [Lib.indexByte]
  | cons b l ih =>
    unfold Lib.indexByte
    by_cases hb : b = c
    · subst hb; simp
    · have hb2 : (b == c) = false := by simpa using hb
      rw [hb2]
      by_cases h1 : Lib.indexByte l c = -1
      · have hn : c ∉ l := fun hm => by have := ih.2 hm; omega
        simp [h1, hn, Ne.symm hb]
      · have := Lib.indexByte_ge l c
        have hm : c ∈ l := ih.1 (by omega)
        have h2 : (Lib.indexByte l c == -1) = false := by simpa using h1
        simp [h2, hm]; omega
theorem bt_get (s : ByteArray) (i : Nat) (h : i < s.data.toList.length) : bt s (i : Int) = ((s.data.toList[i]).toNat : Int) := by
  have hs : i < s.size := by rw [Array.length_toList] at h; exact h
  unfold bt
  rw [dif_pos (by simpa using hs)]
  simp only [Int.toNat_natCast, Array.getElem_toList]
  rfl
theorem byte_eq (x : UInt8) (n : Nat) (hn : n < 256) : ((x.toNat : Int) = n) ↔ x = n.toUInt8 := by
  constructor
  · intro h
    have : x.toNat = n := by omega
    rw [← UInt8.toNat_inj]
    simp [this]; omega
  · intro h; subst h; simp; omega
theorem toList_nil (a : ByteArray) : a.toList = [] ↔ a.data.toList = [] := by rw [ByteArray.toList_eq]
theorem size_len (a : ByteArray) : a.size = a.data.toList.length := by rw [Array.length_toList]; rfl

theorem nameB_eq (a : ByteArray) : nameB a = nameL a.data.toList := by
  unfold nameB nameL
  rw [ByteArray.toList_eq]
  have h1 := index_mem a.data.toList 47
  have h2 := index_mem a.data.toList 0
  have hs := size_len a
  rw [Bool.eq_iff_iff]
  simp only [Bool.and_eq_true, decide_eq_true_eq, Bool.not_eq_true', decide_eq_false_iff_not, h1, h2]
  constructor
  · rintro ⟨a1, a2, a3, a4, a5, a6⟩; exact ⟨a1, by omega, a3, a4, a5, a6⟩
  · rintro ⟨a1, a2, a3, a4, a5, a6⟩; exact ⟨a1, by omega, a3, a4, a5, a6⟩
theorem name_f (a : ByteArray) : path_Name.f a = some (nameL a.data.toList) := congrArg some (nameB_eq a)
/-- What the reference's Name asks behind its loop. -/
def tailB (a : ByteArray) : Bool := decide (a.data.toList ≠ [] ∧ a.data.toList.length ≤ 24 ∧ a.data.toList ≠ [46] ∧ a.data.toList ≠ [46, 46])
theorem refName_l0 (a : ByteArray) (hs : a.size ≤ 9223372036854775807) : ∀ d i : Nat, a.data.toList.length = i + d →
    Ev (fun k => cambiumref11_Name.l0 k a (i : Int)) (decide (47 ∉ a.data.toList.drop i ∧ 0 ∉ a.data.toList.drop i) && tailB a)
  | 0, i, hi => by
    refine Ev.step (fun k => by rw [cambiumref11_Name.l0]) ?_
    have hz := size_len a
    refine Ev.ifn (by omega) (Ev.const ?_)
    rw [List.drop_of_length_le (by omega)]
    unfold tailB
    rw [ByteArray.toList_eq]
    by_cases h1 : a.data.toList = []
    · simp [h1]
    · rw [if_neg h1]
      by_cases h2 : (a.size : Int) ≤ 24
      · rw [if_pos h2]
        by_cases h3 : a.data.toList = [46]
        · rw [if_pos h3, h3]; simp
        · rw [if_neg h3]
          have h2' : a.data.toList.length ≤ 24 := by omega
          have hl : decide (¬a.data.toList = [] ∧ a.data.toList.length ≤ 24 ∧ ¬a.data.toList = [46] ∧ ¬a.data.toList = [46, 46]) = (a.data.toList != [46, 46]) := by
            rw [Bool.eq_iff_iff]; simp only [decide_eq_true_eq, bne_iff_ne, ne_eq]
            exact ⟨fun h => h.2.2.2, fun h => ⟨h1, h2', h3, h⟩⟩
          simp only [ne_eq] at hl ⊢
          rw [hl]; simp
      · rw [if_neg h2]; simp; omega
  | d + 1, i, hi => by
    refine Ev.step (fun k => by rw [cambiumref11_Name.l0]) ?_
    have hz := size_len a
    refine Ev.ifp (by omega) (Ev.ifp (by omega) ?_)
    have hlt : i < a.data.toList.length := by omega
    rw [bt_get a i hlt, List.drop_eq_getElem_cons hlt]
    have e47 := byte_eq (a.data.toList[i]) 47 (by decide)
    have e0 := byte_eq (a.data.toList[i]) 0 (by decide)
    by_cases h47 : ((a.data.toList[i].toNat : Int)) = 47
    · refine Ev.ifp h47 (Ev.const ?_)
      have : a.data.toList[i] = 47 := e47.1 h47
      simp [this]
    · refine Ev.ifn h47 ?_
      by_cases h0 : ((a.data.toList[i].toNat : Int)) = 0
      · refine Ev.ifp h0 (Ev.const ?_)
        have : a.data.toList[i] = 0 := e0.1 h0
        simp [this]
      · refine Ev.ifn h0 ?_
        rw [w64 (by omega) (by omega)]
        have ih := refName_l0 a hs d (i + 1) (by omega)
        refine Ev.val ih ?_
        have n1 : a.data.toList[i] ≠ 47 := fun e => h47 (e47.2 e)
        have n2 : a.data.toList[i] ≠ 0 := fun e => h0 (e0.2 e)
        congr 1
        generalize a.data.toList[i] = b at *
        generalize a.data.toList.drop (i + 1) = r at *
        simp only [List.mem_cons, Ne.symm n1, Ne.symm n2, false_or]
theorem refName (a : ByteArray) (hs : a.size ≤ 9223372036854775807) : Ev (fun k => cambiumref11_Name.f k a) (nameL a.data.toList) := by
  refine Ev.val (refName_l0 a hs a.data.toList.length 0 (by omega)) ?_
  unfold tailB nameL
  rw [Bool.eq_iff_iff]
  simp only [List.drop_zero, Bool.and_eq_true, decide_eq_true_eq]
  constructor
  · rintro ⟨⟨a1, a2⟩, a3, a4, a5, a6⟩; exact ⟨a3, a4, a1, a2, a5, a6⟩
  · rintro ⟨a3, a4, a1, a2, a5, a6⟩; exact ⟨⟨a1, a2⟩, a3, a4, a5, a6⟩

/-! ### Split -/
def baP (x : List (List UInt8) × Int) : List ByteArray × Int := (x.1.map ba, x.2)
theorem cut_f (s : ByteArray) (hs : s.size ≤ 9223372036854775806) :
    (47 ∉ s.data.toList ∧ strings_Cut.f s ⟨#[47]⟩ = some (s, ⟨#[]⟩, false)) ∨
    ∃ a b, s.data.toList = a ++ 47 :: b ∧ 47 ∉ a ∧ strings_Cut.f s ⟨#[47]⟩ = some (ba a, ba b, true) := by
  have hidx : stringslite_Index.f s ⟨#[47]⟩ = some (Lib.indexByte s.data.toList 47) := by unfold stringslite_Index.f; rw [dif_pos (by rfl)]; rfl
  have hz := size_len s
  by_cases h : 0 ≤ Lib.indexByte s.data.toList 47
  · right
    obtain ⟨o, ho⟩ : ∃ o : Nat, Lib.indexByte s.data.toList 47 = o := ⟨_, (Int.toNat_of_nonneg h).symm⟩
    obtain ⟨h1, h2⟩ := Lib.indexByte_some ho
    obtain ⟨hlt, hget⟩ := List.getElem?_eq_some_iff.1 h1
    refine ⟨s.data.toList.take o, s.data.toList.drop (o + 1), ?_, ?_, ?_⟩
    · rw [← hget, ← List.drop_eq_getElem_cons hlt, List.take_append_drop]
    · intro hm
      obtain ⟨j, hj, hje⟩ := List.getElem_of_mem hm
      rw [List.length_take] at hj
      exact h2 j (by omega) (by rw [List.getElem_take] at hje; rw [← hje]; exact List.getElem?_eq_getElem (by omega))
    · unfold strings_Cut.f stringslite_Cut.f
      rw [hidx, ho]
      have s1 : ((⟨#[47]⟩ : ByteArray).size : Int) = 1 := rfl
      simp only [Option.bind_some, s1]
      rw [if_pos (by omega), if_pos (by omega), if_pos (by omega), w64 (by omega) (by omega), if_pos (by omega), if_pos (by omega)]
      simp only [Option.bind_some, Option.some.injEq, Prod.mk.injEq, and_true]
      constructor
      · rw [Lib.extract_eq]; simp [ba]
      · rw [Lib.extract_eq]
        have : ((o : Int) + 1).toNat = o + 1 := by omega
        rw [this, hz]
        unfold ba
        rw [List.take_of_length_le (by simp)]
  · left
    refine ⟨fun hm => h ((index_mem _ _).2 hm), ?_⟩
    unfold strings_Cut.f stringslite_Cut.f
    rw [hidx]
    simp only [Option.bind_some]
    rw [if_neg (by omega)]
    rfl
theorem split_l0 : ∀ (m : Nat) (rest : ByteArray) (acc : List ByteArray), rest.data.toList.length ≤ m → acc.length + rest.data.toList.length ≤ 1000 →
    Ev (fun k => path_Split.l0 k rest acc) (if (splitL rest.data.toList).all nameL then (acc ++ (splitL rest.data.toList).map ba, 0) else ([], 10))
  | m, rest, acc, hm, hb => by
    refine Ev.step (fun k => by rw [path_Split.l0]) ?_
    have hz := size_len rest
    rcases cut_f rest (by omega) with ⟨hno, hc⟩ | ⟨a, b, hab, hno, hc⟩
    · refine Ev.bindc hc (Ev.bindc (name_f _) ?_)
      simp only
      rw [splitL_none _ hno]
      by_cases hn : nameL rest.data.toList = true
      · refine Ev.ifp hn (Ev.ifp (by omega) (Ev.bindc rfl (Ev.ifn (by simp) (Ev.const ?_))))
        simp [hn, data_ba]
      · refine Ev.ifn hn (Ev.const ?_)
        simp [hn]
    · refine Ev.bindc hc (Ev.bindc (name_f _) ?_)
      simp only [ba_data]
      rw [hab, splitL_at _ _ hno]
      have hl : rest.data.toList.length = a.length + b.length + 1 := by rw [hab]; simp; omega
      by_cases hn : nameL a = true
      · refine Ev.ifp hn (Ev.ifp (by omega) (Ev.bindc rfl (Ev.ifp trivial ?_)))
        cases m with
        | zero => omega
        | succ m =>
          have ih := split_l0 m (ba b) (acc ++ [ba a]) (by rw [ba_data]; omega) (by rw [ba_data]; simp; omega)
          rw [ba_data] at ih
          refine Ev.val ih ?_
          simp [hn]
      · refine Ev.ifn hn (Ev.const ?_)
        simp [hn]
theorem cutPrefix_f (s : ByteArray) : strings_CutPrefix.f s ⟨#[47]⟩ = some (match s.data.toList with | 47 :: r => (ba r, true) | _ => (s, false)) := by
  have hz := size_len s
  have s1 : ((⟨#[47]⟩ : ByteArray).size : Int) = 1 := rfl
  have s2 : (⟨#[47]⟩ : ByteArray).toList = [47] := by rw [ByteArray.toList_eq]
  unfold strings_CutPrefix.f stringslite_CutPrefix.f stringslite_HasPrefix.f
  simp only [s1, s2]
  cases hd : s.data.toList with
  | nil =>
    have h0 : s.size = 0 := by rw [hz, hd]; rfl
    rw [if_neg (by omega)]; rfl
  | cons c r =>
    rw [hd] at hz
    simp only [List.length_cons] at hz
    rw [if_pos (by omega), if_pos (by omega), if_pos (by omega)]
    have e1 : (s.extract 0 (1 : Int).toNat).toList = [c] := by rw [Lib.extract_toList, hd]; rfl
    rw [e1]
    by_cases hc : c = 47
    · subst hc
      simp only [Option.bind_some, beq_self_eq_true, if_true]
      rw [if_pos (by omega), if_pos (by omega)]
      simp only [Option.bind_some, Option.some.injEq, Prod.mk.injEq, and_true]
      rw [Lib.extract_eq, hd]
      simp [ba, hz]
    · have hb : ([c] == ([47] : List UInt8)) = false := by simpa using hc
      rw [hb]
      simp only [Option.bind_some]
      rw [if_neg (by simp)]
      split
      · rename_i heq; injection heq with h1 _; exact absurd h1 hc
      · rfl
theorem split_f (p : ByteArray) : Ev (fun k => path_Split.f k p) (baP (pathSpec p.data.toList)) := by
  have hz := size_len p
  unfold path_Split.f pathSpec
  by_cases h256 : (p.size : Int) > 256
  · refine Ev.ifp h256 (Ev.const ?_)
    rw [if_pos (by omega)]; rfl
  · refine Ev.ifn h256 (Ev.bindc (cutPrefix_f p) ?_)
    rw [if_neg (by omega)]
    cases hd : p.data.toList with
    | nil => exact Ev.ifn (by simp) (Ev.const rfl)
    | cons c r =>
      by_cases hc : c = 47
      · subst hc
        refine Ev.ifp rfl ?_
        simp only
        by_cases hr : r = []
        · subst hr
          refine Ev.ifp (by rw [ba_toList]) (Ev.const rfl)
        · refine Ev.ifn (by rw [ba_toList]; exact hr) ?_
          rw [hd] at hz
          simp only [List.length_cons] at hz
          refine Ev.val (split_l0 _ (ba r) [] (Nat.le_refl _) (by rw [ba_data]; simp; omega)) ?_
          rw [ba_data, if_pos trivial, if_neg hr]
          split <;> simp [baP]
      · have : (match c :: r with | 47 :: r => (ba r, true) | _ => (p, false)) = (p, false) := by
          split
          · rename_i heq; injection heq with h1 _; exact absurd h1 hc
          · rfl
        rw [this]
        refine Ev.ifn (by simp) (Ev.const ?_)
        simp only
        rw [if_neg hc]; rfl
/-! ### the reference's Split -/
theorem ref_l0 (p : ByteArray) (hp : p.data.toList.length ≤ 256) : ∀ (d i : Nat) (acc : List ByteArray) (nm : List UInt8), p.data.toList.length + 1 = i + d → acc.length + nm.length ≤ i →
    Ev (fun k => cambiumref11_Split.l0 k p acc (ba nm) (i : Int)) (if i = p.data.toList.length + 1 then (acc, 0) else if (pre nm (splitL (p.data.toList.drop i))).all nameL then (acc ++ (pre nm (splitL (p.data.toList.drop i))).map ba, 0) else ([], 10))
  | 0, i, acc, nm, hi, ha => by
    have hz := size_len p
    refine Ev.step (fun k => by rw [cambiumref11_Split.l0]) (Ev.ifn (by omega) (Ev.const ?_))
    rw [if_pos (by omega)]
  | d + 1, i, acc, nm, hi, ha => by
    have hz := size_len p
    refine Ev.step (fun k => by rw [cambiumref11_Split.l0]) (Ev.ifp (by omega) ?_)
    rw [if_neg (by omega)]
    have hadd : wrap64 ((i : Int) + 1) = ((i + 1 : Nat) : Int) := by rw [w64 (by omega) (by omega)]; omega
    have fin : ∀ (g : List (List UInt8)), pre nm (splitL (p.data.toList.drop i)) = nm :: g → Ev (fun k => cambiumref11_Split.l0 k p (acc ++ [ba nm]) (ba []) ((i + 1 : Nat) : Int)) (if g.all nameL then (acc ++ [ba nm] ++ g.map ba, 0) else ([], 10)) →
        Ev (fun k => cambiumref11_Split.j2 k p acc (ba nm) (i : Int) false) (if (pre nm (splitL (p.data.toList.drop i))).all nameL then (acc ++ (pre nm (splitL (p.data.toList.drop i))).map ba, 0) else ([], 10)) := by
      intro g hg hE
      refine Ev.step (fun k => by rw [cambiumref11_Split.j2]) (Ev.ifn (by simp) (Ev.bind (refName (ba nm) (by rw [ba_size]; omega)) ?_))
      rw [ba_data, hg]
      by_cases hn : nameL nm = true
      · refine Ev.ifp hn (Ev.ifp (by omega) ?_)
        rw [hadd]
        refine Ev.val hE ?_
        simp [hn]
      · refine Ev.ifn hn (Ev.const ?_)
        simp [hn]
    by_cases hlt : i < p.data.toList.length
    · refine Ev.ifp (by omega) (Ev.ifp (by omega) ?_)
      rw [bt_get p i hlt]
      have e47 := byte_eq (p.data.toList[i]) 47 (by decide)
      by_cases hc : p.data.toList[i] = 47
      · have hb : (((p.data.toList[i].toNat : Int)) != 47) = false := by simpa using e47.2 hc
        rw [hb]
        have ih := ref_l0 p hp d (i + 1) (acc ++ [ba nm]) [] (by omega) (by simp; omega)
        rw [if_neg (by omega), pre_nil (splitL_ne _)] at ih
        refine fin _ ?_ ih
        rw [List.drop_eq_getElem_cons hlt, hc, splitL_cons_eq]; simp [pre]
      · have hb : (((p.data.toList[i].toNat : Int)) != 47) = true := by simpa using fun e => hc (e47.1 e)
        rw [hb]
        have ex : p.extract i (i + 1) = ba [p.data.toList[i]] := by
          rw [Lib.extract_eq, List.drop_eq_getElem_cons hlt]; simp [ba]
        have ih := ref_l0 p hp d (i + 1) acc (nm ++ [p.data.toList[i]]) (by omega) (by simp; omega)
        rw [if_neg (by omega)] at ih
        refine Ev.step (fun k => by rw [cambiumref11_Split.j2]) (Ev.ifp rfl ?_)
        rw [hadd]
        have t1 : ((i : Nat) : Int).toNat = i := by omega
        have t2 : ((i + 1 : Nat) : Int).toNat = i + 1 := by omega
        rw [t1, t2, ex, ba_app, ba_size, ba_size]
        refine Ev.ifp (by omega) (Ev.ifp (by omega) (Ev.ifp (by omega) (Ev.ifp (by simp; omega) ?_)))
        refine Ev.val ih ?_
        rw [← pre_pre, ← splitL_cons_ne hc, ← List.drop_eq_getElem_cons hlt]
    · refine Ev.ifn (by omega) ?_
      have ih := ref_l0 p hp d (i + 1) (acc ++ [ba nm]) [] (by omega) (by simp; omega)
      rw [if_pos (by omega)] at ih
      refine fin [] ?_ (Ev.val ih (by simp))
      rw [List.drop_of_length_le (by omega)]; simp [splitL, pre]
theorem refSplit_f (p : ByteArray) : Ev (fun k => cambiumref11_Split.f k p) (baP (pathSpec p.data.toList)) := by
  have hz := size_len p
  unfold cambiumref11_Split.f pathSpec
  by_cases h256 : (p.size : Int) > 256
  · refine Ev.ifp h256 (Ev.const ?_)
    rw [if_pos (by omega)]; rfl
  · refine Ev.ifn h256 ?_
    rw [if_neg (by omega)]
    have hj : ∀ b, (b = true → (match p.data.toList with | [] => ([], 10) | c :: rest => if c = 47 then (if rest = [] then ([], 0) else if (splitL rest).all nameL then (splitL rest, 0) else ([], 10)) else (([] : List (List UInt8)), (10 : Int))) = ([], 10)) →
        (b = false → ∃ r, p.data.toList = 47 :: r) →
        Ev (fun k => cambiumref11_Split.j0 k p b) (baP (match p.data.toList with | [] => ([], 10) | c :: rest => if c = 47 then (if rest = [] then ([], 0) else if (splitL rest).all nameL then (splitL rest, 0) else ([], 10)) else ([], 10))) := by
      intro b hb1 hb2
      refine Ev.step (fun k => by rw [cambiumref11_Split.j0]) ?_
      cases b with
      | true => refine Ev.ifp rfl (Ev.const ?_); rw [hb1 rfl]; rfl
      | false =>
        obtain ⟨r, hr⟩ := hb2 rfl
        refine Ev.ifn (by simp) ?_
        rw [ByteArray.toList_eq, hr]
        simp only
        rw [if_pos trivial]
        by_cases hr0 : r = []
        · subst hr0; exact Ev.ifp rfl (Ev.const rfl)
        · refine Ev.ifn (by simpa using hr0) ?_
          rw [if_neg hr0]
          have hl : p.data.toList.length = r.length + 1 := by rw [hr]; rfl
          have h := ref_l0 p (by omega) p.data.toList.length 1 [] [] (by omega) (by simp)
          have hrl : 0 < r.length := List.length_pos_iff.2 hr0
          rw [if_neg (by omega), pre_nil (splitL_ne _), hr] at h
          refine Ev.val h ?_
          simp only [List.drop_succ_cons, List.drop_zero]
          split <;> simp [baP]
    cases hd : p.data.toList with
    | nil =>
      have h := hj true (fun _ => by rw [hd]) (fun h => by simp at h)
      rw [hd] at h
      exact Ev.ifp (by rw [toList_nil, hd]) h
    | cons c r =>
      have hl : p.data.toList.length = r.length + 1 := by rw [hd]; rfl
      refine Ev.ifn (by rw [toList_nil, hd]; simp) (Ev.ifp (by omega) ?_)
      have hb := bt_get p 0 (by omega)
      have hg : p.data.toList[0] = c := by simp only [hd]; rfl
      rw [hg] at hb
      have e47 := byte_eq c 47 (by decide)
      rw [show bt p 0 = ((c.toNat : Nat) : Int) from hb]
      rw [← hd]
      refine hj _ ?_ ?_
      · intro hh
        have hc : c ≠ 47 := fun e => by rw [e47.2 e] at hh; simp at hh
        rw [hd]; simp only; rw [if_neg hc]
      · intro hh
        have hc : c = 47 := e47.1 (by simpa using hh)
        exact ⟨r, by rw [hd, hc]⟩
/-! ### Join -/
theorem rdOf_get (l : List ByteArray) (i : Nat) (h : i < l.length) : rdOf ByteArray.empty l (i : Int) = l[i] := by
  unfold rdOf
  rw [Int.toNat_natCast, List.getD_eq_getElem?_getD, List.getElem?_eq_getElem h, Option.getD_some]
def dataL (l : List ByteArray) : List (List UInt8) := l.map (fun s => s.data.toList)
theorem dataL_len (l : List ByteArray) : (dataL l).length = l.length := by simp [dataL]
theorem all_dataL (l : List ByteArray) : (dataL l).all nameL = l.all (fun s => nameL s.data.toList) := by simp [dataL, List.all_map, Function.comp_def]
theorem idx_l0 (l : List ByteArray) (hl : l.length ≤ 9223372036854775806) : ∀ d i : Nat, l.length = i + d →
    ∃ r, Ev (fun k => slices_IndexFunc_string_string_fn25.l0 k l (l.length : Int) (i : Int)) r ∧ (0 ≤ r ↔ (l.drop i).all (fun s => nameL s.data.toList) = false)
  | 0, i, hi => by
    refine ⟨-1, Ev.step (fun k => by rw [slices_IndexFunc_string_string_fn25.l0]) (Ev.ifn (by omega) (Ev.const rfl)), ?_⟩
    rw [List.drop_of_length_le (by omega)]; simp
  | d + 1, i, hi => by
    have hlt : i < l.length := by omega
    have hcl : path_Join_1.f l[i] = some (!nameL l[i].data.toList) := by unfold path_Join_1.f; rw [name_f]; rfl
    obtain ⟨r, hr, hr2⟩ := idx_l0 l hl d (i + 1) (by omega)
    rw [List.drop_eq_getElem_cons hlt]
    by_cases hn : nameL l[i].data.toList = true
    · refine ⟨r, Ev.step (fun k => by rw [slices_IndexFunc_string_string_fn25.l0]) (Ev.ifp (by omega) (Ev.ifp (by omega) (Ev.ifp (by omega) ?_))), ?_⟩
      · rw [rdOf_get l i hlt]
        refine Ev.bindc hcl (Ev.ifn (by simp [hn]) ?_)
        rw [w64 (by omega) (by omega)]
        exact hr
      · rw [hr2, List.all_cons, hn, Bool.true_and]
    · refine ⟨(i : Int), Ev.step (fun k => by rw [slices_IndexFunc_string_string_fn25.l0]) (Ev.ifp (by omega) (Ev.ifp (by omega) (Ev.ifp (by omega) ?_))), ?_⟩
      · rw [rdOf_get l i hlt]
        exact Ev.bindc hcl (Ev.ifp (by simp [hn]) (Ev.const rfl))
      · rw [List.all_cons, eq_false_of_ne_true hn, Bool.false_and]; exact ⟨fun _ => rfl, fun _ => by omega⟩
theorem contains_f (l : List ByteArray) (hl : l.length ≤ 9223372036854775806) : Ev (fun k => slices_ContainsFunc_string_string_fn25.f k l) (!(dataL l).all nameL) := by
  obtain ⟨r, hr, hr2⟩ := idx_l0 l hl l.length 0 (by omega)
  unfold slices_ContainsFunc_string_string_fn25.f slices_IndexFunc_string_string_fn25.f
  refine Ev.bind hr (Ev.const ?_)
  rw [all_dataL]
  rw [List.drop_zero] at hr2
  congr 1
  cases h : l.all (fun s => nameL s.data.toList) with
  | true => rw [h] at hr2; simp at hr2 ⊢; omega
  | false => rw [h] at hr2; simp; exact hr2.2 rfl
theorem join_bytes (l : List ByteArray) : 47 :: joinBytes l ⟨#[47]⟩ = if l = [] then [47] else joinL (dataL l) := by
  unfold joinBytes
  cases l with
  | nil => rfl
  | cons x r =>
    rw [if_neg (by simp), List.map_cons, Lib.join_cons]
    have : Lib.joinTail [47] (List.map (fun x : ByteArray => x.data.toList) r) = joinL (dataL r) := by
      unfold Lib.joinTail joinL dataL
      rw [List.flatMap_def, List.map_map, List.map_map]
      congr 1
    rw [this]
    simp [joinL, dataL]
def baS (x : List UInt8 × Int) : ByteArray × Int := (ba x.1, x.2)
theorem join_long (ns : List (List UInt8)) (h : ns.all nameL = true) : 2 * ns.length ≤ (joinL ns).length ∧ (joinL ns).length ≤ 25 * ns.length := by
  induction ns with
  | nil => simp [joinL]
  | cons n ns ih =>
    rw [List.all_cons, Bool.and_eq_true] at h
    have ih := ih h.2
    have hn := nameL_iff.1 h.1
    have hp := List.length_pos_iff.2 hn.1
    simp only [joinL, List.flatMap_cons, List.length_append, List.length_cons] at *
    omega
theorem join_f (l : List ByteArray) (hl : l.length ≤ 9223372036854775806) : Ev (fun k => path_Join.f k l) (baS (joinSpec (dataL l))) := by
  unfold path_Join.f joinSpec
  refine Ev.bind (contains_f l hl) ?_
  by_cases ha : (dataL l).all nameL = true
  · refine Ev.ifn (by simp [ha]) ?_
    rw [if_pos ha]
    have hj := join_long _ ha
    rw [dataL_len] at hj
    by_cases h256 : (l.length : Int) > 256
    · refine Ev.ifp h256 (Ev.const ?_)
      have hne : dataL l ≠ [] := by intro e; have := congrArg List.length e; rw [dataL_len, List.length_nil] at this; omega
      rw [if_neg hne, if_pos (show 256 < (joinL (dataL l)).length by omega)]; rfl
    · refine Ev.ifn h256 ?_
      have hb := join_bytes l
      have hlen : (joinBytes l ⟨#[47]⟩).length + 1 = if l = [] then 1 else (joinL (dataL l)).length := by
        have := congrArg List.length hb
        rw [List.length_cons] at this
        rw [this]; split <;> rfl
      have hle : (joinBytes l ⟨#[47]⟩).length ≤ 25 * l.length := by split at hlen <;> omega
      have hf : strings_Join.f l ⟨#[47]⟩ = some (ba (joinBytes l ⟨#[47]⟩)) := by
        unfold strings_Join.f
        rw [if_pos ⟨by omega, by omega⟩]; rfl
      have hs : (⟨#[47]⟩ : ByteArray) ++ ba (joinBytes l ⟨#[47]⟩) = ba (if l = [] then [47] else joinL (dataL l)) := by
        rw [← hb]; exact ba_app [47] _
      refine Ev.bindc hf (Ev.ifp (by rw [ba_size]; omega) ?_)
      rw [hs, ba_size]
      by_cases hn : l = []
      · subst hn
        exact Ev.ifn (by simp) (Ev.const rfl)
      · have hne : dataL l ≠ [] := by simpa [dataL] using hn
        rw [if_neg hn, if_neg hne]
        by_cases h2 : 256 < (joinL (dataL l)).length
        · refine Ev.ifp (by omega) (Ev.const ?_); rw [if_pos h2]; rfl
        · refine Ev.ifn (by omega) (Ev.const ?_); rw [if_neg h2]; rfl
  · refine Ev.ifp (by simp [ha]) (Ev.const ?_)
    rw [if_neg ha]; rfl
theorem refJoin_l1 (l : List ByteArray) (ha : (dataL l).all nameL = true) (hl : l.length ≤ 9223372036854775806) : ∀ d i : Nat, l.length = i + d → ∀ s : List UInt8, s.length ≤ 256 →
    Ev (fun k => cambiumref11_Join.l1 k (ba s) l (l.length : Int) (i : Int)) (if 256 < (s ++ joinL (dataL (l.drop i))).length then (⟨#[]⟩, 2) else (ba (s ++ joinL (dataL (l.drop i))), 0))
  | 0, i, hi, s, hs => by
    refine Ev.step (fun k => by rw [cambiumref11_Join.l1]) (Ev.ifn (by omega) (Ev.const ?_))
    rw [List.drop_of_length_le (by omega)]
    simp [dataL, joinL]; omega
  | d + 1, i, hi, s, hs => by
    have hlt : i < l.length := by omega
    have hn : nameL l[i].data.toList = true := by
      rw [all_dataL, List.all_eq_true] at ha
      exact ha _ (List.getElem_mem hlt)
    have hnl := (nameL_iff.1 hn).2.1
    refine Ev.step (fun k => by rw [cambiumref11_Join.l1]) (Ev.ifp (by omega) (Ev.ifp (by omega) (Ev.ifp (by omega) ?_)))
    rw [rdOf_get l i hlt, List.drop_eq_getElem_cons hlt]
    have e1 : l[i] = ba l[i].data.toList := (data_ba _).symm
    have e2 : (⟨#[47]⟩ : ByteArray) ++ l[i] = ba (47 :: l[i].data.toList) := by
      conv => lhs; rw [e1]
      exact ba_app [47] _
    have hz := size_len l[i]
    rw [e2, ba_app, ba_size, ba_size, ba_size]
    refine Ev.ifp (by omega) (Ev.ifp (by simp; omega) ?_)
    have e3 : s ++ joinL (dataL (l[i] :: l.drop (i + 1))) = (s ++ 47 :: l[i].data.toList) ++ joinL (dataL (l.drop (i + 1))) := by
      generalize l[i] = y at *
      generalize l.drop (i + 1) = z at *
      simp [dataL, joinL]
    rw [e3]
    by_cases h2 : 256 < (s ++ 47 :: l[i].data.toList).length
    · refine Ev.ifp (by omega) (Ev.const ?_)
      rw [if_pos (by rw [List.length_append]; omega)]
    · refine Ev.ifn (by omega) ?_
      rw [w64 (by omega) (by omega)]
      exact refJoin_l1 l ha hl d (i + 1) (by omega) _ (by omega)
theorem refJoin_l0 (l : List ByteArray) (hs : ∀ x ∈ l, x.size ≤ 9223372036854775807) (hl : l.length ≤ 9223372036854775806) : ∀ d i : Nat, l.length = i + d → (dataL (l.take i)).all nameL = true →
    Ev (fun k => cambiumref11_Join.l0 k l l (l.length : Int) (i : Int)) (baS (joinSpec (dataL l)))
  | 0, i, hi, ht => by
    rw [List.take_of_length_le (by omega)] at ht
    refine Ev.step (fun k => by rw [cambiumref11_Join.l0]) (Ev.ifn (by omega) ?_)
    unfold joinSpec
    rw [if_pos ht]
    by_cases hn : l = []
    · subst hn; exact Ev.ifp rfl (Ev.const rfl)
    · have := List.length_pos_iff.2 hn
      refine Ev.ifn (by omega) ?_
      rw [if_neg (by simpa [dataL] using hn)]
      refine Ev.val (refJoin_l1 l ht hl l.length 0 (by omega) [] (by simp)) ?_
      simp only [List.drop_zero, List.nil_append]
      split <;> rfl
  | d + 1, i, hi, ht => by
    have hlt : i < l.length := by omega
    refine Ev.step (fun k => by rw [cambiumref11_Join.l0]) (Ev.ifp (by omega) (Ev.ifp (by omega) (Ev.ifp (by omega) ?_)))
    rw [rdOf_get l i hlt]
    have hz := hs _ (List.getElem_mem hlt)
    have hrn : Ev (fun k => cambiumref11_Name.f k l[i]) (nameL l[i].data.toList) := refName _ hz
    refine Ev.bind hrn ?_
    by_cases hn : nameL l[i].data.toList = true
    · refine Ev.ifp hn ?_
      rw [w64 (by omega) (by omega)]
      refine refJoin_l0 l hs hl d (i + 1) (by omega) ?_
      rw [all_dataL] at ht ⊢
      rw [List.take_succ_eq_append_getElem hlt, List.all_append, ht]
      simp [hn]
    · refine Ev.ifn hn (Ev.const ?_)
      unfold joinSpec
      rw [if_neg (by
        rw [all_dataL, List.all_eq_true]
        intro h; exact hn (h _ (List.getElem_mem hlt)))]
      rfl
theorem refJoin_f (l : List ByteArray) (hs : ∀ x ∈ l, x.size ≤ 9223372036854775807) (hl : l.length ≤ 9223372036854775806) : Ev (fun k => cambiumref11_Join.f k l) (baS (joinSpec (dataL l))) := by
  unfold cambiumref11_Join.f
  exact refJoin_l0 l hs hl l.length 0 (by omega) (by simp [dataL])
/-! ### Under, Same -/
def underB (a b : List ByteArray) : Bool := decide (a.length ≤ b.length ∧ a = b.take a.length)
theorem toList_inj (a b : ByteArray) : a.toList = b.toList ↔ a = b := by
  rw [ByteArray.toList_eq, ByteArray.toList_eq]
  exact ⟨fun h => by rw [← data_ba a, h, data_ba], fun h => by rw [h]⟩
theorem equal_l0 (a b : List ByteArray) (h : a.length = b.length) (hl : a.length ≤ 9223372036854775806) : ∀ d i : Nat, a.length = i + d →
    Ev (fun k => slices_Equal_string_string.l0 k a b (a.length : Int) (i : Int)) (decide (a.drop i = b.drop i))
  | 0, i, hi => by
    refine Ev.step (fun k => by rw [slices_Equal_string_string.l0]) (Ev.ifn (by omega) (Ev.const ?_))
    rw [List.drop_of_length_le (by omega), List.drop_of_length_le (by omega)]; rfl
  | d + 1, i, hi => by
    have h1 : i < a.length := by omega
    have h2 : i < b.length := by omega
    refine Ev.step (fun k => by rw [slices_Equal_string_string.l0]) (Ev.ifp (by omega) (Ev.ifp (by omega) (Ev.ifp (by omega) (Ev.ifp (by omega) ?_))))
    rw [rdOf_get a i h1, rdOf_get b i h2, List.drop_eq_getElem_cons h1, List.drop_eq_getElem_cons h2]
    by_cases hc : a[i] = b[i]
    · refine Ev.ifp ((toList_inj _ _).2 hc) ?_
      rw [w64 (by omega) (by omega)]
      refine Ev.val (equal_l0 a b h hl d (i + 1) (by omega)) ?_
      rw [hc]
      generalize b[i] = y
      generalize a.drop (i + 1) = p
      generalize b.drop (i + 1) = q
      simp
    · refine Ev.ifn (fun e => hc ((toList_inj _ _).1 e)) (Ev.const ?_)
      rw [decide_eq_false]
      intro e
      injection e with e _
      exact hc e
theorem equal_f (a b : List ByteArray) (hl : a.length ≤ 9223372036854775806) : Ev (fun k => slices_Equal_string_string.f k a b) (decide (a = b)) := by
  unfold slices_Equal_string_string.f
  by_cases h : a.length = b.length
  · refine Ev.ifp (by omega) ?_
    exact Ev.val (equal_l0 a b h hl a.length 0 (by omega)) (by simp)
  · refine Ev.ifn (by omega) (Ev.const ?_)
    rw [decide_eq_false (fun e => h (by rw [e]))]
theorem under_f (a b : List ByteArray) (hl : a.length ≤ 9223372036854775806) : Ev (fun k => path_Under.f k a b) (underB a b) := by
  unfold path_Under.f underB
  by_cases h : a.length ≤ b.length
  · refine Ev.ifp h (Ev.val (equal_f a _ hl) ?_)
    simp [h]
  · refine Ev.ifn h (Ev.const ?_)
    simp [h]
theorem refUnder_l0 (a b : List ByteArray) (hl : a.length ≤ 9223372036854775806) (hb : b.length ≤ 9223372036854775807) : ∀ d i : Nat, a.length = i + d → a.take i = b.take i → i ≤ b.length →
    Ev (fun k => cambiumref11_Under.l0 k b a (a.length : Int) (i : Int)) (underB a b)
  | 0, i, hi, ht, hib => by
    refine Ev.step (fun k => by rw [cambiumref11_Under.l0]) (Ev.ifn (by omega) (Ev.const ?_))
    have : i = a.length := by omega
    subst this
    rw [List.take_length] at ht
    unfold underB
    rw [decide_eq_true ⟨hib, ht⟩]
  | d + 1, i, hi, ht, hib => by
    have h1 : i < a.length := by omega
    refine Ev.step (fun k => by rw [cambiumref11_Under.l0]) (Ev.ifp (by omega) (Ev.ifp (by omega) (Ev.ifp (by omega) ?_)))
    by_cases h2 : i < b.length
    · refine Ev.ifn (by omega) (Ev.ifp (by omega) ?_)
      rw [rdOf_get a i h1, rdOf_get b i h2]
      by_cases hc : b[i] = a[i]
      · refine Ev.ifp ((toList_inj _ _).2 hc) ?_
        rw [w64 (by omega) (by omega)]
        refine refUnder_l0 a b hl hb d (i + 1) (by omega) ?_ (by omega)
        rw [List.take_succ_eq_append_getElem h1, List.take_succ_eq_append_getElem h2, ht, hc]
      · refine Ev.ifn (fun e => hc ((toList_inj _ _).1 e)) (Ev.const ?_)
        unfold underB
        rw [decide_eq_false]
        rintro ⟨_, e⟩
        have e2 := congrArg (fun l => l[i]?) e
        simp only [List.getElem?_take, if_pos h1, List.getElem?_eq_getElem h1, List.getElem?_eq_getElem h2, Option.some.injEq] at e2
        exact hc e2.symm
    · refine Ev.ifp (by omega) (Ev.const ?_)
      unfold underB
      rw [decide_eq_false]
      rintro ⟨h3, _⟩; omega
theorem refUnder_f (a b : List ByteArray) (hl : a.length ≤ 9223372036854775806) (hb : b.length ≤ 9223372036854775807) : Ev (fun k => cambiumref11_Under.f k a b) (underB a b) := by
  unfold cambiumref11_Under.f
  exact refUnder_l0 a b hl hb a.length 0 (by omega) (by simp) (by omega)
theorem same_f (a b : List ByteArray) (hl : a.length ≤ 9223372036854775806) (hb : b.length ≤ 9223372036854775807) : Ev (fun k => cambiumref11_Same.f k a b) (decide (a = b)) := by
  unfold cambiumref11_Same.f
  by_cases h : a.length = b.length
  · refine Ev.ifp (by omega) (Ev.bind (refUnder_f a b hl hb) (Ev.const ?_))
    unfold underB
    rw [h, List.take_length]
    simp
  · refine Ev.ifn (by omega) (Ev.const ?_)
    rw [decide_eq_false (fun e => h (by rw [e]))]
/-! ### Last -/
def baL (x : List (List UInt8) × List UInt8 × Int) : List ByteArray × ByteArray × Int := (x.1.map ba, ba x.2.1, x.2.2)
theorem lastOf_spec (p : List UInt8) : lastOf (baP (pathSpec p)) = baL (lastSpec p) := by
  unfold lastOf lastSpec baP
  simp only
  by_cases h : (pathSpec p).2 = 0
  · rw [if_pos h, if_pos h]
    by_cases hn : (pathSpec p).1 = []
    · rw [if_pos hn, if_pos (by rw [hn]; rfl)]; rfl
    · have hn2 : (pathSpec p).1.map ba ≠ [] := by simpa using hn
      rw [if_neg hn, if_neg hn2]
      have hp := List.length_pos_iff.2 hn
      simp only [baL, List.length_map, List.map_take, List.getD_eq_getElem?_getD, List.getElem?_map]
      rw [List.getElem?_eq_getElem (by omega)]
      rfl
  · rw [if_neg h, if_neg h]; rfl
theorem last_f (p : ByteArray) : Ev (fun k => path_Last.f k p) (baL (lastSpec p.data.toList)) := by
  unfold path_Last.f
  exact Ev.bind (split_f p) (Ev.const (congrArg some (lastOf_spec _)))
theorem refLast_f (p : ByteArray) : Ev (fun k => cambiumref11_Last.f k p) (baL (lastSpec p.data.toList)) := by
  unfold cambiumref11_Last.f
  exact Ev.bind (refSplit_f p) (Ev.const (congrArg some (lastOf_spec _)))
end Go.Proofs.Ytjemaajliodmhaa.Z
