/- Paths and names, as lists of bytes: the plain definitions and their laws (no program in sight). -/
import Derived.Lib.IndexLaws
import Derived.Lib.Join
import Derived.Lib.SmallJoins
namespace Go.Proofs.Ytjemaajliodmhaa.PM
/-- Bytes as a text. -/
def ba (l : List UInt8) : ByteArray := ⟨l.toArray⟩
theorem ba_data (l : List UInt8) : (ba l).data.toList = l := by simp [ba]
theorem ba_toList (l : List UInt8) : (ba l).toList = l := by rw [ByteArray.toList_eq]; exact ba_data l
theorem ba_size (l : List UInt8) : (ba l).size = l.length := by simp [ba, ByteArray.size]
theorem data_ba (s : ByteArray) : ba s.data.toList = s := by cases s; simp [ba]
theorem ba_inj {a b : List UInt8} (h : ba a = ba b) : a = b := by have := congrArg (fun s => s.data.toList) h; simpa [ba_data] using this
theorem ba_app (a b : List UInt8) : ba a ++ ba b = ba (a ++ b) := by
  have h : (ba a ++ ba b).data.toList = (ba (a ++ b)).data.toList := by rw [Go.Joins.data_append, ba_data, ba_data, ba_data]
  rw [← data_ba (ba a ++ ba b), h, data_ba]
theorem map_ba_inj {a b : List (List UInt8)} (h : a.map ba = b.map ba) : a = b := by
  have h2 := congrArg (List.map (fun s : ByteArray => s.data.toList)) h
  simpa [List.map_map, Function.comp_def, ba_data] using h2
theorem map_data (l : List ByteArray) : (l.map (fun s => s.data.toList)).map ba = l := by
  rw [List.map_map]; simp [Function.comp_def, data_ba]

/-- A name. -/
def nameL (l : List UInt8) : Bool := decide (l ≠ [] ∧ l.length ≤ 24 ∧ 47 ∉ l ∧ 0 ∉ l ∧ l ≠ [46] ∧ l ≠ [46, 46])
theorem nameL_iff {l : List UInt8} : nameL l = true ↔ (l ≠ [] ∧ l.length ≤ 24 ∧ 47 ∉ l ∧ 0 ∉ l ∧ l ≠ [46] ∧ l ≠ [46, 46]) := by simp [nameL]

/-- What stands between slashes. -/
def splitL : List UInt8 → List (List UInt8)
  | [] => [[]]
  | c :: cs => if c = 47 then [] :: splitL cs else match splitL cs with
    | h :: t => (c :: h) :: t
    | [] => [[c]]
theorem splitL_ne (l : List UInt8) : splitL l ≠ [] := by
  cases l with
  | nil => simp [splitL]
  | cons c cs =>
    unfold splitL
    split
    · simp
    · split <;> simp
/-- What has been read ahead is put before the first piece. -/
def pre (a : List UInt8) : List (List UInt8) → List (List UInt8)
  | h :: t => (a ++ h) :: t
  | [] => [a]
theorem splitL_cons_ne {c : UInt8} {cs : List UInt8} (h : c ≠ 47) : splitL (c :: cs) = pre [c] (splitL cs) := by
  conv => lhs; unfold splitL
  rw [if_neg h]
  cases splitL cs <;> rfl
theorem splitL_cons_eq (cs : List UInt8) : splitL (47 :: cs) = [] :: splitL cs := by
  conv => lhs; unfold splitL
  rw [if_pos rfl]
theorem pre_pre (a b : List UInt8) (l : List (List UInt8)) : pre a (pre b l) = pre (a ++ b) l := by cases l <;> simp [pre]
theorem pre_nil {l : List (List UInt8)} (h : l ≠ []) : pre [] l = l := by cases l <;> simp_all [pre]
theorem splitL_pre (a l : List UInt8) (h : 47 ∉ a) : splitL (a ++ l) = pre a (splitL l) := by
  induction a with
  | nil => rw [List.nil_append, pre_nil (splitL_ne l)]
  | cons c a ih =>
    rw [List.cons_append, splitL_cons_ne (fun e => h (by simp [e])), ih (fun e => h (by simp [e])), pre_pre]; rfl
theorem splitL_none (l : List UInt8) (h : 47 ∉ l) : splitL l = [l] := by
  have := splitL_pre l [] h
  rw [List.append_nil] at this
  rw [this]; simp [splitL, pre]
theorem splitL_at (a l : List UInt8) (h : 47 ∉ a) : splitL (a ++ 47 :: l) = a :: splitL l := by
  rw [splitL_pre a _ h, splitL_cons_eq]; simp [pre]
theorem splitL_no_slash : ∀ (l n : List UInt8), n ∈ splitL l → 47 ∉ n
  | [], n, h => by simp [splitL] at h; subst h; simp
  | c :: cs, n, h => by
    by_cases hc : c = 47
    · subst hc; rw [splitL_cons_eq] at h
      rcases List.mem_cons.1 h with rfl | h
      · simp
      · exact splitL_no_slash cs n h
    · rw [splitL_cons_ne hc] at h
      have hn := splitL_ne cs
      have ih := fun m => splitL_no_slash cs m
      cases hs : splitL cs with
      | nil => exact absurd hs hn
      | cons a t =>
        rw [hs] at h ih
        simp only [pre, List.singleton_append, List.mem_cons] at h
        rcases h with rfl | h
        · have := ih a (by simp)
          simp only [List.mem_cons, not_or]; exact ⟨fun e => hc e.symm, this⟩
        · exact ih n (by simp [h])
/-- Names put together: a slash ahead of each. -/
def joinL (ns : List (List UInt8)) : List UInt8 := ns.flatMap (fun n => 47 :: n)
theorem joinL_splitL (l : List UInt8) : joinL (splitL l) = 47 :: l := by
  induction l with
  | nil => simp [joinL, splitL]
  | cons c cs ih =>
    by_cases hc : c = 47
    · subst hc; rw [splitL_cons_eq]; simp only [joinL, List.flatMap_cons] at *; rw [ih]; rfl
    · rw [splitL_cons_ne hc]
      have hn := splitL_ne cs
      cases hs : splitL cs with
      | nil => exact absurd hs hn
      | cons a t =>
        rw [hs] at ih
        simp only [joinL, List.flatMap_cons, pre] at *
        simp only [List.cons_append, List.cons.injEq, true_and] at ih
        simp [ih]
theorem splitL_joinL (ns : List (List UInt8)) (h : ns ≠ []) (hs : ∀ n ∈ ns, 47 ∉ n) : splitL (joinL ns).tail = ns := by
  induction ns with
  | nil => exact absurd rfl h
  | cons n ns ih =>
    simp only [joinL, List.flatMap_cons, List.cons_append, List.tail_cons]
    cases ns with
    | nil => simp [splitL_none n (hs n (by simp))]
    | cons m ms =>
      have ih := ih (by simp) (fun x hx => hs x (by simp [hx]))
      simp only [joinL, List.flatMap_cons, List.cons_append, List.tail_cons] at ih
      simp only [List.flatMap_cons, List.cons_append]
      rw [splitL_at n _ (hs n (by simp)), ih]
theorem joinL_ne {ns : List (List UInt8)} (h : ns ≠ []) : ∃ r, joinL ns = 47 :: r := by
  cases ns with
  | nil => exact absurd rfl h
  | cons n ns => exact ⟨_, by simp [joinL]; rfl⟩
theorem joinL_length (ns : List (List UInt8)) : (joinL ns).length = ns.length + (ns.map List.length).sum := by
  induction ns with
  | nil => rfl
  | cons n ns ih => simp only [joinL, List.flatMap_cons, List.length_append, List.length_cons, List.map_cons, List.sum_cons] at *; omega
theorem joinL_append (a b : List (List UInt8)) : joinL (a ++ b) = joinL a ++ joinL b := by simp [joinL]

/-- A path's names, why there are none. -/
def pathSpec (p : List UInt8) : List (List UInt8) × Int :=
  if 256 < p.length then ([], 2) else match p with
    | [] => ([], 10)
    | c :: rest => if c = 47 then (if rest = [] then ([], 0) else if (splitL rest).all nameL then (splitL rest, 0) else ([], 10)) else ([], 10)
/-- The path of names, why there is none. -/
def joinSpec (ns : List (List UInt8)) : List UInt8 × Int :=
  if ns.all nameL then (if ns = [] then ([47], 0) else if 256 < (joinL ns).length then ([], 2) else (joinL ns, 0)) else ([], 10)
def lastSpec (p : List UInt8) : List (List UInt8) × List UInt8 × Int :=
  if (pathSpec p).2 = 0 then (if (pathSpec p).1 = [] then ([], [], 10) else ((pathSpec p).1.take ((pathSpec p).1.length - 1), (pathSpec p).1.getD ((pathSpec p).1.length - 1) [], 0)) else ([], [], (pathSpec p).2)
theorem name_ne {n : List UInt8} (h : nameL n = true) : n ≠ [] := (nameL_iff.1 h).1
theorem name_slash {n : List UInt8} (h : nameL n = true) : 47 ∉ n := (nameL_iff.1 h).2.2.1
theorem path_cases (p : List UInt8) : (pathSpec p).2 ≠ 0 ∧ (pathSpec p).1 = [] ∨ (p = [47] ∧ pathSpec p = ([], 0)) ∨ ∃ rest, p = 47 :: rest ∧ rest ≠ [] ∧ p.length ≤ 256 ∧ (splitL rest).all nameL = true ∧ pathSpec p = (splitL rest, 0) := by
  unfold pathSpec
  split
  · left; simp
  · rename_i hlen
    cases p with
    | nil => left; simp
    | cons c rest =>
      simp only
      split
      · rename_i hc; subst hc
        split
        · rename_i hr; subst hr; right; left; simp
        · rename_i hr
          split
          · rename_i ha; right; right; exact ⟨rest, rfl, hr, by omega, ha, rfl⟩
          · left; simp
      · left; simp
/-- The names of a path make it. -/
theorem join_path (p : List UInt8) (h : (pathSpec p).2 = 0) : joinSpec (pathSpec p).1 = (p, 0) := by
  rcases path_cases p with h1 | ⟨rfl, h1⟩ | ⟨rest, rfl, hr, hl, ha, h1⟩
  · exact absurd h h1.1
  · rw [h1]; rfl
  · rw [h1]
    unfold joinSpec
    simp only
    rw [if_pos ha, if_neg (splitL_ne rest), joinL_splitL, if_neg (by omega)]
theorem all_name {ns : List (List UInt8)} : ns.all nameL = true ↔ ∀ n ∈ ns, nameL n = true := by simp
/-- The path of names has them. -/
theorem path_join (ns : List (List UInt8)) (h : (joinSpec ns).2 = 0) : pathSpec (joinSpec ns).1 = (ns, 0) := by
  unfold joinSpec at *
  split at h
  · rename_i ha
    rw [if_pos ha]
    split at h
    · rename_i hn; subst hn; rw [if_pos rfl]; rfl
    · rename_i hn
      split at h
      · simp at h
      · rename_i hl
        rw [if_neg hn, if_neg hl]
        obtain ⟨r, hr⟩ := joinL_ne hn
        have hsp := splitL_joinL ns hn (fun n hnn => name_slash (all_name.1 ha n hnn))
        rw [hr] at hsp hl ⊢
        simp only [List.tail_cons] at hsp
        unfold pathSpec
        rw [if_neg hl]
        simp only
        have hrn : r ≠ [] := by
          intro e; subst e
          cases ns with
          | nil => exact hn rfl
          | cons n ns =>
            simp only [joinL, List.flatMap_cons, List.cons_append, List.cons.injEq, true_and, List.append_eq_nil_iff] at hr
            exact name_ne (all_name.1 ha n (by simp)) hr.1
        rw [if_pos trivial, if_neg hrn, hsp, if_pos ha]
  · simp at h
theorem join_bad (ns : List (List UInt8)) (h : (joinSpec ns).2 ≠ 0) : (joinSpec ns).1 = [] := by
  unfold joinSpec at *
  split <;> rename_i ha
  · rw [if_pos ha] at h
    split <;> rename_i hn
    · rw [if_pos hn] at h; simp at h
    · rw [if_neg hn] at h
      split <;> rename_i hl
      · rfl
      · rw [if_neg hl] at h; simp at h
  · rfl
/-- Of a path of some names: the last one, and what is ahead of it. -/
theorem last_path (p : List UInt8) (h : (pathSpec p).2 = 0) (hn : (pathSpec p).1 ≠ []) :
    ∃ ds n, (pathSpec p).1 = ds ++ [n] ∧ lastSpec p = (ds, n, 0) ∧ nameL n = true ∧ joinSpec (ds ++ [n]) = (p, 0) := by
  have hj := join_path p h
  have ha : (pathSpec p).1.all nameL = true := by
    rcases path_cases p with h1 | ⟨rfl, h1⟩ | ⟨rest, rfl, hr, hl, ha, h1⟩
    · exact absurd h h1.1
    · rw [h1] at hn; exact absurd rfl hn
    · rw [h1]; exact ha
  unfold lastSpec
  rw [if_pos h, if_neg hn]
  generalize (pathSpec p).1 = l at *
  have hl : l = l.dropLast ++ [l.getLast hn] := (List.dropLast_concat_getLast hn).symm
  refine ⟨l.dropLast, l.getLast hn, hl, ?_, all_name.1 ha _ (List.getLast_mem hn), by rw [← hl]; exact hj⟩
  rw [← List.dropLast_eq_take]
  congr 2
  rw [List.getD_eq_getElem?_getD, List.getElem?_eq_getElem (by have := List.length_pos_iff.2 hn; omega), Option.getD_some]
  rw [List.getLast_eq_getElem]
end Go.Proofs.Ytjemaajliodmhaa.PM
