/- The contracts of path.Name, strings.Cut at one byte, path.Join. -/
import Derived.Test.YtjemaajliodmhaaZ0
import Derived.Test.YtjemaajliodmhaaHBase
import Derived.Test.YtjemaajliodmhaaShelf
import Derived.Lib.IndexLaws
namespace Go.Proofs.Ytjemaajliodmhaa.Z
open Go.RowKit Go.Proofs.YtjemaajliodmhaaW.PrintWords Go.Proofs.YtjemaajliodmhaaW.PrintLast
set_option linter.unusedVariables false
set_option linter.unusedSimpArgs false

/-- What a name is. -/
def nameB (a : ByteArray) : Bool :=
  decide (a.toList ≠ []) && (decide ((a.size : Int) ≤ 24) && (!decide (0 ≤ Lib.indexByte a.data.toList 47) && (!decide (0 ≤ Lib.indexByte a.data.toList 0) && (decide (a.toList ≠ [46]) && decide (a.toList ≠ [46, 46])))))
def path_Name.f (a0 : ByteArray) : Option Bool := some (nameB a0)

set_option maxHeartbeats 2000000 in
theorem path_Name.calls (a0 : ByteArray) (r : Bool) (w : World) (h : path_Name.f a0 = some r) :
    Calls Try.prog 15 #[.string a0] w fun e w' => e = .returned (.bool r) ∧ Drawn0 w w' := by
  obtain rfl := Option.some.inj h
  clear h
  by_cases h1 : a0.toList = []
  · have hn : nameB a0 = false := by simp [nameB, h1]
    rw [hn]; clear hn
    have h1b : (a0.toList != ([] : List UInt8)) = false := by simpa using h1
    go_enter Try.func15, Try.ntmps15
    go_wp2
    go_ret
    exact ⟨rfl, Drawn0.refl _⟩
  have h1b : (a0.toList != ([] : List UInt8)) = true := by simpa using h1
  have h1c : a0.toList.isEmpty = false := by simpa using h1
  by_cases h2 : (a0.size : Int) ≤ 24
  case neg =>
    have hn : nameB a0 = false := by simp only [nameB, decide_eq_false h2]; simp
    rw [hn]; clear hn
    have h2b : decide ((a0.size : Int) ≤ 24) = false := decide_eq_false h2
    have h2c : decide (a0.size ≤ 24) = false := decide_eq_false (by omega)
    clear h2
    go_enter Try.func15, Try.ntmps15
    go_wp2
    go_ret
    exact ⟨rfl, Drawn0.refl _⟩
  have h2b : decide ((a0.size : Int) ≤ 24) = true := decide_eq_true h2
  have h2c : decide (a0.size ≤ 24) = true := decide_eq_true (by omega)
  by_cases h3 : 0 ≤ Lib.indexByte a0.data.toList 47
  case pos =>
    have hn : nameB a0 = false := by simp only [nameB, decide_eq_true h3]; simp
    rw [hn]; clear hn
    have h3b : decide (0 ≤ Lib.indexByte a0.data.toList 47) = true := decide_eq_true h3
    clear h2 h3
    go_enter Try.func15, Try.ntmps15
    go_wp2_with (go_at_call 23; refine (Try.strings_Contains_one _ _ _).mono ?_; rintro e w' ⟨rfl, rfl⟩)
    go_ret
    exact ⟨rfl, Drawn0.refl _⟩
  have h3b : decide (0 ≤ Lib.indexByte a0.data.toList 47) = false := decide_eq_false h3
  by_cases h4 : 0 ≤ Lib.indexByte a0.data.toList 0
  case pos =>
    have hn : nameB a0 = false := by simp only [nameB, decide_eq_true h4]; simp
    rw [hn]; clear hn
    have h4b : decide (0 ≤ Lib.indexByte a0.data.toList 0) = true := decide_eq_true h4
    clear h2 h3 h4
    go_enter Try.func15, Try.ntmps15
    go_wp2_with (go_at_call 23; refine (Try.strings_Contains_one _ _ _).mono ?_; rintro e w' ⟨rfl, rfl⟩)
    go_ret
    exact ⟨rfl, Drawn0.refl _⟩
  have h4b : decide (0 ≤ Lib.indexByte a0.data.toList 0) = false := decide_eq_false h4
  by_cases h5 : a0.toList = [46]
  · have hn : nameB a0 = false := by simp [nameB, h5]
    rw [hn]; clear hn
    have h5b : (a0.toList != ([46] : List UInt8)) = false := by simpa using h5
    have h5c : (a0.toList == ([46] : List UInt8)) = true := by simpa using h5
    clear h1 h2 h3 h4 h5
    go_enter Try.func15, Try.ntmps15
    go_wp2_with (go_at_call 23; refine (Try.strings_Contains_one _ _ _).mono ?_; rintro e w' ⟨rfl, rfl⟩)
    go_ret
    exact ⟨rfl, Drawn0.refl _⟩
  have h5b : (a0.toList != ([46] : List UInt8)) = true := by simpa using h5
  have h5c : (a0.toList == ([46] : List UInt8)) = false := by simpa using h5
  by_cases h6 : a0.toList = [46, 46]
  · have hn : nameB a0 = false := by simp [nameB, h6]
    rw [hn]; clear hn
    have h6b : (a0.toList != ([46, 46] : List UInt8)) = false := by simpa using h6
    have h6c : (a0.toList == ([46, 46] : List UInt8)) = true := by simpa using h6
    clear h1 h2 h3 h4 h5 h6
    go_enter Try.func15, Try.ntmps15
    go_wp2_with (go_at_call 23; refine (Try.strings_Contains_one _ _ _).mono ?_; rintro e w' ⟨rfl, rfl⟩)
    go_ret
    exact ⟨rfl, Drawn0.refl _⟩
  have h6b : (a0.toList != ([46, 46] : List UInt8)) = true := by simpa using h6
  have h6c : (a0.toList == ([46, 46] : List UInt8)) = false := by simpa using h6
  have hn : nameB a0 = true := by simp [nameB, h1, h2, h3, h4, h5, h6]
  rw [hn]; clear hn
  clear h1 h2 h3 h4 h5 h6
  go_enter Try.func15, Try.ntmps15
  go_wp2_with (go_at_call 23; refine (Try.strings_Contains_one _ _ _).mono ?_; rintro e w' ⟨rfl, rfl⟩)
  go_ret
  exact ⟨rfl, Drawn0.refl _⟩

/-- The first place of one byte. -/
def stringslite_Index.f (a0 a1 : ByteArray) : Option Int := if h : a1.size = 1 then some (Lib.indexByte a0.data.toList (a1.data[0]'(by have : a1.data.size = 1 := h; omega))) else none
theorem stringslite_Index.calls (a0 a1 : ByteArray) (r : Int) (w : World) (h : stringslite_Index.f a0 a1 = some r) :
    Calls Try.prog 36 #[.string a0, .string a1] w fun e w' => e = .returned (.int .i64 r) ∧ Drawn0 w w' := by
  unfold stringslite_Index.f at h
  split at h
  case isFalse => cases h
  case isTrue hs =>
    obtain ⟨d⟩ := a1
    obtain ⟨l⟩ := d
    match l, hs with
    | [c], _ =>
      obtain rfl := Option.some.inj h
      exact (Try.stringslite_Index_one a0 c w).mono fun e w' ⟨he, hw⟩ => ⟨he, hw ▸ Drawn0.refl _⟩
    | [], hs => exact absurd hs (by decide)
    | _ :: _ :: _, hs => exact absurd hs (by simp [ByteArray.size])

/-- Strings put together. -/
def joinBytes (l : List ByteArray) (sep : ByteArray) : List UInt8 := Lib.join (l.map (·.data.toList)) sep.data.toList
def strings_Join.f (l0 : List ByteArray) (a1 : ByteArray) : Option ByteArray := if (joinBytes l0 a1).length ≤ 140737488355328 ∧ l0.length ≤ 140737488355328 then some ⟨(joinBytes l0 a1).toArray⟩ else none
theorem strings_Join.calls (A0 : Option Addr) (c0 : Nat) (l0 : List ByteArray) (a1 : ByteArray) (r : ByteArray) (w : World) (hr0 : Kd.C Kd.string w A0 l0.length l0) (hc0 : l0.length ≤ c0) (h : strings_Join.f l0 a1 = some r) :
    Calls Try.prog 26 #[.slice A0 l0.length c0, .string a1] w fun e w' => e = .returned (.string r) ∧ Below w.heap.size w w' := by
  unfold strings_Join.f at h
  split at h
  case isFalse => cases h
  case isTrue hs =>
    obtain rfl := Option.some.inj h
    rcases Nat.eq_zero_or_pos l0.length with h0 | h0
    · have hl : l0 = [] := List.eq_nil_of_length_eq_zero h0
      subst hl
      exact (Try.strings_Join_none A0 c0 a1 w).mono fun e w' ⟨he, hw⟩ => ⟨he, hw ▸ Below.refl _ _⟩
    · obtain ⟨b, o, rfl, hb, hcell⟩ := C_strings hr0 h0
      exact Try.strings_Join b o c0 l0 a1 w hcell hb hs.2 hc0 hs.1
end Go.Proofs.Ytjemaajliodmhaa.Z
