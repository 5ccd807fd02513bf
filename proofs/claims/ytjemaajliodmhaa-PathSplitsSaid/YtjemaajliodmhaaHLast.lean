/- The contracts of path.Last and of the reference's Last: what they hand back first is only read. -/
import Derived.Test.YtjemaajliodmhaaZ0
import Derived.Test.YtjemaajliodmhaaHBase
import Derived.Lib.Hide
import Derived.Deep.QuietTactic
import Derived.BigQuiet
import Derived.IntWalk
import Derived.Test.YtjemaajliodmhaaZf9
import Derived.Test.YtjemaajliodmhaaZf10
namespace Go.Proofs.Ytjemaajliodmhaa.Z
open Go.RowKit Go.Proofs.YtjemaajliodmhaaW.PrintWords Go.Proofs.YtjemaajliodmhaaW.PrintLast Go.Proofs.YtjemaajliodmhaaW.PrintMore
set_option linter.unusedVariables false
set_option linter.unusedSimpArgs false
/-- The names ahead of the last one, the last one. -/
def lastOf (b : List ByteArray × Int) : List ByteArray × ByteArray × Int :=
  if b.2 = 0 then (if b.1 = [] then ([], ⟨#[]⟩, 10) else (b.1.take (b.1.length - 1), b.1.getD (b.1.length - 1) ByteArray.empty, 0)) else ([], ⟨#[]⟩, b.2)
def path_Last.f (k : Nat) (a0 : ByteArray) : Option (List ByteArray × ByteArray × Int) := (path_Split.f k a0).bind fun b => some (lastOf b)
theorem path_Last.mono : ∀ a0 k, LeO (path_Last.f k a0) (path_Last.f (k + 1) a0) := by
  intro a0 k
  exact LeO.bind (path_Split.mono _ _) (fun _ => LeO.refl _)
def cambiumref11_Last.f (k : Nat) (a0 : ByteArray) : Option (List ByteArray × ByteArray × Int) := (cambiumref11_Split.f k a0).bind fun b => some (lastOf b)
theorem cambiumref11_Last.mono : ∀ a0 k, LeO (cambiumref11_Last.f k a0) (cambiumref11_Last.f (k + 1) a0) := by
  intro a0 k
  exact LeO.bind (cambiumref11_Split.mono _ _) (fun _ => LeO.refl _)
/-- What is ahead of the last one, of a row that was just made. -/
theorem take_V {w w1 : World} {g cap c' : Nat} {l : List ByteArray} {m : Nat} (h : Kd.R Kd.string 9 w1 w.heap.size (fun _ => True) (.slice (some ⟨g, 0, none⟩) l.length cap) l) (hm : m ≤ l.length) (hc : m ≤ c') :
    Kd.V Kd.string 9 w1 w.heap.size (fun k_ => (w.heap.size ≤ k_)) (.slice (some ⟨g, 0, none⟩) m c') (l.take m) := by
  have hV := Kd.R_V (base' := w.heap.size) (Kd.R_tight rfl h)
  have hb := Kd.R_base h g rfl
  have hV2 := Kd.V_mono (ok' := fun k_ => w.heap.size ≤ k_) hV (fun k hk => by
    have : k = g := by simpa [Value.ownBlock] using hk
    omega)
  have hF := (Kd.V_at hV2).2.2
  have hl : (l.take m).length = m := by rw [List.length_take]; omega
  have := Kd.V_mk (e := 9) (base := w.heap.size) (c := c') (by omega : (l.take m).length ≤ c') (Kd.F_take hF hm)
  rw [hl] at this
  exact this
theorem last_cell {w1 : World} {b g cap m : Nat} {l : List ByteArray} {ok : Nat → Prop} (h : Kd.R Kd.string 9 w1 b ok (.slice (some ⟨g, 0, none⟩) l.length cap) l) (hm : l.length = m + 1) :
    w1.cell? ⟨g, m, none⟩ = some (.string (l.getD m ByteArray.empty)) := by
  have := (Kd.R_cell (enc := Value.string) (h1 := fun _ => rfl) ByteArray.empty h (m : Int) (by omega) (by omega)).1
  rw [Int.toNat_natCast] at this
  rw [this]
  simp [rdOf]
theorem cut_hm (g m cap : Nat) (W : World) (h : m + 1 ≤ cap) : (Instr.slice 22 (.slice (some ⟨g, 0, none⟩) (m + 1) cap) none (some (.int .i64 ↑m)) (some (.int .i64 ↑m))).run Try.prog W = .ok (.slice (some ⟨g, 0, none⟩) m m) W := by
  obtain ⟨i0, hi0, _, hsz, _⟩ := info_parts info9
  have hel : Try.prog.elem 22 = 9 := by simp [Program.elem, Try.underlying22]
  have hu : Try.prog.underlying 22 = some (.slice (Try.prog.elem 22)) := by rw [hel]; exact Try.underlying22
  rw [run_slice_hm W 22 (some ⟨g, 0, none⟩) (m + 1) cap hu .i64 .i64 (m : Int) (m : Int) (by omega) (by omega) (by omega), hel]
  simp [sizeOf, hi0, hsz, sliced, Addr.add]
theorem cap_le {w1 : World} {b g cap : Nat} {l : List ByteArray} {ok : Nat → Prop} (h : Kd.R Kd.string 9 w1 b ok (.slice (some ⟨g, 0, none⟩) l.length cap) l) : l.length ≤ cap := (Kd.R_reads' h).2.1
set_option maxHeartbeats 2000000 in
theorem path_Last.calls (k : Nat) (a0 : ByteArray) (r1 : List ByteArray) (r2 : ByteArray) (r3 : Int) (w : World) (h : path_Last.f k a0 = some (r1, r2, r3)) :
    Calls Try.prog 11 #[.string a0] w fun e w' => ∃ v0_ : Value, e = .returned (.tuple #[v0_, .string r2, .int .i64 r3]) ∧ Kd.V Kd.string 9 w' w.heap.size (fun k_ => (w.heap.size ≤ k_)) v0_ r1 ∧ Below w.heap.size w w' := by
  unfold path_Last.f at h
  obtain ⟨⟨l, why⟩, hs, h⟩ := Option.bind_eq_some_iff.mp h
  have h := Option.some.inj h
  have HC := Aside0.mk (fun w => path_Split.calls k a0 l why w hs)
  clear hs
  unfold lastOf at h
  by_cases h0 : why = 0
  · subst h0
    simp only [if_pos] at h
    by_cases hl : l = []
    · subst hl
      simp only [if_pos, Prod.mk.injEq] at h
      obtain ⟨rfl, rfl, rfl⟩ := h
      go_enter Try.func11, Try.ntmps11
      go_wp2_with (go_at_call 9; refine (HC.out _).mono ?_; rintro e w' ⟨v0, rfl, hR, hb⟩; obtain ⟨A, c, rfl, _, _⟩ := Kd.Q_reads (Kd.Q_of_R hR); have HB := Aside0.mk hb; clear hR hb)
      go_ret3
      exact ⟨_, rfl, Kd.V_mk (A := none) (c := 0) (Nat.le_refl _) (Kd.F_nil _ _ _), HB.out⟩
    · rw [if_neg hl] at h
      simp only [Prod.mk.injEq] at h
      obtain ⟨rfl, rfl, rfl⟩ := h
      obtain ⟨m, hm⟩ : ∃ m, l.length = m + 1 := ⟨l.length - 1, by have := List.length_pos_iff.2 hl; omega⟩
      rw [hm, Nat.add_sub_cancel]
      have HL := Lib.hid hl
      clear hl
      have hcut := fun (g cap : Nat) (W : World) (h : m + 1 ≤ cap) => cut_hm g m cap W h
      go_enter Try.func11, Try.ntmps11
      go_wp2_with (go_at_call 9; refine (HC.out _).mono ?_; rintro e w' ⟨v0, rfl, hR, hb⟩; obtain ⟨g, cap, rfl, hg1, hg2, hg3⟩ := Kd.R_form hR (by omega); have hcell : w'.cell? ⟨g, m, none⟩ = some (.string (l.getD m ByteArray.empty)) := last_cell hR hm; have hcap := cap_le hR; have hmx : m ≤ 9223372036854775806 := (by have := Kd.C_max (Kd.R_reads' hR).2.2; omega); have HR := Aside0.mk hR; rw [hm] at hcap ⊢; have HB := Aside0.mk hb; clear hR hb hg3)
      have hcut2 := fun W => hcut g cap W hcap
      clear hcut
      go_quiet (fail)
      go_wp2
      go_ret3
      refine ⟨.slice (some ⟨g, 0, none⟩) m m, by simp [hm], Kd.V_drewN (take_V HR.out (by omega) (Nat.le_refl _)) _, pw_below_drewN HB.out _⟩
  · rw [if_neg h0] at h
    simp only [Prod.mk.injEq] at h
    obtain ⟨rfl, rfl, rfl⟩ := h
    have h0b : (why == 0) = false := by simpa using h0
    have h0c : (why != 0) = true := by simpa using h0
    clear h0
    go_enter Try.func11, Try.ntmps11
    go_wp2_with (go_at_call 9; refine (HC.out _).mono ?_; rintro e w' ⟨v0, rfl, hR, hb⟩; have HB := Aside0.mk hb; clear hR hb)
    go_ret3
    exact ⟨_, rfl, Kd.V_mk (A := none) (c := 0) (Nat.le_refl _) (Kd.F_nil _ _ _), HB.out⟩
theorem cut_h (g m cap : Nat) (W : World) (h : m + 1 ≤ cap) : (Instr.slice 22 (.slice (some ⟨g, 0, none⟩) (m + 1) cap) none (some (.int .i64 ↑m)) none).run Try.prog W = .ok (.slice (some ⟨g, 0, none⟩) m cap) W := by
  obtain ⟨i0, hi0, _, hsz, _⟩ := info_parts info9
  have hel : Try.prog.elem 22 = 9 := by simp [Program.elem, Try.underlying22]
  have hu : Try.prog.underlying 22 = some (.slice (Try.prog.elem 22)) := by rw [hel]; exact Try.underlying22
  rw [run_slice_h W 22 (some ⟨g, 0, none⟩) (m + 1) cap hu .i64 (m : Int) (by omega) (by omega), hel]
  simp [sizeOf, hi0, hsz, sliced, Addr.add]
set_option maxHeartbeats 2000000 in
theorem cambiumref11_Last.calls (k : Nat) (a0 : ByteArray) (r1 : List ByteArray) (r2 : ByteArray) (r3 : Int) (w : World) (h : cambiumref11_Last.f k a0 = some (r1, r2, r3)) :
    Calls Try.prog 12 #[.string a0] w fun e w' => ∃ v0_ : Value, e = .returned (.tuple #[v0_, .string r2, .int .i64 r3]) ∧ Kd.V Kd.string 9 w' w.heap.size (fun k_ => (w.heap.size ≤ k_)) v0_ r1 ∧ Below w.heap.size w w' := by
  unfold cambiumref11_Last.f at h
  obtain ⟨⟨l, why⟩, hs, h⟩ := Option.bind_eq_some_iff.mp h
  have h := Option.some.inj h
  have HC := Aside0.mk (fun w => cambiumref11_Split.calls k a0 l why w hs)
  clear hs
  unfold lastOf at h
  by_cases h0 : why = 0
  · subst h0
    simp only [if_pos] at h
    by_cases hl : l = []
    · subst hl
      simp only [if_pos, Prod.mk.injEq] at h
      obtain ⟨rfl, rfl, rfl⟩ := h
      go_enter Try.func12, Try.ntmps12
      go_wp2_with (go_at_call 10; refine (HC.out _).mono ?_; rintro e w' ⟨v0, rfl, hR, hb⟩; obtain ⟨A, c, rfl, _, _⟩ := Kd.Q_reads (Kd.Q_of_R hR); have HB := Aside0.mk hb; clear hR hb)
      go_ret3
      exact ⟨_, rfl, Kd.V_mk (A := none) (c := 0) (Nat.le_refl _) (Kd.F_nil _ _ _), HB.out⟩
    · rw [if_neg hl] at h
      simp only [Prod.mk.injEq] at h
      obtain ⟨rfl, rfl, rfl⟩ := h
      obtain ⟨m, hm⟩ : ∃ m, l.length = m + 1 := ⟨l.length - 1, by have := List.length_pos_iff.2 hl; omega⟩
      rw [hm, Nat.add_sub_cancel]
      have HL := Lib.hid hl
      clear hl
      have hcut := fun (g cap : Nat) (W : World) (h : m + 1 ≤ cap) => cut_h g m cap W h
      go_enter Try.func12, Try.ntmps12
      go_wp2_with (go_at_call 10; refine (HC.out _).mono ?_; rintro e w' ⟨v0, rfl, hR, hb⟩; obtain ⟨g, cap, rfl, hg1, hg2, hg3⟩ := Kd.R_form hR (by omega); have hcell : w'.cell? ⟨g, m, none⟩ = some (.string (l.getD m ByteArray.empty)) := last_cell hR hm; have hcap := cap_le hR; have hmx : m ≤ 9223372036854775806 := (by have := Kd.C_max (Kd.R_reads' hR).2.2; omega); have HR := Aside0.mk hR; rw [hm] at hcap ⊢; have HB := Aside0.mk hb; clear hR hb hg3)
      have hcut2 := fun W => hcut g cap W hcap
      clear hcut
      have hwr : IntKind.i64.wrap ((m : Int) + 1 - 1) = m := by rw [Int.add_sub_cancel]; exact IntWalk.i64_in _ (by omega)
      go_quiet (fail)
      go_wp2
      go_ret3
      refine ⟨.slice (some ⟨g, 0, none⟩) m cap, by simp [hm], Kd.V_drewN (take_V HR.out (by omega) (by omega)) _, pw_below_drewN HB.out _⟩
  · rw [if_neg h0] at h
    simp only [Prod.mk.injEq] at h
    obtain ⟨rfl, rfl, rfl⟩ := h
    have h0b : (why == 0) = false := by simpa using h0
    have h0c : (why != 0) = true := by simpa using h0
    clear h0
    go_enter Try.func12, Try.ntmps12
    go_wp2_with (go_at_call 10; refine (HC.out _).mono ?_; rintro e w' ⟨v0, rfl, hR, hb⟩; have HB := Aside0.mk hb; clear hR hb)
    go_ret3
    exact ⟨_, rfl, Kd.V_mk (A := none) (c := 0) (Nat.le_refl _) (Kd.F_nil _ _ _), HB.out⟩
end Go.Proofs.Ytjemaajliodmhaa.Z
