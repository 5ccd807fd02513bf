/- The contract of path.Under. -/
import Derived.Test.YtjemaajliodmhaaZ0
import Derived.Test.YtjemaajliodmhaaHBase
import Derived.Test.YtjemaajliodmhaaZf27
namespace Go.Proofs.Ytjemaajliodmhaa.Z
open Go.RowKit Go.Proofs.YtjemaajliodmhaaW.PrintWords Go.Proofs.YtjemaajliodmhaaW.PrintLast Go.Proofs.YtjemaajliodmhaaW.PrintMore
set_option linter.unusedVariables false
set_option linter.unusedSimpArgs false
def path_Under.f (k : Nat) (l0 l1 : List ByteArray) : Option Bool := if l0.length ≤ l1.length then slices_Equal_string_string.f k l0 (l1.take l0.length) else some false
theorem path_Under.mono : ∀ a0 a1 k, LeO (path_Under.f k a0 a1) (path_Under.f (k + 1) a0 a1) := by
  intro a0 a1 k
  unfold path_Under.f
  exact LeO.ite (slices_Equal_string_string.mono _ _ _) (LeO.refl _)
set_option maxHeartbeats 2000000 in
theorem path_Under.calls (k : Nat) (A0 : Option Addr) (c0 : Nat) (l0 : List ByteArray) (A1 : Option Addr) (c1 : Nat) (l1 : List ByteArray) (r : Bool) (w : World) (hr0 : Kd.C Kd.string w A0 l0.length l0) (hc0 : l0.length ≤ c0) (hr1 : Kd.C Kd.string w A1 l1.length l1) (hc1 : l1.length ≤ c1) (h : path_Under.f k l0 l1 = some r) :
    Calls Try.prog 19 #[.slice A0 l0.length c0, .slice A1 l1.length c1] w fun e w' => e = .returned (.bool r) ∧ Drawn0 w w' := by
  unfold path_Under.f at h
  by_cases hle : l0.length ≤ l1.length
  · rw [if_pos hle] at h
    have hb : decide (l0.length ≤ l1.length) = true := decide_eq_true hle
    have hlt : (l1.take l0.length).length = l0.length := by rw [List.length_take]; omega
    have hcut : ∀ W : World, (Instr.slice 22 (.slice A1 l1.length c1) none (some (.int .i64 ↑l0.length)) none).run Try.prog W = .ok (.slice A1 l0.length c1) W := by
      obtain ⟨i0, hi0, _, hsz, _⟩ := info_parts info9
      have hx := (print_take_of (P := Try.prog) Value.string (⟨#[]⟩ : ByteArray) 22 9 .i64 Try.underlying22 hi0 hsz A1 c1 l1 (l0.length : Int) (by omega) (by omega) hc1).1
      simpa [hlt] using hx
    have hr1' : Kd.C Kd.string w A1 (l1.take l0.length).length (l1.take l0.length) := by
      obtain ⟨i0, hi0, _, hsz, _⟩ := info_parts info9
      have hx := (print_take_of (P := Try.prog) Value.string (⟨#[]⟩ : ByteArray) 22 9 .i64 Try.underlying22 hi0 hsz A1 c1 l1 (l0.length : Int) (by omega) (by omega) hc1).2.1
      have := Kd.C_of_reads (h1 := fun _ => rfl) (hx _ (Kd.reads_of_C hr1))
      rw [Int.toNat_natCast] at this
      exact this
    have H := fun (w : World) hr0 hr1 => slices_Equal_string_string.calls k A0 c0 l0 A1 c1 (l1.take l0.length) r w hr0 hc0 hr1 (by omega) h
    rw [hlt] at H hr1'
    have H1 := H w hr0 hr1'
    clear H hlt h hr0 hr1 hr1' hle hc0 hc1
    have HH := Aside0.mk H1
    clear H1
    go_enter Try.func19, Try.ntmps19
    go_wp2_with (go_at_call 27; refine HH.out.mono ?_; rintro e w' ⟨rfl, ⟨nd, rfl⟩⟩)
    go_ret
    exact ⟨rfl, ⟨nd, rfl⟩⟩
  · rw [if_neg hle] at h
    obtain rfl := Option.some.inj h
    have hb : decide (l0.length ≤ l1.length) = false := decide_eq_false hle
    clear h hle hr0 hr1 hc0 hc1
    go_enter Try.func19, Try.ntmps19
    go_wp2
    go_ret
    exact ⟨rfl, Drawn0.refl _⟩
end Go.Proofs.Ytjemaajliodmhaa.Z
