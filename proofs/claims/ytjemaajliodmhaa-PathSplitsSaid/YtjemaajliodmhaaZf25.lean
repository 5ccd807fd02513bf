-- Printed by a program of this session (mp.py) out of the translation.
import Derived.Test.YtjemaajliodmhaaZ0
import Derived.Test.YtjemaajliodmhaaHPath
namespace Go.Proofs.Ytjemaajliodmhaa.Z
open Go.RowKit Go.Proofs.YtjemaajliodmhaaW.PrintWords Go.Proofs.YtjemaajliodmhaaW.PrintLast Go.Proofs.YtjemaajliodmhaaW.PrintMore
attribute [local go_sem] max2_int min2_int max_two min_two max_three min_three max_four min_four   -- for this text's walks alone
set_option linter.unusedVariables false
set_option linter.unusedSimpArgs false

/-! ### path_Join_1: function 25 -/
def path_Join_1.f (a0 : ByteArray) : Option (Bool) := (path_Name.f a0).bind fun t121 => (some (!t121))
set_option maxHeartbeats 8000000 in
set_option maxRecDepth 100000 in
theorem path_Join_1.calls (a0 : ByteArray) (r : Bool) (w : World) (h : path_Join_1.f a0 = some r) :
    Calls Try.prog 25 #[.string a0] w fun e w' => e = .returned (.bool r) ∧ Drawn0 w w' := by
  have H : ((path_Name.f a0).bind fun t121 => (some (!t121))) = some r := h
  clear h
  replace H := Option.bind_eq_some_iff.mp H
  obtain ⟨t121, A20, H⟩ := H
  replace H : (some (!t121)) = some r := H
  have A2 := Aside0.mk A20
  clear A20
  obtain rfl := Option.some.inj H
  go_enter Try.func25, Try.ntmps25
  go_wp2_with (first | ((with_reducible refine gate_callee (f := 15) rfl ?_); refine goesL_ (some 4) rfl rfl Try.func15 (by kernel_rfl) rfl #[.string a0] rfl (by (try simp only [List.map_toArray, List.map_cons, List.map_nil]); first | done | rfl | (simp only [List.length_drop, List.length_take]; rfl)) ?_; (with_reducible refine (path_Name.calls a0 t121 _ A2.out).mono ?_); rintro e w' ⟨rfl, ⟨nd, rfl⟩⟩; refine ⟨_, rfl, ?_⟩))
  go_ret
  exact ⟨by first | rfl | (simp; done) | (simp [*]; done), by repeat (first | exact Drawn0.refl _ | apply Drawn0.step)⟩

end Go.Proofs.Ytjemaajliodmhaa.Z
