/- PathUnder: at every input the law's function returns true and leaves its arguments as they were; no condition beyond the row's own. Part 2 of 2: this session's own texts, laid together. -/
import Derived.Test.YtjemaajliodmhaaMPathUnder1
import Derived.Lib.IndexLaws
import Derived.Lib.Join
import Derived.Lib.SmallJoins
import Derived.Test.YtjemaajliodmhaaRows
import Derived.Deep.Strs
import Derived.SizedLaws
import Derived.ChangeArms
import Derived.WalkKit
import Derived.ProofKit
import Derived.OpenShut
import Derived.ShutString
import Derived.ChangeOld
import Derived.Below
import Derived.Carry
section
-- Printed by a program of this session (mp.py) out of the translation.
namespace Go.Proofs.Ytjemaajliodmhaa.Z
open Go.RowKit Go.Proofs.YtjemaajliodmhaaW.PrintWords Go.Proofs.YtjemaajliodmhaaW.PrintLast Go.Proofs.YtjemaajliodmhaaW.PrintMore
attribute [local go_sem] max2_int min2_int max_two min_two max_three min_three max_four min_four   -- for this text's walks alone
set_option linter.unusedVariables false
set_option linter.unusedSimpArgs false

/-! ### cambiumlaw11_PathUnder: function 7 -/
mutual
def cambiumlaw11_PathUnder.j0 : Nat → List ByteArray → List ByteArray → List ByteArray → Bool → Option (Bool)
  | 0, _, _, _, _ => none
  | k + 1, x0, x1, x2, x17 => if x17 = true then (some false) else ((path_Under.f k x0 x1).bind fun t236 => (if t236 = true then ((path_Under.f k x1 x0).bind fun t237 => (if t237 = true then ((cambiumref11_Same.f k x0 x1).bind fun t238 => (cambiumlaw11_PathUnder.j1 k x0 x1 x2 (!t238))) else (cambiumlaw11_PathUnder.j1 k x0 x1 x2 false))) else (cambiumlaw11_PathUnder.j1 k x0 x1 x2 false)))
def cambiumlaw11_PathUnder.j1 : Nat → List ByteArray → List ByteArray → List ByteArray → Bool → Option (Bool)
  | 0, _, _, _, _ => none
  | k + 1, x0, x1, x2, x31 => if x31 = true then (some false) else ((path_Under.f k x0 x1).bind fun t239 => (if t239 = true then ((path_Under.f k x1 x2).bind fun t240 => (if t240 = true then ((path_Under.f k x0 x2).bind fun t241 => (some t241)) else (some true))) else (some true)))
end
def cambiumlaw11_PathUnder.f (k : Nat) (l0 : List ByteArray) (l1 : List ByteArray) (l2 : List ByteArray) : Option (Bool) := (cambiumlaw11_lives.f k).bind fun t233 => (if t233 = true then ((path_Under.f k l0 l0).bind fun t234 => (if t234 = true then ((path_Under.f k ([] : List ByteArray) l0).bind fun t235 => (cambiumlaw11_PathUnder.j0 k l0 l1 l2 (!t235))) else (cambiumlaw11_PathUnder.j0 k l0 l1 l2 true))) else (some false))
theorem cambiumlaw11_PathUnder.mono_l : ∀ k, (∀ y0 y1 y2 y3, LeO (cambiumlaw11_PathUnder.j0 k y0 y1 y2 y3) (cambiumlaw11_PathUnder.j0 (k + 1) y0 y1 y2 y3)) ∧ (∀ y0 y1 y2 y3, LeO (cambiumlaw11_PathUnder.j1 k y0 y1 y2 y3) (cambiumlaw11_PathUnder.j1 (k + 1) y0 y1 y2 y3))
  | 0 => ⟨fun _ _ _ _ r h => by simp [cambiumlaw11_PathUnder.j0] at h, fun _ _ _ _ r h => by simp [cambiumlaw11_PathUnder.j1] at h⟩
  | k + 1 => by
    obtain ⟨ih0, ih1⟩ := cambiumlaw11_PathUnder.mono_l k
    refine ⟨?_, ?_⟩
    · intro y0 y1 y2 y3
      unfold cambiumlaw11_PathUnder.j0
      repeat' first
      | (with_reducible exact ih0 _ _ _ _)
      | (with_reducible exact ih1 _ _ _ _)
      | (with_reducible exact cambiumlaw11_lives.mono _)
      | (with_reducible exact cambiumref11_Same.mono _ _ _)
      | (with_reducible exact path_Under.mono _ _ _)
      | (with_reducible exact LeO.refl _)
      | (with_reducible exact LeO.none _)
      | (with_reducible refine LeO.ite ?_ ?_)
      | (with_reducible refine LeO.bind ?_ (fun _ => ?_))
      | exact ih0 _ _ _ _
      | exact ih1 _ _ _ _
      | exact cambiumlaw11_lives.mono _
      | exact cambiumref11_Same.mono _ _ _
      | exact path_Under.mono _ _ _
      | exact LeO.none _
      | refine LeO.ite ?_ ?_
      | refine LeO.bind ?_ (fun _ => ?_)
    · intro y0 y1 y2 y3
      unfold cambiumlaw11_PathUnder.j1
      repeat' first
      | (with_reducible exact ih0 _ _ _ _)
      | (with_reducible exact ih1 _ _ _ _)
      | (with_reducible exact cambiumlaw11_lives.mono _)
      | (with_reducible exact cambiumref11_Same.mono _ _ _)
      | (with_reducible exact path_Under.mono _ _ _)
      | (with_reducible exact LeO.refl _)
      | (with_reducible exact LeO.none _)
      | (with_reducible refine LeO.ite ?_ ?_)
      | (with_reducible refine LeO.bind ?_ (fun _ => ?_))
      | exact ih0 _ _ _ _
      | exact ih1 _ _ _ _
      | exact cambiumlaw11_lives.mono _
      | exact cambiumref11_Same.mono _ _ _
      | exact path_Under.mono _ _ _
      | exact LeO.none _
      | refine LeO.ite ?_ ?_
      | refine LeO.bind ?_ (fun _ => ?_)
theorem cambiumlaw11_PathUnder.mono : ∀ a0 a1 a2 k, LeO (cambiumlaw11_PathUnder.f k a0 a1 a2) (cambiumlaw11_PathUnder.f (k + 1) a0 a1 a2) := by
  intro a0 a1 a2 k
  obtain ⟨ih0, ih1⟩ := cambiumlaw11_PathUnder.mono_l k
  unfold cambiumlaw11_PathUnder.f
  repeat' first
      | (with_reducible exact ih0 _ _ _ _)
      | (with_reducible exact ih1 _ _ _ _)
      | (with_reducible exact cambiumlaw11_lives.mono _)
      | (with_reducible exact cambiumref11_Same.mono _ _ _)
      | (with_reducible exact path_Under.mono _ _ _)
      | (with_reducible exact LeO.refl _)
      | (with_reducible exact LeO.none _)
      | (with_reducible refine LeO.ite ?_ ?_)
      | (with_reducible refine LeO.bind ?_ (fun _ => ?_))
      | exact ih0 _ _ _ _
      | exact ih1 _ _ _ _
      | exact cambiumlaw11_lives.mono _
      | exact cambiumref11_Same.mono _ _ _
      | exact path_Under.mono _ _ _
      | exact LeO.none _
      | refine LeO.ite ?_ ?_
      | refine LeO.bind ?_ (fun _ => ?_)
set_option maxHeartbeats 8000000 in
set_option maxRecDepth 100000 in
theorem cambiumlaw11_PathUnder.calls (k : Nat) (A0 : Option Addr) (c0 : Nat) (l0 : List ByteArray) (A1 : Option Addr) (c1 : Nat) (l1 : List ByteArray) (A2 : Option Addr) (c2 : Nat) (l2 : List ByteArray) (r : Bool) (w : World) (hr0 : Kd.C Kd.string w A0 l0.length l0) (hc0 : l0.length ≤ c0) (hr1 : Kd.C Kd.string w A1 l1.length l1) (hc1 : l1.length ≤ c1) (hr2 : Kd.C Kd.string w A2 l2.length l2) (hc2 : l2.length ≤ c2) (h : cambiumlaw11_PathUnder.f k l0 l1 l2 = some r) (hT_ : r = true := by rfl) :
    Calls Try.prog 7 #[.slice A0 l0.length c0, .slice A1 l1.length c1, .slice A2 l2.length c2] w fun e w' => e = .returned (.bool r) ∧ Below w.heap.size w w' := by
  have HT_ := Aside0.mk hT_
  clear hT_
  have HR0 := Aside0.mk hr0
  have HC0 := Aside0.mk hc0
  clear hr0 hc0
  have HR1 := Aside0.mk hr1
  have HC1 := Aside0.mk hc1
  clear hr1 hc1
  have HR2 := Aside0.mk hr2
  have HC2 := Aside0.mk hc2
  clear hr2 hc2
  have HB := Aside0.mk (Below.refl w.heap.size w)
  have H : ((cambiumlaw11_lives.f k).bind fun t233 => (if t233 = true then ((path_Under.f k l0 l0).bind fun t234 => (if t234 = true then ((path_Under.f k ([] : List ByteArray) l0).bind fun t235 => (cambiumlaw11_PathUnder.j0 k l0 l1 l2 (!t235))) else (cambiumlaw11_PathUnder.j0 k l0 l1 l2 true))) else (some false))) = some r := h
  clear h
  replace H := Option.bind_eq_some_iff.mp H
  obtain ⟨t233, A40, H⟩ := H
  replace H : (if t233 = true then ((path_Under.f k l0 l0).bind fun t234 => (if t234 = true then ((path_Under.f k ([] : List ByteArray) l0).bind fun t235 => (cambiumlaw11_PathUnder.j0 k l0 l1 l2 (!t235))) else (cambiumlaw11_PathUnder.j0 k l0 l1 l2 true))) else (some false)) = some r := H
  have A4 := Aside0.mk A40
  clear A40
  by_cases c5 : t233 = true
  · subst c5
    have H1 : ((path_Under.f k l0 l0).bind fun t234 => (if t234 = true then ((path_Under.f k ([] : List ByteArray) l0).bind fun t235 => (cambiumlaw11_PathUnder.j0 k l0 l1 l2 (!t235))) else (cambiumlaw11_PathUnder.j0 k l0 l1 l2 true))) = some r := by rw [if_pos rfl] at H; exact H
    clear H
    have H := H1
    clear H1
    have HC6 := Aside0.mk H
    clear H
    go_enter Try.func7, Try.ntmps7
    go_upto_region 3 with (first | ((with_reducible refine gate_callee (f := 13) rfl ?_); refine goesL_ (some 7) rfl rfl Try.func13 (by kernel_rfl) rfl #[] rfl (by (try simp only [List.map_toArray, List.map_cons, List.map_nil]); first | done | rfl | (simp only [List.length_drop, List.length_take]; rfl)) ?_; (with_reducible refine (cambiumlaw11_lives.calls k  true _ A4.out).mono ?_); rintro e w7 ⟨rfl, hb⟩; refine ⟨_, rfl, ?_⟩; have n0_ := Aside0.mk (below_step (by repeat (first | (with_reducible first | exact HB.out | apply below_alloc | apply pw_below_drewN | apply below_drew1) | exact HB.out)) hb); clear HB; have HB := n0_; clear n0_; (try clear hb); (try clear hb2); (try clear hk); (try clear hi)))
    (try simp only [Act.put, List.setIfInBounds_toArray, List.set_cons_zero, List.set_cons_succ])
    go_cut [17] (fun v17 wc => ∃ (kq : Nat) (x17_5 : Bool), v17 = .bool x17_5 ∧ Aside0 (cambiumlaw11_PathUnder.j0 kq l0 l1 l2 x17_5 = some r) ∧ Aside0 (kq ≤ k) ∧ Aside0 (Below w.heap.size w wc))
    case first =>
      have H := HC6.out
      clear HC6
      replace H := Option.bind_eq_some_iff.mp H
      obtain ⟨t234, A80, H⟩ := H
      replace H : (if t234 = true then ((path_Under.f k ([] : List ByteArray) l0).bind fun t235 => (cambiumlaw11_PathUnder.j0 k l0 l1 l2 (!t235))) else (cambiumlaw11_PathUnder.j0 k l0 l1 l2 true)) = some r := H
      have A8 := Aside0.mk A80
      clear A80
      by_cases c9 : t234 = true
      · subst c9
        have H1 : ((path_Under.f k ([] : List ByteArray) l0).bind fun t235 => (cambiumlaw11_PathUnder.j0 k l0 l1 l2 (!t235))) = some r := by rw [if_pos rfl] at H; exact H
        clear H
        have H := H1
        clear H1
        replace H := Option.bind_eq_some_iff.mp H
        obtain ⟨t235, A100, H⟩ := H
        replace H : (cambiumlaw11_PathUnder.j0 k l0 l1 l2 (!t235)) = some r := H
        have A10 := Aside0.mk A100
        clear A100
        have H' := Aside0.mk H
        clear H
        go_wp2_with (first | ((with_reducible refine gate_callee (f := 19) rfl ?_); refine goesL_ (some 11) rfl rfl Try.func19 (by kernel_rfl) rfl #[.slice A0 l0.length c0, .slice A0 l0.length c0] rfl (by (try simp only [List.map_toArray, List.map_cons, List.map_nil]); first | done | rfl | (simp only [List.length_drop, List.length_take]; rfl)) ?_; (with_reducible refine (path_Under.calls k _ _ l0 _ _ l0 true _ ?side1 ?side2 ?side3 ?side4 A8.out).mono ?_); (case side1 => repeat (first | exact (Kd.C_below HR0.out HB.out) | (with_reducible refine Kd.C_alloc ?_ _) | (with_reducible refine Kd.C_drewN ?_ _) | (with_reducible refine Kd.C_drew ?_))); (case side2 => exact HC0.out); (case side3 => repeat (first | exact (Kd.C_below HR0.out HB.out) | (with_reducible refine Kd.C_alloc ?_ _) | (with_reducible refine Kd.C_drewN ?_ _) | (with_reducible refine Kd.C_drew ?_))); (case side4 => exact HC0.out); rintro e w' ⟨rfl, ⟨nd, rfl⟩⟩; refine ⟨_, rfl, ?_⟩) | (go_at_call 19; (refine (path_Under.calls k _ _ ([] : List ByteArray) _ _ l0 t235 _ ?side1 ?side2 ?side3 ?side4 A10.out).mono ?_); (case side1 => exact Kd.C_nil _ _); (case side2 => exact Nat.le_refl _); (case side3 => repeat (first | exact (Kd.C_below HR0.out (by repeat (first | (with_reducible first | exact HB.out | apply below_alloc | apply pw_below_drewN | apply below_drew1) | exact HB.out))) | (with_reducible refine Kd.C_alloc ?_ _) | (with_reducible refine Kd.C_drewN ?_ _) | (with_reducible refine Kd.C_drew ?_))); (case side4 => exact HC0.out); rintro e w' ⟨rfl, ⟨nd, rfl⟩⟩))
        go_meet
        case rel => exact ⟨_, (!t235), (by first | rfl | (simp; done) | (simp [*]; done)), H', ⟨by first | omega | exact Nat.le_refl _⟩, ⟨by repeat (first | (with_reducible first | exact HB.out | apply below_alloc | apply pw_below_drewN | apply below_drew1) | exact HB.out)⟩⟩
      · replace c9 := Bool.eq_false_iff.mpr c9
        subst c9
        have H1 : (cambiumlaw11_PathUnder.j0 k l0 l1 l2 true) = some r := by rw [if_neg (show ¬ (false = true) by decide)] at H; exact H
        clear H
        have H := H1
        clear H1
        have H' := Aside0.mk H
        clear H
        go_wp2_with (first | ((with_reducible refine gate_callee (f := 19) rfl ?_); refine goesL_ (some 11) rfl rfl Try.func19 (by kernel_rfl) rfl #[.slice A0 l0.length c0, .slice A0 l0.length c0] rfl (by (try simp only [List.map_toArray, List.map_cons, List.map_nil]); first | done | rfl | (simp only [List.length_drop, List.length_take]; rfl)) ?_; (with_reducible refine (path_Under.calls k _ _ l0 _ _ l0 false _ ?side1 ?side2 ?side3 ?side4 A8.out).mono ?_); (case side1 => repeat (first | exact (Kd.C_below HR0.out HB.out) | (with_reducible refine Kd.C_alloc ?_ _) | (with_reducible refine Kd.C_drewN ?_ _) | (with_reducible refine Kd.C_drew ?_))); (case side2 => exact HC0.out); (case side3 => repeat (first | exact (Kd.C_below HR0.out HB.out) | (with_reducible refine Kd.C_alloc ?_ _) | (with_reducible refine Kd.C_drewN ?_ _) | (with_reducible refine Kd.C_drew ?_))); (case side4 => exact HC0.out); rintro e w' ⟨rfl, ⟨nd, rfl⟩⟩; refine ⟨_, rfl, ?_⟩))
        go_meet
        case rel => exact ⟨_, (true), (by first | rfl | (simp; done) | (simp [*]; done)), H', ⟨by first | omega | exact Nat.le_refl _⟩, ⟨by repeat (first | (with_reducible first | exact HB.out | apply below_alloc | apply pw_below_drewN | apply below_drew1) | exact HB.out)⟩⟩
    case rest =>
      clear HC6
      try clear c1
      try clear c2
      try clear p2
      try clear c5
      try clear c7
      try clear c9
      obtain ⟨kq, x17_5, rfl, HA, HJ5, HB⟩ := hcut
      cases kq with
      | zero => exact absurd HA.out (by simp [cambiumlaw11_PathUnder.j0])
      | succ kj5 =>
        have H := HA.out
        clear HA
        simp only [cambiumlaw11_PathUnder.j0] at H
        by_cases c11 : x17_5 = true
        · subst c11
          have H1 : (some false) = some r := by rw [if_pos rfl] at H; exact H
          clear H
          have H := H1
          clear H1
          exact absurd ((Option.some.inj H).trans HT_.out) (by simp)
        · replace c11 := Bool.eq_false_iff.mpr c11
          subst c11
          have H1 : ((path_Under.f kj5 l0 l1).bind fun t236 => (if t236 = true then ((path_Under.f kj5 l1 l0).bind fun t237 => (if t237 = true then ((cambiumref11_Same.f kj5 l0 l1).bind fun t238 => (cambiumlaw11_PathUnder.j1 kj5 l0 l1 l2 (!t238))) else (cambiumlaw11_PathUnder.j1 kj5 l0 l1 l2 false))) else (cambiumlaw11_PathUnder.j1 kj5 l0 l1 l2 false))) = some r := by rw [if_neg (show ¬ (false = true) by decide)] at H; exact H
          clear H
          have H := H1
          clear H1
          have HC12 := Aside0.mk H
          clear H
          go_upto_region 5 with (fail)
          go_cut [31] (fun v31 wc => ∃ (kq : Nat) (x31_11 : Bool), v31 = .bool x31_11 ∧ Aside0 (cambiumlaw11_PathUnder.j1 kq l0 l1 l2 x31_11 = some r) ∧ Aside0 (kq ≤ kj5) ∧ Aside0 (Below w.heap.size w wc))
          case first =>
            have H := HC12.out
            clear HC12
            replace H := Option.bind_eq_some_iff.mp H
            obtain ⟨t236, A130, H⟩ := H
            replace H : (if t236 = true then ((path_Under.f kj5 l1 l0).bind fun t237 => (if t237 = true then ((cambiumref11_Same.f kj5 l0 l1).bind fun t238 => (cambiumlaw11_PathUnder.j1 kj5 l0 l1 l2 (!t238))) else (cambiumlaw11_PathUnder.j1 kj5 l0 l1 l2 false))) else (cambiumlaw11_PathUnder.j1 kj5 l0 l1 l2 false)) = some r := H
            have A13 := Aside0.mk A130
            clear A130
            by_cases c14 : t236 = true
            · subst c14
              have H1 : ((path_Under.f kj5 l1 l0).bind fun t237 => (if t237 = true then ((cambiumref11_Same.f kj5 l0 l1).bind fun t238 => (cambiumlaw11_PathUnder.j1 kj5 l0 l1 l2 (!t238))) else (cambiumlaw11_PathUnder.j1 kj5 l0 l1 l2 false))) = some r := by rw [if_pos rfl] at H; exact H
              clear H
              have H := H1
              clear H1
              replace H := Option.bind_eq_some_iff.mp H
              obtain ⟨t237, A150, H⟩ := H
              replace H : (if t237 = true then ((cambiumref11_Same.f kj5 l0 l1).bind fun t238 => (cambiumlaw11_PathUnder.j1 kj5 l0 l1 l2 (!t238))) else (cambiumlaw11_PathUnder.j1 kj5 l0 l1 l2 false)) = some r := H
              have A15 := Aside0.mk A150
              clear A150
              by_cases c16 : t237 = true
              · subst c16
                have H1 : ((cambiumref11_Same.f kj5 l0 l1).bind fun t238 => (cambiumlaw11_PathUnder.j1 kj5 l0 l1 l2 (!t238))) = some r := by rw [if_pos rfl] at H; exact H
                clear H
                have H := H1
                clear H1
                replace H := Option.bind_eq_some_iff.mp H
                obtain ⟨t238, A170, H⟩ := H
                replace H : (cambiumlaw11_PathUnder.j1 kj5 l0 l1 l2 (!t238)) = some r := H
                have A17 := Aside0.mk A170
                clear A170
                have H' := Aside0.mk H
                clear H
                go_wp2_with (first | ((with_reducible refine gate_callee (f := 19) rfl ?_); refine goesL_ (some 20) rfl rfl Try.func19 (by kernel_rfl) rfl #[.slice A0 l0.length c0, .slice A1 l1.length c1] rfl (by (try simp only [List.map_toArray, List.map_cons, List.map_nil]); first | done | rfl | (simp only [List.length_drop, List.length_take]; rfl)) ?_; (with_reducible refine (path_Under.calls kj5 _ _ l0 _ _ l1 true _ ?side1 ?side2 ?side3 ?side4 A13.out).mono ?_); (case side1 => repeat (first | exact (Kd.C_below HR0.out HB.out) | (with_reducible refine Kd.C_alloc ?_ _) | (with_reducible refine Kd.C_drewN ?_ _) | (with_reducible refine Kd.C_drew ?_))); (case side2 => exact HC0.out); (case side3 => repeat (first | exact (Kd.C_below HR1.out HB.out) | (with_reducible refine Kd.C_alloc ?_ _) | (with_reducible refine Kd.C_drewN ?_ _) | (with_reducible refine Kd.C_drew ?_))); (case side4 => exact HC1.out); rintro e w' ⟨rfl, ⟨nd, rfl⟩⟩; refine ⟨_, rfl, ?_⟩) | (go_at_call 19; (with_reducible refine (path_Under.calls kj5 _ _ l1 _ _ l0 true _ ?side1 ?side2 ?side3 ?side4 A15.out).mono ?_); (case side1 => repeat (first | exact (Kd.C_below HR1.out (by repeat (first | (with_reducible first | exact HB.out | apply below_alloc | apply pw_below_drewN | apply below_drew1) | exact HB.out))) | (with_reducible refine Kd.C_alloc ?_ _) | (with_reducible refine Kd.C_drewN ?_ _) | (with_reducible refine Kd.C_drew ?_))); (case side2 => exact HC1.out); (case side3 => repeat (first | exact (Kd.C_below HR0.out (by repeat (first | (with_reducible first | exact HB.out | apply below_alloc | apply pw_below_drewN | apply below_drew1) | exact HB.out))) | (with_reducible refine Kd.C_alloc ?_ _) | (with_reducible refine Kd.C_drewN ?_ _) | (with_reducible refine Kd.C_drew ?_))); (case side4 => exact HC0.out); rintro e w' ⟨rfl, ⟨nd, rfl⟩⟩) | (go_at_call 14; (with_reducible refine (cambiumref11_Same.calls kj5 _ _ l0 _ _ l1 t238 _ ?side1 ?side2 ?side3 ?side4 A17.out).mono ?_); (case side1 => repeat (first | exact (Kd.C_below HR0.out (by repeat (first | (with_reducible first | exact HB.out | apply below_alloc | apply pw_below_drewN | apply below_drew1) | exact HB.out))) | (with_reducible refine Kd.C_alloc ?_ _) | (with_reducible refine Kd.C_drewN ?_ _) | (with_reducible refine Kd.C_drew ?_))); (case side2 => exact HC0.out); (case side3 => repeat (first | exact (Kd.C_below HR1.out (by repeat (first | (with_reducible first | exact HB.out | apply below_alloc | apply pw_below_drewN | apply below_drew1) | exact HB.out))) | (with_reducible refine Kd.C_alloc ?_ _) | (with_reducible refine Kd.C_drewN ?_ _) | (with_reducible refine Kd.C_drew ?_))); (case side4 => exact HC1.out); rintro e w' ⟨rfl, ⟨nd, rfl⟩⟩))
                go_meet
                case rel => exact ⟨_, (!t238), (by first | rfl | (simp; done) | (simp [*]; done)), H', ⟨by have := HJ5.out; first | omega | exact Nat.le_refl _⟩, ⟨by repeat (first | (with_reducible first | exact HB.out | apply below_alloc | apply pw_below_drewN | apply below_drew1) | exact HB.out)⟩⟩
              · replace c16 := Bool.eq_false_iff.mpr c16
                subst c16
                have H1 : (cambiumlaw11_PathUnder.j1 kj5 l0 l1 l2 false) = some r := by rw [if_neg (show ¬ (false = true) by decide)] at H; exact H
                clear H
                have H := H1
                clear H1
                have H' := Aside0.mk H
                clear H
                go_wp2_with (first | ((with_reducible refine gate_callee (f := 19) rfl ?_); refine goesL_ (some 20) rfl rfl Try.func19 (by kernel_rfl) rfl #[.slice A0 l0.length c0, .slice A1 l1.length c1] rfl (by (try simp only [List.map_toArray, List.map_cons, List.map_nil]); first | done | rfl | (simp only [List.length_drop, List.length_take]; rfl)) ?_; (with_reducible refine (path_Under.calls kj5 _ _ l0 _ _ l1 true _ ?side1 ?side2 ?side3 ?side4 A13.out).mono ?_); (case side1 => repeat (first | exact (Kd.C_below HR0.out HB.out) | (with_reducible refine Kd.C_alloc ?_ _) | (with_reducible refine Kd.C_drewN ?_ _) | (with_reducible refine Kd.C_drew ?_))); (case side2 => exact HC0.out); (case side3 => repeat (first | exact (Kd.C_below HR1.out HB.out) | (with_reducible refine Kd.C_alloc ?_ _) | (with_reducible refine Kd.C_drewN ?_ _) | (with_reducible refine Kd.C_drew ?_))); (case side4 => exact HC1.out); rintro e w' ⟨rfl, ⟨nd, rfl⟩⟩; refine ⟨_, rfl, ?_⟩) | (go_at_call 19; (with_reducible refine (path_Under.calls kj5 _ _ l1 _ _ l0 false _ ?side1 ?side2 ?side3 ?side4 A15.out).mono ?_); (case side1 => repeat (first | exact (Kd.C_below HR1.out (by repeat (first | (with_reducible first | exact HB.out | apply below_alloc | apply pw_below_drewN | apply below_drew1) | exact HB.out))) | (with_reducible refine Kd.C_alloc ?_ _) | (with_reducible refine Kd.C_drewN ?_ _) | (with_reducible refine Kd.C_drew ?_))); (case side2 => exact HC1.out); (case side3 => repeat (first | exact (Kd.C_below HR0.out (by repeat (first | (with_reducible first | exact HB.out | apply below_alloc | apply pw_below_drewN | apply below_drew1) | exact HB.out))) | (with_reducible refine Kd.C_alloc ?_ _) | (with_reducible refine Kd.C_drewN ?_ _) | (with_reducible refine Kd.C_drew ?_))); (case side4 => exact HC0.out); rintro e w' ⟨rfl, ⟨nd, rfl⟩⟩))
                go_meet
                case rel => exact ⟨_, (false), (by first | rfl | (simp; done) | (simp [*]; done)), H', ⟨by have := HJ5.out; first | omega | exact Nat.le_refl _⟩, ⟨by repeat (first | (with_reducible first | exact HB.out | apply below_alloc | apply pw_below_drewN | apply below_drew1) | exact HB.out)⟩⟩
            · replace c14 := Bool.eq_false_iff.mpr c14
              subst c14
              have H1 : (cambiumlaw11_PathUnder.j1 kj5 l0 l1 l2 false) = some r := by rw [if_neg (show ¬ (false = true) by decide)] at H; exact H
              clear H
              have H := H1
              clear H1
              have H' := Aside0.mk H
              clear H
              go_wp2_with (first | ((with_reducible refine gate_callee (f := 19) rfl ?_); refine goesL_ (some 20) rfl rfl Try.func19 (by kernel_rfl) rfl #[.slice A0 l0.length c0, .slice A1 l1.length c1] rfl (by (try simp only [List.map_toArray, List.map_cons, List.map_nil]); first | done | rfl | (simp only [List.length_drop, List.length_take]; rfl)) ?_; (with_reducible refine (path_Under.calls kj5 _ _ l0 _ _ l1 false _ ?side1 ?side2 ?side3 ?side4 A13.out).mono ?_); (case side1 => repeat (first | exact (Kd.C_below HR0.out HB.out) | (with_reducible refine Kd.C_alloc ?_ _) | (with_reducible refine Kd.C_drewN ?_ _) | (with_reducible refine Kd.C_drew ?_))); (case side2 => exact HC0.out); (case side3 => repeat (first | exact (Kd.C_below HR1.out HB.out) | (with_reducible refine Kd.C_alloc ?_ _) | (with_reducible refine Kd.C_drewN ?_ _) | (with_reducible refine Kd.C_drew ?_))); (case side4 => exact HC1.out); rintro e w' ⟨rfl, ⟨nd, rfl⟩⟩; refine ⟨_, rfl, ?_⟩))
              go_meet
              case rel => exact ⟨_, (false), (by first | rfl | (simp; done) | (simp [*]; done)), H', ⟨by have := HJ5.out; first | omega | exact Nat.le_refl _⟩, ⟨by repeat (first | (with_reducible first | exact HB.out | apply below_alloc | apply pw_below_drewN | apply below_drew1) | exact HB.out)⟩⟩
          case rest =>
            clear HC12
            try clear c1
            try clear c2
            try clear p2
            try clear c5
            try clear c7
            try clear c9
            try clear c11
            try clear c13
            try clear c14
            try clear c16
            try clear p2
            obtain ⟨kq, x31_11, rfl, HA, HJ11, HB⟩ := hcut
            cases kq with
            | zero => exact absurd HA.out (by simp [cambiumlaw11_PathUnder.j1])
            | succ kj11 =>
              have H := HA.out
              clear HA
              simp only [cambiumlaw11_PathUnder.j1] at H
              by_cases c18 : x31_11 = true
              · subst c18
                have H1 : (some false) = some r := by rw [if_pos rfl] at H; exact H
                clear H
                have H := H1
                clear H1
                exact absurd ((Option.some.inj H).trans HT_.out) (by simp)
              · replace c18 := Bool.eq_false_iff.mpr c18
                subst c18
                have H1 : ((path_Under.f kj11 l0 l1).bind fun t239 => (if t239 = true then ((path_Under.f kj11 l1 l2).bind fun t240 => (if t240 = true then ((path_Under.f kj11 l0 l2).bind fun t241 => (some t241)) else (some true))) else (some true))) = some r := by rw [if_neg (show ¬ (false = true) by decide)] at H; exact H
                clear H
                have H := H1
                clear H1
                replace H := Option.bind_eq_some_iff.mp H
                obtain ⟨t239, A190, H⟩ := H
                replace H : (if t239 = true then ((path_Under.f kj11 l1 l2).bind fun t240 => (if t240 = true then ((path_Under.f kj11 l0 l2).bind fun t241 => (some t241)) else (some true))) else (some true)) = some r := H
                have A19 := Aside0.mk A190
                clear A190
                by_cases c20 : t239 = true
                · subst c20
                  have H1 : ((path_Under.f kj11 l1 l2).bind fun t240 => (if t240 = true then ((path_Under.f kj11 l0 l2).bind fun t241 => (some t241)) else (some true))) = some r := by rw [if_pos rfl] at H; exact H
                  clear H
                  have H := H1
                  clear H1
                  replace H := Option.bind_eq_some_iff.mp H
                  obtain ⟨t240, A210, H⟩ := H
                  replace H : (if t240 = true then ((path_Under.f kj11 l0 l2).bind fun t241 => (some t241)) else (some true)) = some r := H
                  have A21 := Aside0.mk A210
                  clear A210
                  by_cases c22 : t240 = true
                  · subst c22
                    have H1 : ((path_Under.f kj11 l0 l2).bind fun t241 => (some t241)) = some r := by rw [if_pos rfl] at H; exact H
                    clear H
                    have H := H1
                    clear H1
                    replace H := Option.bind_eq_some_iff.mp H
                    obtain ⟨t241, A230, H⟩ := H
                    replace H : (some t241) = some r := H
                    have A23 := Aside0.mk A230
                    clear A230
                    obtain rfl := Option.some.inj H
                    go_wp2_with (first | ((with_reducible refine gate_callee (f := 19) rfl ?_); refine goesL_ (some 34) rfl rfl Try.func19 (by kernel_rfl) rfl #[.slice A0 l0.length c0, .slice A1 l1.length c1] rfl (by (try simp only [List.map_toArray, List.map_cons, List.map_nil]); first | done | rfl | (simp only [List.length_drop, List.length_take]; rfl)) ?_; (with_reducible refine (path_Under.calls kj11 _ _ l0 _ _ l1 true _ ?side1 ?side2 ?side3 ?side4 A19.out).mono ?_); (case side1 => repeat (first | exact (Kd.C_below HR0.out HB.out) | (with_reducible refine Kd.C_alloc ?_ _) | (with_reducible refine Kd.C_drewN ?_ _) | (with_reducible refine Kd.C_drew ?_))); (case side2 => exact HC0.out); (case side3 => repeat (first | exact (Kd.C_below HR1.out HB.out) | (with_reducible refine Kd.C_alloc ?_ _) | (with_reducible refine Kd.C_drewN ?_ _) | (with_reducible refine Kd.C_drew ?_))); (case side4 => exact HC1.out); rintro e w' ⟨rfl, ⟨nd, rfl⟩⟩; refine ⟨_, rfl, ?_⟩) | (go_at_call 19; (with_reducible refine (path_Under.calls kj11 _ _ l1 _ _ l2 true _ ?side1 ?side2 ?side3 ?side4 A21.out).mono ?_); (case side1 => repeat (first | exact (Kd.C_below HR1.out (by repeat (first | (with_reducible first | exact HB.out | apply below_alloc | apply pw_below_drewN | apply below_drew1) | exact HB.out))) | (with_reducible refine Kd.C_alloc ?_ _) | (with_reducible refine Kd.C_drewN ?_ _) | (with_reducible refine Kd.C_drew ?_))); (case side2 => exact HC1.out); (case side3 => repeat (first | exact (Kd.C_below HR2.out (by repeat (first | (with_reducible first | exact HB.out | apply below_alloc | apply pw_below_drewN | apply below_drew1) | exact HB.out))) | (with_reducible refine Kd.C_alloc ?_ _) | (with_reducible refine Kd.C_drewN ?_ _) | (with_reducible refine Kd.C_drew ?_))); (case side4 => exact HC2.out); rintro e w' ⟨rfl, ⟨nd, rfl⟩⟩) | (go_at_call 19; (with_reducible refine (path_Under.calls kj11 _ _ l0 _ _ l2 t241 _ ?side1 ?side2 ?side3 ?side4 A23.out).mono ?_); (case side1 => repeat (first | exact (Kd.C_below HR0.out (by repeat (first | (with_reducible first | exact HB.out | apply below_alloc | apply pw_below_drewN | apply below_drew1) | exact HB.out))) | (with_reducible refine Kd.C_alloc ?_ _) | (with_reducible refine Kd.C_drewN ?_ _) | (with_reducible refine Kd.C_drew ?_))); (case side2 => exact HC0.out); (case side3 => repeat (first | exact (Kd.C_below HR2.out (by repeat (first | (with_reducible first | exact HB.out | apply below_alloc | apply pw_below_drewN | apply below_drew1) | exact HB.out))) | (with_reducible refine Kd.C_alloc ?_ _) | (with_reducible refine Kd.C_drewN ?_ _) | (with_reducible refine Kd.C_drew ?_))); (case side4 => exact HC2.out); rintro e w' ⟨rfl, ⟨nd, rfl⟩⟩))
                    go_ret
                    exact ⟨by first | rfl | (simp [errW_none, errW_some] <;> rfl) | (simp [*, errW_none, errW_some] <;> rfl), by repeat (first | (with_reducible first | exact HB.out | apply below_alloc | apply pw_below_drewN | apply below_drew1) | exact HB.out)⟩
                  · replace c22 := Bool.eq_false_iff.mpr c22
                    subst c22
                    have H1 : (some true) = some r := by rw [if_neg (show ¬ (false = true) by decide)] at H; exact H
                    clear H
                    have H := H1
                    clear H1
                    obtain rfl := Option.some.inj H
                    go_wp2_with (first | ((with_reducible refine gate_callee (f := 19) rfl ?_); refine goesL_ (some 34) rfl rfl Try.func19 (by kernel_rfl) rfl #[.slice A0 l0.length c0, .slice A1 l1.length c1] rfl (by (try simp only [List.map_toArray, List.map_cons, List.map_nil]); first | done | rfl | (simp only [List.length_drop, List.length_take]; rfl)) ?_; (with_reducible refine (path_Under.calls kj11 _ _ l0 _ _ l1 true _ ?side1 ?side2 ?side3 ?side4 A19.out).mono ?_); (case side1 => repeat (first | exact (Kd.C_below HR0.out HB.out) | (with_reducible refine Kd.C_alloc ?_ _) | (with_reducible refine Kd.C_drewN ?_ _) | (with_reducible refine Kd.C_drew ?_))); (case side2 => exact HC0.out); (case side3 => repeat (first | exact (Kd.C_below HR1.out HB.out) | (with_reducible refine Kd.C_alloc ?_ _) | (with_reducible refine Kd.C_drewN ?_ _) | (with_reducible refine Kd.C_drew ?_))); (case side4 => exact HC1.out); rintro e w' ⟨rfl, ⟨nd, rfl⟩⟩; refine ⟨_, rfl, ?_⟩) | (go_at_call 19; (with_reducible refine (path_Under.calls kj11 _ _ l1 _ _ l2 false _ ?side1 ?side2 ?side3 ?side4 A21.out).mono ?_); (case side1 => repeat (first | exact (Kd.C_below HR1.out (by repeat (first | (with_reducible first | exact HB.out | apply below_alloc | apply pw_below_drewN | apply below_drew1) | exact HB.out))) | (with_reducible refine Kd.C_alloc ?_ _) | (with_reducible refine Kd.C_drewN ?_ _) | (with_reducible refine Kd.C_drew ?_))); (case side2 => exact HC1.out); (case side3 => repeat (first | exact (Kd.C_below HR2.out (by repeat (first | (with_reducible first | exact HB.out | apply below_alloc | apply pw_below_drewN | apply below_drew1) | exact HB.out))) | (with_reducible refine Kd.C_alloc ?_ _) | (with_reducible refine Kd.C_drewN ?_ _) | (with_reducible refine Kd.C_drew ?_))); (case side4 => exact HC2.out); rintro e w' ⟨rfl, ⟨nd, rfl⟩⟩))
                    go_ret
                    exact ⟨by first | rfl | (simp [errW_none, errW_some] <;> rfl) | (simp [*, errW_none, errW_some] <;> rfl), by repeat (first | (with_reducible first | exact HB.out | apply below_alloc | apply pw_below_drewN | apply below_drew1) | exact HB.out)⟩
                · replace c20 := Bool.eq_false_iff.mpr c20
                  subst c20
                  have H1 : (some true) = some r := by rw [if_neg (show ¬ (false = true) by decide)] at H; exact H
                  clear H
                  have H := H1
                  clear H1
                  obtain rfl := Option.some.inj H
                  go_wp2_with (first | ((with_reducible refine gate_callee (f := 19) rfl ?_); refine goesL_ (some 34) rfl rfl Try.func19 (by kernel_rfl) rfl #[.slice A0 l0.length c0, .slice A1 l1.length c1] rfl (by (try simp only [List.map_toArray, List.map_cons, List.map_nil]); first | done | rfl | (simp only [List.length_drop, List.length_take]; rfl)) ?_; (with_reducible refine (path_Under.calls kj11 _ _ l0 _ _ l1 false _ ?side1 ?side2 ?side3 ?side4 A19.out).mono ?_); (case side1 => repeat (first | exact (Kd.C_below HR0.out HB.out) | (with_reducible refine Kd.C_alloc ?_ _) | (with_reducible refine Kd.C_drewN ?_ _) | (with_reducible refine Kd.C_drew ?_))); (case side2 => exact HC0.out); (case side3 => repeat (first | exact (Kd.C_below HR1.out HB.out) | (with_reducible refine Kd.C_alloc ?_ _) | (with_reducible refine Kd.C_drewN ?_ _) | (with_reducible refine Kd.C_drew ?_))); (case side4 => exact HC1.out); rintro e w' ⟨rfl, ⟨nd, rfl⟩⟩; refine ⟨_, rfl, ?_⟩))
                  go_ret
                  exact ⟨by first | rfl | (simp [errW_none, errW_some] <;> rfl) | (simp [*, errW_none, errW_some] <;> rfl), by repeat (first | (with_reducible first | exact HB.out | apply below_alloc | apply pw_below_drewN | apply below_drew1) | exact HB.out)⟩
  · replace c5 := Bool.eq_false_iff.mpr c5
    subst c5
    have H1 : (some false) = some r := by rw [if_neg (show ¬ (false = true) by decide)] at H; exact H
    clear H
    have H := H1
    clear H1
    exact absurd ((Option.some.inj H).trans HT_.out) (by simp)

end Go.Proofs.Ytjemaajliodmhaa.Z
end

section
/- Paths and names, as lists of bytes: the plain definitions and their laws (no program in sight). -/
namespace Go.Proofs.Ytjemaajliodmhaa.PM
/-- Bytes as a text. -/
def ba (l : List UInt8) : ByteArray := ⟨l.toArray⟩
theorem ba_data (l : List UInt8) : (ba l).data.toList = l := by simp [ba]
theorem ba_toList (l : List UInt8) : (ba l).toList = l := by rw [ByteArray.toList_eq]; exact ba_data l
theorem ba_size (l : List UInt8) : (ba l).size = l.length := by simp [ba, ByteArray.size]
theorem data_ba (s : ByteArray) : ba s.data.toList = s := by cases s; simp [ba]
theorem ba_inj {a b : List UInt8} (h : ba a = ba b) : a = b := by have := congrArg (fun s => s.data.toList) h; simpa [ba_data] using this
theorem ba_app (a b : List UInt8) : ba a ++ ba b = ba (a ++ b) := by
  have h : (ba a ++ ba b).data.toList = (ba (a ++ b)).data.toList := by rw [Go.Joins.data_append, ba_data, ba_data, ba_data]
  rw [← data_ba (ba a ++ ba b), h, data_ba]
theorem map_ba_inj {a b : List (List UInt8)} (h : a.map ba = b.map ba) : a = b := by
  have h2 := congrArg (List.map (fun s : ByteArray => s.data.toList)) h
  simpa [List.map_map, Function.comp_def, ba_data] using h2
theorem map_data (l : List ByteArray) : (l.map (fun s => s.data.toList)).map ba = l := by
  rw [List.map_map]; simp [Function.comp_def, data_ba]

/-- A name. -/
def nameL (l : List UInt8) : Bool := decide (l ≠ [] ∧ l.length ≤ 24 ∧ 47 ∉ l ∧ 0 ∉ l ∧ l ≠ [46] ∧ l ≠ [46, 46])
theorem nameL_iff {l : List UInt8} : nameL l = true ↔ (l ≠ [] ∧ l.length ≤ 24 ∧ 47 ∉ l ∧ 0 ∉ l ∧ l ≠ [46] ∧ l ≠ [46, 46]) := by simp [nameL]

/-- What stands between slashes. -/
def splitL : List UInt8 → List (List UInt8)
  | [] => [[]]
  | c :: cs => if c = 47 then [] :: splitL cs else match splitL cs with
    | h :: t => (c :: h) :: t
    | [] => [[c]]
theorem splitL_ne (l : List UInt8) : splitL l ≠ [] := by
  cases l with
  | nil => simp [splitL]
  | cons c cs =>
    unfold splitL
    split
    · simp
    · split <;> simp
/-- What has been read ahead is put before the first piece. -/
def pre (a : List UInt8) : List (List UInt8) → List (List UInt8)
  | h :: t => (a ++ h) :: t
  | [] => [a]
theorem splitL_cons_ne {c : UInt8} {cs : List UInt8} (h : c ≠ 47) : splitL (c :: cs) = pre [c] (splitL cs) := by
  conv => lhs; unfold splitL
  rw [if_neg h]
  cases splitL cs <;> rfl
theorem splitL_cons_eq (cs : List UInt8) : splitL (47 :: cs) = [] :: splitL cs := by
  conv => lhs; unfold splitL
  rw [if_pos rfl]
theorem pre_pre (a b : List UInt8) (l : List (List UInt8)) : pre a (pre b l) = pre (a ++ b) l := by cases l <;> simp [pre]
theorem pre_nil {l : List (List UInt8)} (h : l ≠ []) : pre [] l = l := by cases l <;> simp_all [pre]
theorem splitL_pre (a l : List UInt8) (h : 47 ∉ a) : splitL (a ++ l) = pre a (splitL l) := by
  induction a with
  | nil => rw [List.nil_append, pre_nil (splitL_ne l)]
  | cons c a ih =>
    rw [List.cons_append, splitL_cons_ne (fun e => h (by simp [e])), ih (fun e => h (by simp [e])), pre_pre]; rfl
theorem splitL_none (l : List UInt8) (h : 47 ∉ l) : splitL l = [l] := by
  have := splitL_pre l [] h
  rw [List.append_nil] at this
  rw [this]; simp [splitL, pre]
theorem splitL_at (a l : List UInt8) (h : 47 ∉ a) : splitL (a ++ 47 :: l) = a :: splitL l := by
  rw [splitL_pre a _ h, splitL_cons_eq]; simp [pre]
theorem splitL_no_slash : ∀ (l n : List UInt8), n ∈ splitL l → 47 ∉ n
  | [], n, h => by simp [splitL] at h; subst h; simp
  | c :: cs, n, h => by
    by_cases hc : c = 47
    · subst hc; rw [splitL_cons_eq] at h
      rcases List.mem_cons.1 h with rfl | h
      · simp
      · exact splitL_no_slash cs n h
    · rw [splitL_cons_ne hc] at h
      have hn := splitL_ne cs
      have ih := fun m => splitL_no_slash cs m
      cases hs : splitL cs with
      | nil => exact absurd hs hn
      | cons a t =>
        rw [hs] at h ih
        simp only [pre, List.singleton_append, List.mem_cons] at h
        rcases h with rfl | h
        · have := ih a (by simp)
          simp only [List.mem_cons, not_or]; exact ⟨fun e => hc e.symm, this⟩
        · exact ih n (by simp [h])
/-- Names put together: a slash ahead of each. -/
def joinL (ns : List (List UInt8)) : List UInt8 := ns.flatMap (fun n => 47 :: n)
theorem joinL_splitL (l : List UInt8) : joinL (splitL l) = 47 :: l := by
  induction l with
  | nil => simp [joinL, splitL]
  | cons c cs ih =>
    by_cases hc : c = 47
    · subst hc; rw [splitL_cons_eq]; simp only [joinL, List.flatMap_cons] at *; rw [ih]; rfl
    · rw [splitL_cons_ne hc]
      have hn := splitL_ne cs
      cases hs : splitL cs with
      | nil => exact absurd hs hn
      | cons a t =>
        rw [hs] at ih
        simp only [joinL, List.flatMap_cons, pre] at *
        simp only [List.cons_append, List.cons.injEq, true_and] at ih
        simp [ih]
theorem splitL_joinL (ns : List (List UInt8)) (h : ns ≠ []) (hs : ∀ n ∈ ns, 47 ∉ n) : splitL (joinL ns).tail = ns := by
  induction ns with
  | nil => exact absurd rfl h
  | cons n ns ih =>
    simp only [joinL, List.flatMap_cons, List.cons_append, List.tail_cons]
    cases ns with
    | nil => simp [splitL_none n (hs n (by simp))]
    | cons m ms =>
      have ih := ih (by simp) (fun x hx => hs x (by simp [hx]))
      simp only [joinL, List.flatMap_cons, List.cons_append, List.tail_cons] at ih
      simp only [List.flatMap_cons, List.cons_append]
      rw [splitL_at n _ (hs n (by simp)), ih]
theorem joinL_ne {ns : List (List UInt8)} (h : ns ≠ []) : ∃ r, joinL ns = 47 :: r := by
  cases ns with
  | nil => exact absurd rfl h
  | cons n ns => exact ⟨_, by simp [joinL]; rfl⟩
theorem joinL_length (ns : List (List UInt8)) : (joinL ns).length = ns.length + (ns.map List.length).sum := by
  induction ns with
  | nil => rfl
  | cons n ns ih => simp only [joinL, List.flatMap_cons, List.length_append, List.length_cons, List.map_cons, List.sum_cons] at *; omega
theorem joinL_append (a b : List (List UInt8)) : joinL (a ++ b) = joinL a ++ joinL b := by simp [joinL]

/-- A path's names, why there are none. -/
def pathSpec (p : List UInt8) : List (List UInt8) × Int :=
  if 256 < p.length then ([], 2) else match p with
    | [] => ([], 10)
    | c :: rest => if c = 47 then (if rest = [] then ([], 0) else if (splitL rest).all nameL then (splitL rest, 0) else ([], 10)) else ([], 10)
/-- The path of names, why there is none. -/
def joinSpec (ns : List (List UInt8)) : List UInt8 × Int :=
  if ns.all nameL then (if ns = [] then ([47], 0) else if 256 < (joinL ns).length then ([], 2) else (joinL ns, 0)) else ([], 10)
def lastSpec (p : List UInt8) : List (List UInt8) × List UInt8 × Int :=
  if (pathSpec p).2 = 0 then (if (pathSpec p).1 = [] then ([], [], 10) else ((pathSpec p).1.take ((pathSpec p).1.length - 1), (pathSpec p).1.getD ((pathSpec p).1.length - 1) [], 0)) else ([], [], (pathSpec p).2)
theorem name_ne {n : List UInt8} (h : nameL n = true) : n ≠ [] := (nameL_iff.1 h).1
theorem name_slash {n : List UInt8} (h : nameL n = true) : 47 ∉ n := (nameL_iff.1 h).2.2.1
theorem path_cases (p : List UInt8) : (pathSpec p).2 ≠ 0 ∧ (pathSpec p).1 = [] ∨ (p = [47] ∧ pathSpec p = ([], 0)) ∨ ∃ rest, p = 47 :: rest ∧ rest ≠ [] ∧ p.length ≤ 256 ∧ (splitL rest).all nameL = true ∧ pathSpec p = (splitL rest, 0) := by
  unfold pathSpec
  split
  · left; simp
  · rename_i hlen
    cases p with
    | nil => left; simp
    | cons c rest =>
      simp only
      split
      · rename_i hc; subst hc
        split
        · rename_i hr; subst hr; right; left; simp
        · rename_i hr
          split
          · rename_i ha; right; right; exact ⟨rest, rfl, hr, by omega, ha, rfl⟩
          · left; simp
      · left; simp
/-- The names of a path make it. -/
theorem join_path (p : List UInt8) (h : (pathSpec p).2 = 0) : joinSpec (pathSpec p).1 = (p, 0) := by
  rcases path_cases p with h1 | ⟨rfl, h1⟩ | ⟨rest, rfl, hr, hl, ha, h1⟩
  · exact absurd h h1.1
  · rw [h1]; rfl
  · rw [h1]
    unfold joinSpec
    simp only
    rw [if_pos ha, if_neg (splitL_ne rest), joinL_splitL, if_neg (by omega)]
theorem all_name {ns : List (List UInt8)} : ns.all nameL = true ↔ ∀ n ∈ ns, nameL n = true := by simp
/-- The path of names has them. -/
theorem path_join (ns : List (List UInt8)) (h : (joinSpec ns).2 = 0) : pathSpec (joinSpec ns).1 = (ns, 0) := by
  unfold joinSpec at *
  split at h
  · rename_i ha
    rw [if_pos ha]
    split at h
    · rename_i hn; subst hn; rw [if_pos rfl]; rfl
    · rename_i hn
      split at h
      · simp at h
      · rename_i hl
        rw [if_neg hn, if_neg hl]
        obtain ⟨r, hr⟩ := joinL_ne hn
        have hsp := splitL_joinL ns hn (fun n hnn => name_slash (all_name.1 ha n hnn))
        rw [hr] at hsp hl ⊢
        simp only [List.tail_cons] at hsp
        unfold pathSpec
        rw [if_neg hl]
        simp only
        have hrn : r ≠ [] := by
          intro e; subst e
          cases ns with
          | nil => exact hn rfl
          | cons n ns =>
            simp only [joinL, List.flatMap_cons, List.cons_append, List.cons.injEq, true_and, List.append_eq_nil_iff] at hr
            exact name_ne (all_name.1 ha n (by simp)) hr.1
        rw [if_pos trivial, if_neg hrn, hsp, if_pos ha]
  · simp at h
theorem join_bad (ns : List (List UInt8)) (h : (joinSpec ns).2 ≠ 0) : (joinSpec ns).1 = [] := by
  unfold joinSpec at *
  split <;> rename_i ha
  · rw [if_pos ha] at h
    split <;> rename_i hn
    · rw [if_pos hn] at h; simp at h
    · rw [if_neg hn] at h
      split <;> rename_i hl
      · rfl
      · rw [if_neg hl] at h; simp at h
  · rfl
/-- Of a path of some names: the last one, and what is ahead of it. -/
theorem last_path (p : List UInt8) (h : (pathSpec p).2 = 0) (hn : (pathSpec p).1 ≠ []) :
    ∃ ds n, (pathSpec p).1 = ds ++ [n] ∧ lastSpec p = (ds, n, 0) ∧ nameL n = true ∧ joinSpec (ds ++ [n]) = (p, 0) := by
  have hj := join_path p h
  have ha : (pathSpec p).1.all nameL = true := by
    rcases path_cases p with h1 | ⟨rfl, h1⟩ | ⟨rest, rfl, hr, hl, ha, h1⟩
    · exact absurd h h1.1
    · rw [h1] at hn; exact absurd rfl hn
    · rw [h1]; exact ha
  unfold lastSpec
  rw [if_pos h, if_neg hn]
  generalize (pathSpec p).1 = l at *
  have hl : l = l.dropLast ++ [l.getLast hn] := (List.dropLast_concat_getLast hn).symm
  refine ⟨l.dropLast, l.getLast hn, hl, ?_, all_name.1 ha _ (List.getLast_mem hn), by rw [← hl]; exact hj⟩
  rw [← List.dropLast_eq_take]
  congr 2
  rw [List.getD_eq_getElem?_getD, List.getElem?_eq_getElem (by have := List.length_pos_iff.2 hn; omega), Option.getD_some]
  rw [List.getLast_eq_getElem]
end Go.Proofs.Ytjemaajliodmhaa.PM
end

section
-- Printed by a program of this session (mp.py) out of the translation.
namespace Go.Proofs.Ytjemaajliodmhaa.Z
open Go.RowKit Go.Proofs.YtjemaajliodmhaaW.PrintWords Go.Proofs.YtjemaajliodmhaaW.PrintLast Go.Proofs.YtjemaajliodmhaaW.PrintMore
attribute [local go_sem] max2_int min2_int max_two min_two max_three min_three max_four min_four   -- for this text's walks alone
set_option linter.unusedVariables false
set_option linter.unusedSimpArgs false

/-! ### cambiumref11_Join: function 18 -/
mutual
def cambiumref11_Join.l0 : Nat → List ByteArray → List ByteArray → Int → Int → Option (ByteArray × Int)
  | 0, _, _, _, _ => none
  | k + 1, x0, x9, x10, x11 => if x11 < x10 then (if 0 ≤ x11 then (if x11 < (x9.length : Int) then ((cambiumref11_Name.f k (rdOf ByteArray.empty x9 x11)).bind fun t180 => (if t180 = true then (cambiumref11_Join.l0 k x0 x9 x10 (wrap64 (x11 + 1))) else (some ((⟨#[]⟩ : ByteArray), 10)))) else (none)) else (none)) else (if (x0.length : Int) = 0 then (some ((⟨#[47]⟩ : ByteArray), 0)) else (cambiumref11_Join.l1 k (⟨#[]⟩ : ByteArray) x0 (x0.length : Int) 0))
def cambiumref11_Join.l1 : Nat → ByteArray → List ByteArray → Int → Int → Option (ByteArray × Int)
  | 0, _, _, _, _ => none
  | k + 1, x6, x22, x23, x24 => if x24 < x23 then (if 0 ≤ x24 then (if x24 < (x22.length : Int) then (if 1 + (rdOf ByteArray.empty x22 x24).size ≤ 9223372036854775807 then (if x6.size + ((⟨#[47]⟩ : ByteArray) ++ (rdOf ByteArray.empty x22 x24)).size ≤ 9223372036854775807 then (if ((x6 ++ ((⟨#[47]⟩ : ByteArray) ++ (rdOf ByteArray.empty x22 x24))).size : Int) > 256 then (some ((⟨#[]⟩ : ByteArray), 2)) else (cambiumref11_Join.l1 k (x6 ++ ((⟨#[47]⟩ : ByteArray) ++ (rdOf ByteArray.empty x22 x24))) x22 x23 (wrap64 (x24 + 1)))) else (none)) else (none)) else (none)) else (none)) else (some (x6, 0))
end
def cambiumref11_Join.f (k : Nat) (l0 : List ByteArray) : Option (ByteArray × Int) := cambiumref11_Join.l0 k l0 l0 (l0.length : Int) 0
theorem cambiumref11_Join.mono_l : ∀ k, (∀ y0 y1 y2 y3, LeO (cambiumref11_Join.l0 k y0 y1 y2 y3) (cambiumref11_Join.l0 (k + 1) y0 y1 y2 y3)) ∧ (∀ y0 y1 y2 y3, LeO (cambiumref11_Join.l1 k y0 y1 y2 y3) (cambiumref11_Join.l1 (k + 1) y0 y1 y2 y3))
  | 0 => ⟨fun _ _ _ _ r h => by simp [cambiumref11_Join.l0] at h, fun _ _ _ _ r h => by simp [cambiumref11_Join.l1] at h⟩
  | k + 1 => by
    obtain ⟨ih0, ih1⟩ := cambiumref11_Join.mono_l k
    refine ⟨?_, ?_⟩
    · intro y0 y1 y2 y3
      unfold cambiumref11_Join.l0
      repeat' first
      | (with_reducible exact ih0 _ _ _ _)
      | (with_reducible exact ih1 _ _ _ _)
      | (with_reducible exact cambiumref11_Name.mono _ _)
      | (with_reducible exact LeO.refl _)
      | (with_reducible exact LeO.none _)
      | (with_reducible refine LeO.ite ?_ ?_)
      | (with_reducible refine LeO.bind ?_ (fun _ => ?_))
      | exact ih0 _ _ _ _
      | exact ih1 _ _ _ _
      | exact cambiumref11_Name.mono _ _
      | exact LeO.none _
      | refine LeO.ite ?_ ?_
      | refine LeO.bind ?_ (fun _ => ?_)
    · intro y0 y1 y2 y3
      unfold cambiumref11_Join.l1
      repeat' first
      | (with_reducible exact ih0 _ _ _ _)
      | (with_reducible exact ih1 _ _ _ _)
      | (with_reducible exact cambiumref11_Name.mono _ _)
      | (with_reducible exact LeO.refl _)
      | (with_reducible exact LeO.none _)
      | (with_reducible refine LeO.ite ?_ ?_)
      | (with_reducible refine LeO.bind ?_ (fun _ => ?_))
      | exact ih0 _ _ _ _
      | exact ih1 _ _ _ _
      | exact cambiumref11_Name.mono _ _
      | exact LeO.none _
      | refine LeO.ite ?_ ?_
      | refine LeO.bind ?_ (fun _ => ?_)
theorem cambiumref11_Join.mono : ∀ a0 k, LeO (cambiumref11_Join.f k a0) (cambiumref11_Join.f (k + 1) a0) := by
  intro a0 k
  obtain ⟨ih0, ih1⟩ := cambiumref11_Join.mono_l k
  unfold cambiumref11_Join.f
  repeat' first
      | (with_reducible exact ih0 _ _ _ _)
      | (with_reducible exact ih1 _ _ _ _)
      | (with_reducible exact cambiumref11_Name.mono _ _)
      | (with_reducible exact LeO.refl _)
      | (with_reducible exact LeO.none _)
      | (with_reducible refine LeO.ite ?_ ?_)
      | (with_reducible refine LeO.bind ?_ (fun _ => ?_))
      | exact ih0 _ _ _ _
      | exact ih1 _ _ _ _
      | exact cambiumref11_Name.mono _ _
      | exact LeO.none _
      | refine LeO.ite ?_ ?_
      | refine LeO.bind ?_ (fun _ => ?_)
set_option maxHeartbeats 8000000 in
set_option maxRecDepth 100000 in
theorem cambiumref11_Join.calls (k : Nat) (A0 : Option Addr) (c0 : Nat) (l0 : List ByteArray) (r1 : ByteArray) (r2 : Int) (w : World) (hr0 : Kd.C Kd.string w A0 l0.length l0) (hc0 : l0.length ≤ c0) (h : cambiumref11_Join.f k l0 = some (r1, r2)) :
    Calls Try.prog 18 #[.slice A0 l0.length c0] w fun e w' => e = .returned (.tuple #[.string r1, .int .i64 r2]) ∧ Drawn0 w w' := by
  have HR0 := Aside0.mk hr0
  have HC0 := Aside0.mk hc0
  clear hr0 hc0
  have H : (cambiumref11_Join.l0 k l0 l0 (l0.length : Int) 0) = some (r1, r2) := h
  clear h
  have H' := Aside0.mk H
  clear H
  go_enter Try.func18, Try.ntmps18
  go_wp2
  go_loopg [11] k (fun kq v11 w' => ∃ (x11_1 : Int), v11 = .int .i64 x11_1 ∧ Aside0 (cambiumref11_Join.l0 kq l0 l0 (l0.length : Int) x11_1 = some (r1, r2)) ∧ Aside0 (kq ≤ k) ∧ Drawn0 w w')
  case atStart => exact ⟨(0), (by first | rfl | (simp; done) | (simp [*]; done)), H', ⟨Nat.le_refl _⟩, by repeat (first | exact Drawn0.refl _ | apply Drawn0.step)⟩
  case round =>
    clear H'
    try clear c1
    obtain ⟨x11_1, rfl, HA, HK1, ⟨m1, rfl⟩⟩ := hrel
    cases gk with
    | zero => exact absurd HA.out (by simp [cambiumref11_Join.l0])
    | succ k1 =>
      have H := HA.out
      clear HA
      simp only [cambiumref11_Join.l0] at H
      by_cases c2 : x11_1 < (l0.length : Int)
      · rw [if_pos c2] at H
        have c2b0 : decide (x11_1 < (l0.length : Int)) = true := decide_eq_true c2
        clear c2
        by_cases c3 : 0 ≤ x11_1
        · rw [if_pos c3] at H
          have c3b0 : decide (0 ≤ x11_1) = true := decide_eq_true c3
          clear c3
          by_cases c4 : x11_1 < (l0.length : Int)
          · rw [if_pos c4] at H
            have c4b0 : decide (x11_1 < (l0.length : Int)) = true := decide_eq_true c4
            clear c4
            replace H := Option.bind_eq_some_iff.mp H
            obtain ⟨t180, A50, H⟩ := H
            replace H : (if t180 = true then (cambiumref11_Join.l0 k1 l0 l0 (l0.length : Int) (wrap64 (x11_1 + 1))) else (some ((⟨#[]⟩ : ByteArray), 10))) = some (r1, r2) := H
            have A5 := Aside0.mk A50
            clear A50
            by_cases c6 : t180 = true
            · subst c6
              have H1 : (cambiumref11_Join.l0 k1 l0 l0 (l0.length : Int) (wrap64 (x11_1 + 1))) = some (r1, r2) := by rw [if_pos rfl] at H; exact H
              clear H
              have H := H1
              clear H1
              have H' := Aside0.mk H
              clear H
              have p179 : 0 ≤ (x11_1 : Int) := of_decide_eq_true (by first | (with_reducible assumption) | assumption)
              have q179 : x11_1 < (l0.length : Int) := of_decide_eq_true (by first | (with_reducible assumption) | assumption)
              obtain ⟨ad179, e179, hx179_0⟩ := Kd.at_string HR0.out x11_1 p179 q179
              cases e179
              replace p179 := eq_true p179
              replace q179 := eq_true q179
              go_wp2_with (first | ((with_reducible refine gate_callee (f := 16) rfl ?_); refine goesL_ (some 16) rfl rfl Try.func16 (by kernel_rfl) rfl #[.string (rdOf ByteArray.empty l0 x11_1)] rfl (by (try simp only [List.map_toArray, List.map_cons, List.map_nil]); first | done | rfl | (simp only [List.length_drop, List.length_take]; rfl)) ?_; (with_reducible refine (cambiumref11_Name.calls k1 (rdOf ByteArray.empty l0 x11_1) true _ A5.out).mono ?_); rintro e w' ⟨rfl, ⟨nd, rfl⟩⟩; refine ⟨_, rfl, ?_⟩))
              go_roundg k1
              case measure => have := HK1.out; omega
              case rel => exact ⟨(wrap64 (x11_1 + 1)), (by first | rfl | (simp; done) | (simp [*]; done)), H', ⟨by have := HK1.out; omega⟩, by repeat (first | exact Drawn0.refl _ | apply Drawn0.step)⟩
            · replace c6 := Bool.eq_false_iff.mpr c6
              subst c6
              have H1 : (some ((⟨#[]⟩ : ByteArray), 10)) = some (r1, r2) := by rw [if_neg (show ¬ (false = true) by decide)] at H; exact H
              clear H
              have H := H1
              clear H1
              simp only [Option.some.injEq, Prod.mk.injEq] at H
              obtain ⟨rfl, rfl⟩ := H
              have p179 : 0 ≤ (x11_1 : Int) := of_decide_eq_true (by first | (with_reducible assumption) | assumption)
              have q179 : x11_1 < (l0.length : Int) := of_decide_eq_true (by first | (with_reducible assumption) | assumption)
              obtain ⟨ad179, e179, hx179_0⟩ := Kd.at_string HR0.out x11_1 p179 q179
              cases e179
              replace p179 := eq_true p179
              replace q179 := eq_true q179
              go_wp2_with (first | ((with_reducible refine gate_callee (f := 16) rfl ?_); refine goesL_ (some 16) rfl rfl Try.func16 (by kernel_rfl) rfl #[.string (rdOf ByteArray.empty l0 x11_1)] rfl (by (try simp only [List.map_toArray, List.map_cons, List.map_nil]); first | done | rfl | (simp only [List.length_drop, List.length_take]; rfl)) ?_; (with_reducible refine (cambiumref11_Name.calls k1 (rdOf ByteArray.empty l0 x11_1) false _ A5.out).mono ?_); rintro e w' ⟨rfl, ⟨nd, rfl⟩⟩; refine ⟨_, rfl, ?_⟩))
              go_ret2
              exact ⟨by first | rfl | (simp; done) | (simp [*]; done), by repeat (first | exact Drawn0.refl _ | apply Drawn0.step)⟩
          · rw [if_neg c4] at H
            exact absurd H (by simp)
        · rw [if_neg c3] at H
          exact absurd H (by simp)
      · rw [if_neg c2] at H
        have c2b0 : decide (x11_1 < (l0.length : Int)) = false := decide_eq_false c2
        clear c2
        by_cases c7 : (l0.length : Int) = 0
        · rw [if_pos c7] at H
          have c7b0 : ((l0.length : Int) == 0) = true := beq_iff_eq.mpr c7
          have c7b1 : ((l0.length : Int) != 0) = false := bne_eq_false_iff_eq.mpr c7
          clear c7
          simp only [Option.some.injEq, Prod.mk.injEq] at H
          obtain ⟨rfl, rfl⟩ := H
          go_wp2
          go_ret2
          exact ⟨by first | rfl | (simp; done) | (simp [*]; done), by repeat (first | exact Drawn0.refl _ | apply Drawn0.step)⟩
        · rw [if_neg c7] at H
          have c7b0 : ((l0.length : Int) == 0) = false := beq_eq_false_iff_ne.mpr c7
          have c7b1 : ((l0.length : Int) != 0) = true := bne_iff_ne.mpr c7
          have c7b2 : ¬ (l0 = []) := fun h_ => c7 (by rw [h_]; rfl)
          have H' := Aside0.mk H
          clear H
          go_wp2
          go_loopg [6, 24] k1 (fun kq v6 v24 w' => ∃ (x6_2 : ByteArray) (x24_2 : Int), v6 = .string x6_2 ∧ v24 = .int .i64 x24_2 ∧ Aside0 (cambiumref11_Join.l1 kq x6_2 l0 (l0.length : Int) x24_2 = some (r1, r2)) ∧ Aside0 (kq ≤ k1) ∧ Drawn0 w w')
          case atStart => exact ⟨((⟨#[]⟩ : ByteArray)), (0), (by first | rfl | (simp; done) | (simp [*]; done)), (by first | rfl | (simp; done) | (simp [*]; done)), H', ⟨Nat.le_refl _⟩, by repeat (first | exact Drawn0.refl _ | apply Drawn0.step)⟩
          case round =>
            clear H'
            try clear c1
            try clear p1
            try clear q1
            try clear hx1
            try clear c2
            try clear c2b0
            try clear p2
            try clear c3
            try clear c3b0
            try clear c4
            try clear c4b0
            try clear c6
            try clear p6
            try clear c7
            try clear c7b0
            try clear c7b1
            try clear c7b2
            try clear hx179_0
            try clear p179
            try clear q179
            obtain ⟨x6_2, x24_2, rfl, rfl, HA, HK2, ⟨m2, rfl⟩⟩ := hrel
            cases gk with
            | zero => exact absurd HA.out (by simp [cambiumref11_Join.l1])
            | succ k2 =>
              have H := HA.out
              clear HA
              simp only [cambiumref11_Join.l1] at H
              by_cases c8 : x24_2 < (l0.length : Int)
              · rw [if_pos c8] at H
                have c8b0 : decide (x24_2 < (l0.length : Int)) = true := decide_eq_true c8
                clear c8
                by_cases c9 : 0 ≤ x24_2
                · rw [if_pos c9] at H
                  have c9b0 : decide (0 ≤ x24_2) = true := decide_eq_true c9
                  clear c9
                  by_cases c10 : x24_2 < (l0.length : Int)
                  · rw [if_pos c10] at H
                    have c10b0 : decide (x24_2 < (l0.length : Int)) = true := decide_eq_true c10
                    clear c10
                    by_cases c11 : 1 + (rdOf ByteArray.empty l0 x24_2).size ≤ 9223372036854775807
                    · rw [if_pos c11] at H
                      have c11b0 := eq_true c11
                      have c11b1 : decide (1 + (rdOf ByteArray.empty l0 x24_2).size ≤ 9223372036854775807) = true := decide_eq_true c11
                      try have c11b2 : (9223372036854775807 < 1 + (rdOf ByteArray.empty l0 x24_2).size) = False := eq_false (Nat.not_lt.2 c11)
                      by_cases c12 : x6_2.size + ((⟨#[47]⟩ : ByteArray) ++ (rdOf ByteArray.empty l0 x24_2)).size ≤ 9223372036854775807
                      · rw [if_pos c12] at H
                        have c12b0 := eq_true c12
                        have c12b1 : decide (x6_2.size + ((⟨#[47]⟩ : ByteArray) ++ (rdOf ByteArray.empty l0 x24_2)).size ≤ 9223372036854775807) = true := decide_eq_true c12
                        have c12b1x := c12b1
                        (try simp only [ByteArray.size_append, Int.natCast_add, show (⟨#[47]⟩ : ByteArray).size = 1 from rfl, show ((1 : Nat) : Int) = 1 from rfl] at c12b1x)
                        try have c12b2 : (9223372036854775807 < x6_2.size + ((⟨#[47]⟩ : ByteArray) ++ (rdOf ByteArray.empty l0 x24_2)).size) = False := eq_false (Nat.not_lt.2 c12)
                        by_cases c13 : ((x6_2 ++ ((⟨#[47]⟩ : ByteArray) ++ (rdOf ByteArray.empty l0 x24_2))).size : Int) > 256
                        · rw [if_pos c13] at H
                          have c13b0 : decide (256 < ((x6_2 ++ ((⟨#[47]⟩ : ByteArray) ++ (rdOf ByteArray.empty l0 x24_2))).size : Int)) = true := decide_eq_true c13
                          have c13b0x := c13b0
                          (try simp only [ByteArray.size_append, Int.natCast_add, show (⟨#[47]⟩ : ByteArray).size = 1 from rfl, show ((1 : Nat) : Int) = 1 from rfl] at c13b0x)
                          have c13b1 : decide (256 < (x6_2 ++ ((⟨#[47]⟩ : ByteArray) ++ (rdOf ByteArray.empty l0 x24_2))).size) = true := decide_eq_true (by omega)
                          have c13b1x := c13b1
                          (try simp only [ByteArray.size_append, Int.natCast_add, show (⟨#[47]⟩ : ByteArray).size = 1 from rfl, show ((1 : Nat) : Int) = 1 from rfl] at c13b1x)
                          clear c13
                          simp only [Option.some.injEq, Prod.mk.injEq] at H
                          obtain ⟨rfl, rfl⟩ := H
                          have p181 : 0 ≤ (x24_2 : Int) := of_decide_eq_true (by first | (with_reducible assumption) | assumption)
                          have q181 : x24_2 < (l0.length : Int) := of_decide_eq_true (by first | (with_reducible assumption) | assumption)
                          obtain ⟨ad181, e181, hx181_0⟩ := Kd.at_string HR0.out x24_2 p181 q181
                          cases e181
                          replace p181 := eq_true p181
                          replace q181 := eq_true q181
                          go_wp2
                          go_ret2
                          exact ⟨by first | rfl | (simp; done) | (simp [*]; done), by repeat (first | exact Drawn0.refl _ | apply Drawn0.step)⟩
                        · rw [if_neg c13] at H
                          have c13b0 : decide (256 < ((x6_2 ++ ((⟨#[47]⟩ : ByteArray) ++ (rdOf ByteArray.empty l0 x24_2))).size : Int)) = false := decide_eq_false c13
                          have c13b0x := c13b0
                          (try simp only [ByteArray.size_append, Int.natCast_add, show (⟨#[47]⟩ : ByteArray).size = 1 from rfl, show ((1 : Nat) : Int) = 1 from rfl] at c13b0x)
                          have c13b1 : decide (256 < (x6_2 ++ ((⟨#[47]⟩ : ByteArray) ++ (rdOf ByteArray.empty l0 x24_2))).size) = false := decide_eq_false (by omega)
                          have c13b1x := c13b1
                          (try simp only [ByteArray.size_append, Int.natCast_add, show (⟨#[47]⟩ : ByteArray).size = 1 from rfl, show ((1 : Nat) : Int) = 1 from rfl] at c13b1x)
                          clear c13
                          have H' := Aside0.mk H
                          clear H
                          have p181 : 0 ≤ (x24_2 : Int) := of_decide_eq_true (by first | (with_reducible assumption) | assumption)
                          have q181 : x24_2 < (l0.length : Int) := of_decide_eq_true (by first | (with_reducible assumption) | assumption)
                          obtain ⟨ad181, e181, hx181_0⟩ := Kd.at_string HR0.out x24_2 p181 q181
                          cases e181
                          replace p181 := eq_true p181
                          replace q181 := eq_true q181
                          go_wp2
                          go_roundg k2
                          case measure => have := HK1.out; have := HK2.out; omega
                          case rel => exact ⟨(x6_2 ++ ((⟨#[47]⟩ : ByteArray) ++ (rdOf ByteArray.empty l0 x24_2))), (wrap64 (x24_2 + 1)), (by first | rfl | (simp; done) | (simp [*]; done)), (by first | rfl | (simp; done) | (simp [*]; done)), H', ⟨by have := HK1.out; have := HK2.out; omega⟩, by repeat (first | exact Drawn0.refl _ | apply Drawn0.step)⟩
                      · rw [if_neg c12] at H
                        exact absurd H (by simp)
                    · rw [if_neg c11] at H
                      exact absurd H (by simp)
                  · rw [if_neg c10] at H
                    exact absurd H (by simp)
                · rw [if_neg c9] at H
                  exact absurd H (by simp)
              · rw [if_neg c8] at H
                have c8b0 : decide (x24_2 < (l0.length : Int)) = false := decide_eq_false c8
                clear c8
                simp only [Option.some.injEq, Prod.mk.injEq] at H
                obtain ⟨rfl, rfl⟩ := H
                go_wp2
                go_ret2
                exact ⟨by first | rfl | (simp; done) | (simp [*]; done), by repeat (first | exact Drawn0.refl _ | apply Drawn0.step)⟩

end Go.Proofs.Ytjemaajliodmhaa.Z
end

section
/- What the functions of package path, and the reference's, come to: the plain definitions. -/
namespace Go.Proofs.Ytjemaajliodmhaa.Z
open Go.RowKit Go.Proofs.YtjemaajliodmhaaW.PrintWords Go.Proofs.YtjemaajliodmhaaW.PrintLast Go.Proofs.Ytjemaajliodmhaa.PM
set_option linter.unusedVariables false
theorem Ev.val {α : Type} {g : Nat → Option α} {a b : α} (h : Ev g a) (e : a = b) : Ev g b := e ▸ h
theorem Ev.const {α : Type} {x : Option α} {r : α} (h : x = some r) : Ev (fun _ => x) r := ⟨0, fun _ _ => h⟩
theorem Ev.ifp {α : Type} {c : Prop} [Decidable c] {f g : Nat → Option α} {r : α} (hc : c) (h : Ev f r) : Ev (fun k => if c then f k else g k) r := Ev.congr (fun k => if_pos hc) h
theorem Ev.ifn {α : Type} {c : Prop} [Decidable c] {f g : Nat → Option α} {r : α} (hc : ¬ c) (h : Ev g r) : Ev (fun k => if c then f k else g k) r := Ev.congr (fun k => if_neg hc) h
theorem Ev.bindc {α β : Type} {x : Option α} {f : Nat → α → Option β} {a : α} {r : β} (h : x = some a) (k : Ev (fun n => f n a) r) : Ev (fun n => x.bind (f n)) r := Ev.bind (Ev.const h) k
theorem Ev.both {α : Type} {g : Nat → Option α} {a b : α} (h : Ev g a) (h2 : Ev g b) : a = b := by
  obtain ⟨K, h⟩ := h
  obtain ⟨K2, h2⟩ := h2
  have e1 := h (max K K2) (by omega)
  have e2 := h2 (max K K2) (by omega)
  rw [e1] at e2
  exact Option.some.inj e2
theorem w64 {i : Int} (h0 : -9223372036854775808 ≤ i) (h1 : i ≤ 9223372036854775807) : wrap64 i = i := by unfold wrap64; omega
theorem index_mem (l : List UInt8) (c : UInt8) : 0 ≤ Lib.indexByte l c ↔ c ∈ l := by
  induction l with
  | nil => simp [Lib.indexByte]
  | cons b l ih =>
    unfold Lib.indexByte
    by_cases hb : b = c
    · subst hb; simp
    · have hb2 : (b == c) = false := by simpa using hb
      rw [hb2]
      by_cases h1 : Lib.indexByte l c = -1
      · have hn : c ∉ l := fun hm => by have := ih.2 hm; omega
        simp [h1, hn, Ne.symm hb]
      · have := Lib.indexByte_ge l c
        have hm : c ∈ l := ih.1 (by omega)
        have h2 : (Lib.indexByte l c == -1) = false := by simpa using h1
        simp [h2, hm]; omega
theorem bt_get (s : ByteArray) (i : Nat) (h : i < s.data.toList.length) : bt s (i : Int) = ((s.data.toList[i]).toNat : Int) := by
  have hs : i < s.size := by rw [Array.length_toList] at h; exact h
  unfold bt
  rw [dif_pos (by simpa using hs)]
  simp only [Int.toNat_natCast, Array.getElem_toList]
  rfl
theorem byte_eq (x : UInt8) (n : Nat) (hn : n < 256) : ((x.toNat : Int) = n) ↔ x = n.toUInt8 := by
  constructor
  · intro h
    have : x.toNat = n := by omega
    rw [← UInt8.toNat_inj]
    simp [this]; omega
  · intro h; subst h; simp; omega
theorem toList_nil (a : ByteArray) : a.toList = [] ↔ a.data.toList = [] := by rw [ByteArray.toList_eq]
theorem size_len (a : ByteArray) : a.size = a.data.toList.length := by rw [Array.length_toList]; rfl

theorem nameB_eq (a : ByteArray) : nameB a = nameL a.data.toList := by
  unfold nameB nameL
  rw [ByteArray.toList_eq]
  have h1 := index_mem a.data.toList 47
  have h2 := index_mem a.data.toList 0
  have hs := size_len a
  rw [Bool.eq_iff_iff]
  simp only [Bool.and_eq_true, decide_eq_true_eq, Bool.not_eq_true', decide_eq_false_iff_not, h1, h2]
  constructor
  · rintro ⟨a1, a2, a3, a4, a5, a6⟩; exact ⟨a1, by omega, a3, a4, a5, a6⟩
  · rintro ⟨a1, a2, a3, a4, a5, a6⟩; exact ⟨a1, by omega, a3, a4, a5, a6⟩
theorem name_f (a : ByteArray) : path_Name.f a = some (nameL a.data.toList) := congrArg some (nameB_eq a)
/-- What the reference's Name asks behind its loop. -/
def tailB (a : ByteArray) : Bool := decide (a.data.toList ≠ [] ∧ a.data.toList.length ≤ 24 ∧ a.data.toList ≠ [46] ∧ a.data.toList ≠ [46, 46])
theorem refName_l0 (a : ByteArray) (hs : a.size ≤ 9223372036854775807) : ∀ d i : Nat, a.data.toList.length = i + d →
    Ev (fun k => cambiumref11_Name.l0 k a (i : Int)) (decide (47 ∉ a.data.toList.drop i ∧ 0 ∉ a.data.toList.drop i) && tailB a)
  | 0, i, hi => by
    refine Ev.step (fun k => by rw [cambiumref11_Name.l0]) ?_
    have hz := size_len a
    refine Ev.ifn (by omega) (Ev.const ?_)
    rw [List.drop_of_length_le (by omega)]
    unfold tailB
    rw [ByteArray.toList_eq]
    by_cases h1 : a.data.toList = []
    · simp [h1]
    · rw [if_neg h1]
      by_cases h2 : (a.size : Int) ≤ 24
      · rw [if_pos h2]
        by_cases h3 : a.data.toList = [46]
        · rw [if_pos h3, h3]; simp
        · rw [if_neg h3]
          have h2' : a.data.toList.length ≤ 24 := by omega
          have hl : decide (¬a.data.toList = [] ∧ a.data.toList.length ≤ 24 ∧ ¬a.data.toList = [46] ∧ ¬a.data.toList = [46, 46]) = (a.data.toList != [46, 46]) := by
            rw [Bool.eq_iff_iff]; simp only [decide_eq_true_eq, bne_iff_ne, ne_eq]
            exact ⟨fun h => h.2.2.2, fun h => ⟨h1, h2', h3, h⟩⟩
          simp only [ne_eq] at hl ⊢
          rw [hl]; simp
      · rw [if_neg h2]; simp; omega
  | d + 1, i, hi => by
    refine Ev.step (fun k => by rw [cambiumref11_Name.l0]) ?_
    have hz := size_len a
    refine Ev.ifp (by omega) (Ev.ifp (by omega) ?_)
    have hlt : i < a.data.toList.length := by omega
    rw [bt_get a i hlt, List.drop_eq_getElem_cons hlt]
    have e47 := byte_eq (a.data.toList[i]) 47 (by decide)
    have e0 := byte_eq (a.data.toList[i]) 0 (by decide)
    by_cases h47 : ((a.data.toList[i].toNat : Int)) = 47
    · refine Ev.ifp h47 (Ev.const ?_)
      have : a.data.toList[i] = 47 := e47.1 h47
      simp [this]
    · refine Ev.ifn h47 ?_
      by_cases h0 : ((a.data.toList[i].toNat : Int)) = 0
      · refine Ev.ifp h0 (Ev.const ?_)
        have : a.data.toList[i] = 0 := e0.1 h0
        simp [this]
      · refine Ev.ifn h0 ?_
        rw [w64 (by omega) (by omega)]
        have ih := refName_l0 a hs d (i + 1) (by omega)
        refine Ev.val ih ?_
        have n1 : a.data.toList[i] ≠ 47 := fun e => h47 (e47.2 e)
        have n2 : a.data.toList[i] ≠ 0 := fun e => h0 (e0.2 e)
        congr 1
        generalize a.data.toList[i] = b at *
        generalize a.data.toList.drop (i + 1) = r at *
        simp only [List.mem_cons, Ne.symm n1, Ne.symm n2, false_or]
theorem refName (a : ByteArray) (hs : a.size ≤ 9223372036854775807) : Ev (fun k => cambiumref11_Name.f k a) (nameL a.data.toList) := by
  refine Ev.val (refName_l0 a hs a.data.toList.length 0 (by omega)) ?_
  unfold tailB nameL
  rw [Bool.eq_iff_iff]
  simp only [List.drop_zero, Bool.and_eq_true, decide_eq_true_eq]
  constructor
  · rintro ⟨⟨a1, a2⟩, a3, a4, a5, a6⟩; exact ⟨a3, a4, a1, a2, a5, a6⟩
  · rintro ⟨a3, a4, a1, a2, a5, a6⟩; exact ⟨⟨a1, a2⟩, a3, a4, a5, a6⟩

/-! ### Split -/
def baP (x : List (List UInt8) × Int) : List ByteArray × Int := (x.1.map ba, x.2)
theorem cut_f (s : ByteArray) (hs : s.size ≤ 9223372036854775806) :
    (47 ∉ s.data.toList ∧ strings_Cut.f s ⟨#[47]⟩ = some (s, ⟨#[]⟩, false)) ∨
    ∃ a b, s.data.toList = a ++ 47 :: b ∧ 47 ∉ a ∧ strings_Cut.f s ⟨#[47]⟩ = some (ba a, ba b, true) := by
  have hidx : stringslite_Index.f s ⟨#[47]⟩ = some (Lib.indexByte s.data.toList 47) := by unfold stringslite_Index.f; rw [dif_pos (by rfl)]; rfl
  have hz := size_len s
  by_cases h : 0 ≤ Lib.indexByte s.data.toList 47
  · right
    obtain ⟨o, ho⟩ : ∃ o : Nat, Lib.indexByte s.data.toList 47 = o := ⟨_, (Int.toNat_of_nonneg h).symm⟩
    obtain ⟨h1, h2⟩ := Lib.indexByte_some ho
    obtain ⟨hlt, hget⟩ := List.getElem?_eq_some_iff.1 h1
    refine ⟨s.data.toList.take o, s.data.toList.drop (o + 1), ?_, ?_, ?_⟩
    · rw [← hget, ← List.drop_eq_getElem_cons hlt, List.take_append_drop]
    · intro hm
      obtain ⟨j, hj, hje⟩ := List.getElem_of_mem hm
      rw [List.length_take] at hj
      exact h2 j (by omega) (by rw [List.getElem_take] at hje; rw [← hje]; exact List.getElem?_eq_getElem (by omega))
    · unfold strings_Cut.f stringslite_Cut.f
      rw [hidx, ho]
      have s1 : ((⟨#[47]⟩ : ByteArray).size : Int) = 1 := rfl
      simp only [Option.bind_some, s1]
      rw [if_pos (by omega), if_pos (by omega), if_pos (by omega), w64 (by omega) (by omega), if_pos (by omega), if_pos (by omega)]
      simp only [Option.bind_some, Option.some.injEq, Prod.mk.injEq, and_true]
      constructor
      · rw [Lib.extract_eq]; simp [ba]
      · rw [Lib.extract_eq]
        have : ((o : Int) + 1).toNat = o + 1 := by omega
        rw [this, hz]
        unfold ba
        rw [List.take_of_length_le (by simp)]
  · left
    refine ⟨fun hm => h ((index_mem _ _).2 hm), ?_⟩
    unfold strings_Cut.f stringslite_Cut.f
    rw [hidx]
    simp only [Option.bind_some]
    rw [if_neg (by omega)]
    rfl
theorem split_l0 : ∀ (m : Nat) (rest : ByteArray) (acc : List ByteArray), rest.data.toList.length ≤ m → acc.length + rest.data.toList.length ≤ 1000 →
    Ev (fun k => path_Split.l0 k rest acc) (if (splitL rest.data.toList).all nameL then (acc ++ (splitL rest.data.toList).map ba, 0) else ([], 10))
  | m, rest, acc, hm, hb => by
    refine Ev.step (fun k => by rw [path_Split.l0]) ?_
    have hz := size_len rest
    rcases cut_f rest (by omega) with ⟨hno, hc⟩ | ⟨a, b, hab, hno, hc⟩
    · refine Ev.bindc hc (Ev.bindc (name_f _) ?_)
      simp only
      rw [splitL_none _ hno]
      by_cases hn : nameL rest.data.toList = true
      · refine Ev.ifp hn (Ev.ifp (by omega) (Ev.bindc rfl (Ev.ifn (by simp) (Ev.const ?_))))
        simp [hn, data_ba]
      · refine Ev.ifn hn (Ev.const ?_)
        simp [hn]
    · refine Ev.bindc hc (Ev.bindc (name_f _) ?_)
      simp only [ba_data]
      rw [hab, splitL_at _ _ hno]
      have hl : rest.data.toList.length = a.length + b.length + 1 := by rw [hab]; simp; omega
      by_cases hn : nameL a = true
      · refine Ev.ifp hn (Ev.ifp (by omega) (Ev.bindc rfl (Ev.ifp trivial ?_)))
        cases m with
        | zero => omega
        | succ m =>
          have ih := split_l0 m (ba b) (acc ++ [ba a]) (by rw [ba_data]; omega) (by rw [ba_data]; simp; omega)
          rw [ba_data] at ih
          refine Ev.val ih ?_
          simp [hn]
      · refine Ev.ifn hn (Ev.const ?_)
        simp [hn]
theorem cutPrefix_f (s : ByteArray) : strings_CutPrefix.f s ⟨#[47]⟩ = some (match s.data.toList with | 47 :: r => (ba r, true) | _ => (s, false)) := by
  have hz := size_len s
  have s1 : ((⟨#[47]⟩ : ByteArray).size : Int) = 1 := rfl
  have s2 : (⟨#[47]⟩ : ByteArray).toList = [47] := by rw [ByteArray.toList_eq]
  unfold strings_CutPrefix.f stringslite_CutPrefix.f stringslite_HasPrefix.f
  simp only [s1, s2]
  cases hd : s.data.toList with
  | nil =>
    have h0 : s.size = 0 := by rw [hz, hd]; rfl
    rw [if_neg (by omega)]; rfl
  | cons c r =>
    rw [hd] at hz
    simp only [List.length_cons] at hz
    rw [if_pos (by omega), if_pos (by omega), if_pos (by omega)]
    have e1 : (s.extract 0 (1 : Int).toNat).toList = [c] := by rw [Lib.extract_toList, hd]; rfl
    rw [e1]
    by_cases hc : c = 47
    · subst hc
      simp only [Option.bind_some, beq_self_eq_true, if_true]
      rw [if_pos (by omega), if_pos (by omega)]
      simp only [Option.bind_some, Option.some.injEq, Prod.mk.injEq, and_true]
      rw [Lib.extract_eq, hd]
      simp [ba, hz]
    · have hb : ([c] == ([47] : List UInt8)) = false := by simpa using hc
      rw [hb]
      simp only [Option.bind_some]
      rw [if_neg (by simp)]
      split
      · rename_i heq; injection heq with h1 _; exact absurd h1 hc
      · rfl
theorem split_f (p : ByteArray) : Ev (fun k => path_Split.f k p) (baP (pathSpec p.data.toList)) := by
  have hz := size_len p
  unfold path_Split.f pathSpec
  by_cases h256 : (p.size : Int) > 256
  · refine Ev.ifp h256 (Ev.const ?_)
    rw [if_pos (by omega)]; rfl
  · refine Ev.ifn h256 (Ev.bindc (cutPrefix_f p) ?_)
    rw [if_neg (by omega)]
    cases hd : p.data.toList with
    | nil => exact Ev.ifn (by simp) (Ev.const rfl)
    | cons c r =>
      by_cases hc : c = 47
      · subst hc
        refine Ev.ifp rfl ?_
        simp only
        by_cases hr : r = []
        · subst hr
          refine Ev.ifp (by rw [ba_toList]) (Ev.const rfl)
        · refine Ev.ifn (by rw [ba_toList]; exact hr) ?_
          rw [hd] at hz
          simp only [List.length_cons] at hz
          refine Ev.val (split_l0 _ (ba r) [] (Nat.le_refl _) (by rw [ba_data]; simp; omega)) ?_
          rw [ba_data, if_pos trivial, if_neg hr]
          split <;> simp [baP]
      · have : (match c :: r with | 47 :: r => (ba r, true) | _ => (p, false)) = (p, false) := by
          split
          · rename_i heq; injection heq with h1 _; exact absurd h1 hc
          · rfl
        rw [this]
        refine Ev.ifn (by simp) (Ev.const ?_)
        simp only
        rw [if_neg hc]; rfl
/-! ### the reference's Split -/
theorem ref_l0 (p : ByteArray) (hp : p.data.toList.length ≤ 256) : ∀ (d i : Nat) (acc : List ByteArray) (nm : List UInt8), p.data.toList.length + 1 = i + d → acc.length + nm.length ≤ i →
    Ev (fun k => cambiumref11_Split.l0 k p acc (ba nm) (i : Int)) (if i = p.data.toList.length + 1 then (acc, 0) else if (pre nm (splitL (p.data.toList.drop i))).all nameL then (acc ++ (pre nm (splitL (p.data.toList.drop i))).map ba, 0) else ([], 10))
  | 0, i, acc, nm, hi, ha => by
    have hz := size_len p
    refine Ev.step (fun k => by rw [cambiumref11_Split.l0]) (Ev.ifn (by omega) (Ev.const ?_))
    rw [if_pos (by omega)]
  | d + 1, i, acc, nm, hi, ha => by
    have hz := size_len p
    refine Ev.step (fun k => by rw [cambiumref11_Split.l0]) (Ev.ifp (by omega) ?_)
    rw [if_neg (by omega)]
    have hadd : wrap64 ((i : Int) + 1) = ((i + 1 : Nat) : Int) := by rw [w64 (by omega) (by omega)]; omega
    have fin : ∀ (g : List (List UInt8)), pre nm (splitL (p.data.toList.drop i)) = nm :: g → Ev (fun k => cambiumref11_Split.l0 k p (acc ++ [ba nm]) (ba []) ((i + 1 : Nat) : Int)) (if g.all nameL then (acc ++ [ba nm] ++ g.map ba, 0) else ([], 10)) →
        Ev (fun k => cambiumref11_Split.j2 k p acc (ba nm) (i : Int) false) (if (pre nm (splitL (p.data.toList.drop i))).all nameL then (acc ++ (pre nm (splitL (p.data.toList.drop i))).map ba, 0) else ([], 10)) := by
      intro g hg hE
      refine Ev.step (fun k => by rw [cambiumref11_Split.j2]) (Ev.ifn (by simp) (Ev.bind (refName (ba nm) (by rw [ba_size]; omega)) ?_))
      rw [ba_data, hg]
      by_cases hn : nameL nm = true
      · refine Ev.ifp hn (Ev.ifp (by omega) ?_)
        rw [hadd]
        refine Ev.val hE ?_
        simp [hn]
      · refine Ev.ifn hn (Ev.const ?_)
        simp [hn]
    by_cases hlt : i < p.data.toList.length
    · refine Ev.ifp (by omega) (Ev.ifp (by omega) ?_)
      rw [bt_get p i hlt]
      have e47 := byte_eq (p.data.toList[i]) 47 (by decide)
      by_cases hc : p.data.toList[i] = 47
      · have hb : (((p.data.toList[i].toNat : Int)) != 47) = false := by simpa using e47.2 hc
        rw [hb]
        have ih := ref_l0 p hp d (i + 1) (acc ++ [ba nm]) [] (by omega) (by simp; omega)
        rw [if_neg (by omega), pre_nil (splitL_ne _)] at ih
        refine fin _ ?_ ih
        rw [List.drop_eq_getElem_cons hlt, hc, splitL_cons_eq]; simp [pre]
      · have hb : (((p.data.toList[i].toNat : Int)) != 47) = true := by simpa using fun e => hc (e47.1 e)
        rw [hb]
        have ex : p.extract i (i + 1) = ba [p.data.toList[i]] := by
          rw [Lib.extract_eq, List.drop_eq_getElem_cons hlt]; simp [ba]
        have ih := ref_l0 p hp d (i + 1) acc (nm ++ [p.data.toList[i]]) (by omega) (by simp; omega)
        rw [if_neg (by omega)] at ih
        refine Ev.step (fun k => by rw [cambiumref11_Split.j2]) (Ev.ifp rfl ?_)
        rw [hadd]
        have t1 : ((i : Nat) : Int).toNat = i := by omega
        have t2 : ((i + 1 : Nat) : Int).toNat = i + 1 := by omega
        rw [t1, t2, ex, ba_app, ba_size, ba_size]
        refine Ev.ifp (by omega) (Ev.ifp (by omega) (Ev.ifp (by omega) (Ev.ifp (by simp; omega) ?_)))
        refine Ev.val ih ?_
        rw [← pre_pre, ← splitL_cons_ne hc, ← List.drop_eq_getElem_cons hlt]
    · refine Ev.ifn (by omega) ?_
      have ih := ref_l0 p hp d (i + 1) (acc ++ [ba nm]) [] (by omega) (by simp; omega)
      rw [if_pos (by omega)] at ih
      refine fin [] ?_ (Ev.val ih (by simp))
      rw [List.drop_of_length_le (by omega)]; simp [splitL, pre]
theorem refSplit_f (p : ByteArray) : Ev (fun k => cambiumref11_Split.f k p) (baP (pathSpec p.data.toList)) := by
  have hz := size_len p
  unfold cambiumref11_Split.f pathSpec
  by_cases h256 : (p.size : Int) > 256
  · refine Ev.ifp h256 (Ev.const ?_)
    rw [if_pos (by omega)]; rfl
  · refine Ev.ifn h256 ?_
    rw [if_neg (by omega)]
    have hj : ∀ b, (b = true → (match p.data.toList with | [] => ([], 10) | c :: rest => if c = 47 then (if rest = [] then ([], 0) else if (splitL rest).all nameL then (splitL rest, 0) else ([], 10)) else (([] : List (List UInt8)), (10 : Int))) = ([], 10)) →
        (b = false → ∃ r, p.data.toList = 47 :: r) →
        Ev (fun k => cambiumref11_Split.j0 k p b) (baP (match p.data.toList with | [] => ([], 10) | c :: rest => if c = 47 then (if rest = [] then ([], 0) else if (splitL rest).all nameL then (splitL rest, 0) else ([], 10)) else ([], 10))) := by
      intro b hb1 hb2
      refine Ev.step (fun k => by rw [cambiumref11_Split.j0]) ?_
      cases b with
      | true => refine Ev.ifp rfl (Ev.const ?_); rw [hb1 rfl]; rfl
      | false =>
        obtain ⟨r, hr⟩ := hb2 rfl
        refine Ev.ifn (by simp) ?_
        rw [ByteArray.toList_eq, hr]
        simp only
        rw [if_pos trivial]
        by_cases hr0 : r = []
        · subst hr0; exact Ev.ifp rfl (Ev.const rfl)
        · refine Ev.ifn (by simpa using hr0) ?_
          rw [if_neg hr0]
          have hl : p.data.toList.length = r.length + 1 := by rw [hr]; rfl
          have h := ref_l0 p (by omega) p.data.toList.length 1 [] [] (by omega) (by simp)
          have hrl : 0 < r.length := List.length_pos_iff.2 hr0
          rw [if_neg (by omega), pre_nil (splitL_ne _), hr] at h
          refine Ev.val h ?_
          simp only [List.drop_succ_cons, List.drop_zero]
          split <;> simp [baP]
    cases hd : p.data.toList with
    | nil =>
      have h := hj true (fun _ => by rw [hd]) (fun h => by simp at h)
      rw [hd] at h
      exact Ev.ifp (by rw [toList_nil, hd]) h
    | cons c r =>
      have hl : p.data.toList.length = r.length + 1 := by rw [hd]; rfl
      refine Ev.ifn (by rw [toList_nil, hd]; simp) (Ev.ifp (by omega) ?_)
      have hb := bt_get p 0 (by omega)
      have hg : p.data.toList[0] = c := by simp only [hd]; rfl
      rw [hg] at hb
      have e47 := byte_eq c 47 (by decide)
      rw [show bt p 0 = ((c.toNat : Nat) : Int) from hb]
      rw [← hd]
      refine hj _ ?_ ?_
      · intro hh
        have hc : c ≠ 47 := fun e => by rw [e47.2 e] at hh; simp at hh
        rw [hd]; simp only; rw [if_neg hc]
      · intro hh
        have hc : c = 47 := e47.1 (by simpa using hh)
        exact ⟨r, by rw [hd, hc]⟩
/-! ### Join -/
theorem rdOf_get (l : List ByteArray) (i : Nat) (h : i < l.length) : rdOf ByteArray.empty l (i : Int) = l[i] := by
  unfold rdOf
  rw [Int.toNat_natCast, List.getD_eq_getElem?_getD, List.getElem?_eq_getElem h, Option.getD_some]
def dataL (l : List ByteArray) : List (List UInt8) := l.map (fun s => s.data.toList)
theorem dataL_len (l : List ByteArray) : (dataL l).length = l.length := by simp [dataL]
theorem all_dataL (l : List ByteArray) : (dataL l).all nameL = l.all (fun s => nameL s.data.toList) := by simp [dataL, List.all_map, Function.comp_def]
theorem idx_l0 (l : List ByteArray) (hl : l.length ≤ 9223372036854775806) : ∀ d i : Nat, l.length = i + d →
    ∃ r, Ev (fun k => slices_IndexFunc_string_string_fn25.l0 k l (l.length : Int) (i : Int)) r ∧ (0 ≤ r ↔ (l.drop i).all (fun s => nameL s.data.toList) = false)
  | 0, i, hi => by
    refine ⟨-1, Ev.step (fun k => by rw [slices_IndexFunc_string_string_fn25.l0]) (Ev.ifn (by omega) (Ev.const rfl)), ?_⟩
    rw [List.drop_of_length_le (by omega)]; simp
  | d + 1, i, hi => by
    have hlt : i < l.length := by omega
    have hcl : path_Join_1.f l[i] = some (!nameL l[i].data.toList) := by unfold path_Join_1.f; rw [name_f]; rfl
    obtain ⟨r, hr, hr2⟩ := idx_l0 l hl d (i + 1) (by omega)
    rw [List.drop_eq_getElem_cons hlt]
    by_cases hn : nameL l[i].data.toList = true
    · refine ⟨r, Ev.step (fun k => by rw [slices_IndexFunc_string_string_fn25.l0]) (Ev.ifp (by omega) (Ev.ifp (by omega) (Ev.ifp (by omega) ?_))), ?_⟩
      · rw [rdOf_get l i hlt]
        refine Ev.bindc hcl (Ev.ifn (by simp [hn]) ?_)
        rw [w64 (by omega) (by omega)]
        exact hr
      · rw [hr2, List.all_cons, hn, Bool.true_and]
    · refine ⟨(i : Int), Ev.step (fun k => by rw [slices_IndexFunc_string_string_fn25.l0]) (Ev.ifp (by omega) (Ev.ifp (by omega) (Ev.ifp (by omega) ?_))), ?_⟩
      · rw [rdOf_get l i hlt]
        exact Ev.bindc hcl (Ev.ifp (by simp [hn]) (Ev.const rfl))
      · rw [List.all_cons, eq_false_of_ne_true hn, Bool.false_and]; exact ⟨fun _ => rfl, fun _ => by omega⟩
theorem contains_f (l : List ByteArray) (hl : l.length ≤ 9223372036854775806) : Ev (fun k => slices_ContainsFunc_string_string_fn25.f k l) (!(dataL l).all nameL) := by
  obtain ⟨r, hr, hr2⟩ := idx_l0 l hl l.length 0 (by omega)
  unfold slices_ContainsFunc_string_string_fn25.f slices_IndexFunc_string_string_fn25.f
  refine Ev.bind hr (Ev.const ?_)
  rw [all_dataL]
  rw [List.drop_zero] at hr2
  congr 1
  cases h : l.all (fun s => nameL s.data.toList) with
  | true => rw [h] at hr2; simp at hr2 ⊢; omega
  | false => rw [h] at hr2; simp; exact hr2.2 rfl
theorem join_bytes (l : List ByteArray) : 47 :: joinBytes l ⟨#[47]⟩ = if l = [] then [47] else joinL (dataL l) := by
  unfold joinBytes
  cases l with
  | nil => rfl
  | cons x r =>
    rw [if_neg (by simp), List.map_cons, Lib.join_cons]
    have : Lib.joinTail [47] (List.map (fun x : ByteArray => x.data.toList) r) = joinL (dataL r) := by
      unfold Lib.joinTail joinL dataL
      rw [List.flatMap_def, List.map_map, List.map_map]
      congr 1
    rw [this]
    simp [joinL, dataL]
def baS (x : List UInt8 × Int) : ByteArray × Int := (ba x.1, x.2)
theorem join_long (ns : List (List UInt8)) (h : ns.all nameL = true) : 2 * ns.length ≤ (joinL ns).length ∧ (joinL ns).length ≤ 25 * ns.length := by
  induction ns with
  | nil => simp [joinL]
  | cons n ns ih =>
    rw [List.all_cons, Bool.and_eq_true] at h
    have ih := ih h.2
    have hn := nameL_iff.1 h.1
    have hp := List.length_pos_iff.2 hn.1
    simp only [joinL, List.flatMap_cons, List.length_append, List.length_cons] at *
    omega
theorem join_f (l : List ByteArray) (hl : l.length ≤ 9223372036854775806) : Ev (fun k => path_Join.f k l) (baS (joinSpec (dataL l))) := by
  unfold path_Join.f joinSpec
  refine Ev.bind (contains_f l hl) ?_
  by_cases ha : (dataL l).all nameL = true
  · refine Ev.ifn (by simp [ha]) ?_
    rw [if_pos ha]
    have hj := join_long _ ha
    rw [dataL_len] at hj
    by_cases h256 : (l.length : Int) > 256
    · refine Ev.ifp h256 (Ev.const ?_)
      have hne : dataL l ≠ [] := by intro e; have := congrArg List.length e; rw [dataL_len, List.length_nil] at this; omega
      rw [if_neg hne, if_pos (show 256 < (joinL (dataL l)).length by omega)]; rfl
    · refine Ev.ifn h256 ?_
      have hb := join_bytes l
      have hlen : (joinBytes l ⟨#[47]⟩).length + 1 = if l = [] then 1 else (joinL (dataL l)).length := by
        have := congrArg List.length hb
        rw [List.length_cons] at this
        rw [this]; split <;> rfl
      have hle : (joinBytes l ⟨#[47]⟩).length ≤ 25 * l.length := by split at hlen <;> omega
      have hf : strings_Join.f l ⟨#[47]⟩ = some (ba (joinBytes l ⟨#[47]⟩)) := by
        unfold strings_Join.f
        rw [if_pos ⟨by omega, by omega⟩]; rfl
      have hs : (⟨#[47]⟩ : ByteArray) ++ ba (joinBytes l ⟨#[47]⟩) = ba (if l = [] then [47] else joinL (dataL l)) := by
        rw [← hb]; exact ba_app [47] _
      refine Ev.bindc hf (Ev.ifp (by rw [ba_size]; omega) ?_)
      rw [hs, ba_size]
      by_cases hn : l = []
      · subst hn
        exact Ev.ifn (by simp) (Ev.const rfl)
      · have hne : dataL l ≠ [] := by simpa [dataL] using hn
        rw [if_neg hn, if_neg hne]
        by_cases h2 : 256 < (joinL (dataL l)).length
        · refine Ev.ifp (by omega) (Ev.const ?_); rw [if_pos h2]; rfl
        · refine Ev.ifn (by omega) (Ev.const ?_); rw [if_neg h2]; rfl
  · refine Ev.ifp (by simp [ha]) (Ev.const ?_)
    rw [if_neg ha]; rfl
theorem refJoin_l1 (l : List ByteArray) (ha : (dataL l).all nameL = true) (hl : l.length ≤ 9223372036854775806) : ∀ d i : Nat, l.length = i + d → ∀ s : List UInt8, s.length ≤ 256 →
    Ev (fun k => cambiumref11_Join.l1 k (ba s) l (l.length : Int) (i : Int)) (if 256 < (s ++ joinL (dataL (l.drop i))).length then (⟨#[]⟩, 2) else (ba (s ++ joinL (dataL (l.drop i))), 0))
  | 0, i, hi, s, hs => by
    refine Ev.step (fun k => by rw [cambiumref11_Join.l1]) (Ev.ifn (by omega) (Ev.const ?_))
    rw [List.drop_of_length_le (by omega)]
    simp [dataL, joinL]; omega
  | d + 1, i, hi, s, hs => by
    have hlt : i < l.length := by omega
    have hn : nameL l[i].data.toList = true := by
      rw [all_dataL, List.all_eq_true] at ha
      exact ha _ (List.getElem_mem hlt)
    have hnl := (nameL_iff.1 hn).2.1
    refine Ev.step (fun k => by rw [cambiumref11_Join.l1]) (Ev.ifp (by omega) (Ev.ifp (by omega) (Ev.ifp (by omega) ?_)))
    rw [rdOf_get l i hlt, List.drop_eq_getElem_cons hlt]
    have e1 : l[i] = ba l[i].data.toList := (data_ba _).symm
    have e2 : (⟨#[47]⟩ : ByteArray) ++ l[i] = ba (47 :: l[i].data.toList) := by
      conv => lhs; rw [e1]
      exact ba_app [47] _
    have hz := size_len l[i]
    rw [e2, ba_app, ba_size, ba_size, ba_size]
    refine Ev.ifp (by omega) (Ev.ifp (by simp; omega) ?_)
    have e3 : s ++ joinL (dataL (l[i] :: l.drop (i + 1))) = (s ++ 47 :: l[i].data.toList) ++ joinL (dataL (l.drop (i + 1))) := by
      generalize l[i] = y at *
      generalize l.drop (i + 1) = z at *
      simp [dataL, joinL]
    rw [e3]
    by_cases h2 : 256 < (s ++ 47 :: l[i].data.toList).length
    · refine Ev.ifp (by omega) (Ev.const ?_)
      rw [if_pos (by rw [List.length_append]; omega)]
    · refine Ev.ifn (by omega) ?_
      rw [w64 (by omega) (by omega)]
      exact refJoin_l1 l ha hl d (i + 1) (by omega) _ (by omega)
theorem refJoin_l0 (l : List ByteArray) (hs : ∀ x ∈ l, x.size ≤ 9223372036854775807) (hl : l.length ≤ 9223372036854775806) : ∀ d i : Nat, l.length = i + d → (dataL (l.take i)).all nameL = true →
    Ev (fun k => cambiumref11_Join.l0 k l l (l.length : Int) (i : Int)) (baS (joinSpec (dataL l)))
  | 0, i, hi, ht => by
    rw [List.take_of_length_le (by omega)] at ht
    refine Ev.step (fun k => by rw [cambiumref11_Join.l0]) (Ev.ifn (by omega) ?_)
    unfold joinSpec
    rw [if_pos ht]
    by_cases hn : l = []
    · subst hn; exact Ev.ifp rfl (Ev.const rfl)
    · have := List.length_pos_iff.2 hn
      refine Ev.ifn (by omega) ?_
      rw [if_neg (by simpa [dataL] using hn)]
      refine Ev.val (refJoin_l1 l ht hl l.length 0 (by omega) [] (by simp)) ?_
      simp only [List.drop_zero, List.nil_append]
      split <;> rfl
  | d + 1, i, hi, ht => by
    have hlt : i < l.length := by omega
    refine Ev.step (fun k => by rw [cambiumref11_Join.l0]) (Ev.ifp (by omega) (Ev.ifp (by omega) (Ev.ifp (by omega) ?_)))
    rw [rdOf_get l i hlt]
    have hz := hs _ (List.getElem_mem hlt)
    have hrn : Ev (fun k => cambiumref11_Name.f k l[i]) (nameL l[i].data.toList) := refName _ hz
    refine Ev.bind hrn ?_
    by_cases hn : nameL l[i].data.toList = true
    · refine Ev.ifp hn ?_
      rw [w64 (by omega) (by omega)]
      refine refJoin_l0 l hs hl d (i + 1) (by omega) ?_
      rw [all_dataL] at ht ⊢
      rw [List.take_succ_eq_append_getElem hlt, List.all_append, ht]
      simp [hn]
    · refine Ev.ifn hn (Ev.const ?_)
      unfold joinSpec
      rw [if_neg (by
        rw [all_dataL, List.all_eq_true]
        intro h; exact hn (h _ (List.getElem_mem hlt)))]
      rfl
theorem refJoin_f (l : List ByteArray) (hs : ∀ x ∈ l, x.size ≤ 9223372036854775807) (hl : l.length ≤ 9223372036854775806) : Ev (fun k => cambiumref11_Join.f k l) (baS (joinSpec (dataL l))) := by
  unfold cambiumref11_Join.f
  exact refJoin_l0 l hs hl l.length 0 (by omega) (by simp [dataL])
/-! ### Under, Same -/
def underB (a b : List ByteArray) : Bool := decide (a.length ≤ b.length ∧ a = b.take a.length)
theorem toList_inj (a b : ByteArray) : a.toList = b.toList ↔ a = b := by
  rw [ByteArray.toList_eq, ByteArray.toList_eq]
  exact ⟨fun h => by rw [← data_ba a, h, data_ba], fun h => by rw [h]⟩
theorem equal_l0 (a b : List ByteArray) (h : a.length = b.length) (hl : a.length ≤ 9223372036854775806) : ∀ d i : Nat, a.length = i + d →
    Ev (fun k => slices_Equal_string_string.l0 k a b (a.length : Int) (i : Int)) (decide (a.drop i = b.drop i))
  | 0, i, hi => by
    refine Ev.step (fun k => by rw [slices_Equal_string_string.l0]) (Ev.ifn (by omega) (Ev.const ?_))
    rw [List.drop_of_length_le (by omega), List.drop_of_length_le (by omega)]; rfl
  | d + 1, i, hi => by
    have h1 : i < a.length := by omega
    have h2 : i < b.length := by omega
    refine Ev.step (fun k => by rw [slices_Equal_string_string.l0]) (Ev.ifp (by omega) (Ev.ifp (by omega) (Ev.ifp (by omega) (Ev.ifp (by omega) ?_))))
    rw [rdOf_get a i h1, rdOf_get b i h2, List.drop_eq_getElem_cons h1, List.drop_eq_getElem_cons h2]
    by_cases hc : a[i] = b[i]
    · refine Ev.ifp ((toList_inj _ _).2 hc) ?_
      rw [w64 (by omega) (by omega)]
      refine Ev.val (equal_l0 a b h hl d (i + 1) (by omega)) ?_
      rw [hc]
      generalize b[i] = y
      generalize a.drop (i + 1) = p
      generalize b.drop (i + 1) = q
      simp
    · refine Ev.ifn (fun e => hc ((toList_inj _ _).1 e)) (Ev.const ?_)
      rw [decide_eq_false]
      intro e
      injection e with e _
      exact hc e
theorem equal_f (a b : List ByteArray) (hl : a.length ≤ 9223372036854775806) : Ev (fun k => slices_Equal_string_string.f k a b) (decide (a = b)) := by
  unfold slices_Equal_string_string.f
  by_cases h : a.length = b.length
  · refine Ev.ifp (by omega) ?_
    exact Ev.val (equal_l0 a b h hl a.length 0 (by omega)) (by simp)
  · refine Ev.ifn (by omega) (Ev.const ?_)
    rw [decide_eq_false (fun e => h (by rw [e]))]
theorem under_f (a b : List ByteArray) (hl : a.length ≤ 9223372036854775806) : Ev (fun k => path_Under.f k a b) (underB a b) := by
  unfold path_Under.f underB
  by_cases h : a.length ≤ b.length
  · refine Ev.ifp h (Ev.val (equal_f a _ hl) ?_)
    simp [h]
  · refine Ev.ifn h (Ev.const ?_)
    simp [h]
theorem refUnder_l0 (a b : List ByteArray) (hl : a.length ≤ 9223372036854775806) (hb : b.length ≤ 9223372036854775807) : ∀ d i : Nat, a.length = i + d → a.take i = b.take i → i ≤ b.length →
    Ev (fun k => cambiumref11_Under.l0 k b a (a.length : Int) (i : Int)) (underB a b)
  | 0, i, hi, ht, hib => by
    refine Ev.step (fun k => by rw [cambiumref11_Under.l0]) (Ev.ifn (by omega) (Ev.const ?_))
    have : i = a.length := by omega
    subst this
    rw [List.take_length] at ht
    unfold underB
    rw [decide_eq_true ⟨hib, ht⟩]
  | d + 1, i, hi, ht, hib => by
    have h1 : i < a.length := by omega
    refine Ev.step (fun k => by rw [cambiumref11_Under.l0]) (Ev.ifp (by omega) (Ev.ifp (by omega) (Ev.ifp (by omega) ?_)))
    by_cases h2 : i < b.length
    · refine Ev.ifn (by omega) (Ev.ifp (by omega) ?_)
      rw [rdOf_get a i h1, rdOf_get b i h2]
      by_cases hc : b[i] = a[i]
      · refine Ev.ifp ((toList_inj _ _).2 hc) ?_
        rw [w64 (by omega) (by omega)]
        refine refUnder_l0 a b hl hb d (i + 1) (by omega) ?_ (by omega)
        rw [List.take_succ_eq_append_getElem h1, List.take_succ_eq_append_getElem h2, ht, hc]
      · refine Ev.ifn (fun e => hc ((toList_inj _ _).1 e)) (Ev.const ?_)
        unfold underB
        rw [decide_eq_false]
        rintro ⟨_, e⟩
        have e2 := congrArg (fun l => l[i]?) e
        simp only [List.getElem?_take, if_pos h1, List.getElem?_eq_getElem h1, List.getElem?_eq_getElem h2, Option.some.injEq] at e2
        exact hc e2.symm
    · refine Ev.ifp (by omega) (Ev.const ?_)
      unfold underB
      rw [decide_eq_false]
      rintro ⟨h3, _⟩; omega
theorem refUnder_f (a b : List ByteArray) (hl : a.length ≤ 9223372036854775806) (hb : b.length ≤ 9223372036854775807) : Ev (fun k => cambiumref11_Under.f k a b) (underB a b) := by
  unfold cambiumref11_Under.f
  exact refUnder_l0 a b hl hb a.length 0 (by omega) (by simp) (by omega)
theorem same_f (a b : List ByteArray) (hl : a.length ≤ 9223372036854775806) (hb : b.length ≤ 9223372036854775807) : Ev (fun k => cambiumref11_Same.f k a b) (decide (a = b)) := by
  unfold cambiumref11_Same.f
  by_cases h : a.length = b.length
  · refine Ev.ifp (by omega) (Ev.bind (refUnder_f a b hl hb) (Ev.const ?_))
    unfold underB
    rw [h, List.take_length]
    simp
  · refine Ev.ifn (by omega) (Ev.const ?_)
    rw [decide_eq_false (fun e => h (by rw [e]))]
/-! ### Last -/
def baL (x : List (List UInt8) × List UInt8 × Int) : List ByteArray × ByteArray × Int := (x.1.map ba, ba x.2.1, x.2.2)
theorem lastOf_spec (p : List UInt8) : lastOf (baP (pathSpec p)) = baL (lastSpec p) := by
  unfold lastOf lastSpec baP
  simp only
  by_cases h : (pathSpec p).2 = 0
  · rw [if_pos h, if_pos h]
    by_cases hn : (pathSpec p).1 = []
    · rw [if_pos hn, if_pos (by rw [hn]; rfl)]; rfl
    · have hn2 : (pathSpec p).1.map ba ≠ [] := by simpa using hn
      rw [if_neg hn, if_neg hn2]
      have hp := List.length_pos_iff.2 hn
      simp only [baL, List.length_map, List.map_take, List.getD_eq_getElem?_getD, List.getElem?_map]
      rw [List.getElem?_eq_getElem (by omega)]
      rfl
  · rw [if_neg h, if_neg h]; rfl
theorem last_f (p : ByteArray) : Ev (fun k => path_Last.f k p) (baL (lastSpec p.data.toList)) := by
  unfold path_Last.f
  exact Ev.bind (split_f p) (Ev.const (congrArg some (lastOf_spec _)))
theorem refLast_f (p : ByteArray) : Ev (fun k => cambiumref11_Last.f k p) (baL (lastSpec p.data.toList)) := by
  unfold cambiumref11_Last.f
  exact Ev.bind (refSplit_f p) (Ev.const (congrArg some (lastOf_spec _)))
end Go.Proofs.Ytjemaajliodmhaa.Z
end

section
/- 'lives' of the statements on paths is true. -/
namespace Go.Proofs.Ytjemaajliodmhaa.Z
open Go.RowKit Go.Proofs.YtjemaajliodmhaaW.PrintWords Go.Proofs.YtjemaajliodmhaaW.PrintLast Go.Proofs.Ytjemaajliodmhaa.PM
theorem lives_f : Ev (fun k => cambiumlaw11_lives.f k) true := by
  unfold cambiumlaw11_lives.f
  have s1 : Ev (fun k => path_Split.f k ⟨#[47, 97, 47, 98]⟩) ([⟨#[97]⟩, ⟨#[98]⟩], 0) := Ev.val (split_f _) rfl
  have s2 : Ev (fun k => path_Split.f k ⟨#[47, 97, 47]⟩) ([], 10) := Ev.val (split_f _) rfl
  have s3 : Ev (fun k => path_Split.f k ⟨#[47]⟩) ([], 0) := Ev.val (split_f _) rfl
  have s4 : Ev (fun k => path_Join.f k [⟨#[97]⟩, ⟨#[98]⟩]) (⟨#[47, 97, 47, 98]⟩, 0) := Ev.val (join_f _ (by decide)) rfl
  have s5 : Ev (fun k => path_Last.f k ⟨#[47, 97, 47, 98]⟩) ([⟨#[97]⟩], ⟨#[98]⟩, 0) := Ev.val (last_f _) rfl
  have s6 : path_Name.f ⟨#[97]⟩ = some true := name_f _
  have s7 : path_Name.f ⟨#[46, 46]⟩ = some false := name_f _
  refine Ev.bind s1 (Ev.bind s2 (Ev.bind s3 (Ev.bind s4 (Ev.bind s5 (Ev.bindc s6 (Ev.ifp rfl (Ev.bindc s7 (Ev.ifn (by decide) ?_))))))))
  refine Ev.ifp rfl (Ev.ifp (by decide) (Ev.ifp (by rw [ByteArray.toList_eq]; rfl) (Ev.ifp rfl (Ev.ifp rfl (Ev.ifp rfl (Ev.ifp rfl (Ev.ifp (by rw [ByteArray.toList_eq]) (Ev.ifp rfl (Ev.ifp rfl (Ev.ifp (by rw [ByteArray.toList_eq]) (Ev.ifp rfl ?_)))))))))))
  exact Ev.bind (Ev.val (under_f _ _ (by decide)) (by rfl : underB [⟨#[97]⟩] [⟨#[97]⟩, ⟨#[98]⟩] = true)) (Ev.const rfl)
theorem pathSpec_len (p : List UInt8) : (pathSpec p).1.length ≤ 257 := by
  rcases path_cases p with h1 | ⟨rfl, h1⟩ | ⟨rest, rfl, hr, hl, ha, h1⟩
  · rw [h1.2]; simp
  · rw [h1]; simp
  · rw [h1]
    have h2 := joinL_length (splitL rest)
    rw [joinL_splitL] at h2
    simp only at *
    omega
end Go.Proofs.Ytjemaajliodmhaa.Z
end

section
/- What a reading of an argument as data gives a contract: the values of a kind (Kd), well formed, and their bulk. -/
namespace Go.Proofs.Ytjemaajliodmhaa.Z
open Go.ChangeShapes Go.WideShapes Go.ChangeAt Go.RowKit Go.Deep Go.Proofs.YtjemaajliodmhaaW.PrintWords Go.Proofs.YtjemaajliodmhaaW.PrintLast
set_option linter.unusedVariables false
/-- Every reading of type t's cells is one of d, is G, and is of bulk B at least. -/
def Opens {α : Type} (P : Program) (t : TypeId) (d : Kd α) (G : α → Prop) (B : α → Nat) : Prop :=
  d.sz = P.cellsOf t ∧ ∀ {H : Type} {enc : TypeId × Value → H} {w : World} {base : Nat} {spare : Nat → Bool} {held : Bool} {fuel : Nat} {cs : List Value} {x : DataW H × List MemPlace},
    DataW.trod enc P w base spare held fuel t cs = some x → ∃ a, d.K w a cs ∧ G a ∧ B a ≤ Rows.uptoBulk x.1
theorem Opens.bool {P : Program} {t : TypeId} (ht : P.underlying t = some .bool) (hc : P.cellsOf t = 1) : Opens P t Kd.bool (fun _ => True) (fun _ => 1) := by
  refine ⟨hc.symm, fun h => ?_⟩
  obtain ⟨b, rfl, rfl⟩ := DataW.trod_bool ht h
  exact ⟨b, rfl, trivial, by simp [Rows.uptoBulk]⟩
theorem Opens.int {P : Program} {t : TypeId} {k : IntKind} (ht : P.underlying t = some (.int k)) (hc : P.cellsOf t = 1) : Opens P t (Kd.int k) (fun n => (Lit.int k n).wf = true) (fun _ => 1) := by
  refine ⟨hc.symm, fun h => ?_⟩
  obtain ⟨b, rfl, rfl, hw⟩ := DataW.trod_int ht h
  exact ⟨b, rfl, hw, by simp [Rows.uptoBulk]⟩
theorem Opens.string {P : Program} {t : TypeId} (ht : P.underlying t = some .string) (hc : P.cellsOf t = 1) : Opens P t Kd.string (fun s => s.size ≤ maxLen) (fun s => s.size + 1) := by
  refine ⟨hc.symm, fun h => ?_⟩
  obtain ⟨b, rfl, rfl, hw⟩ := DataW.trod_string ht h
  exact ⟨b, rfl, hw, by simp [Rows.uptoBulk]⟩
theorem bulk_len {H : Type} (l : List (DataW H)) {α : Type} {B : α → Nat} (xs : List α) (hl : xs.length = l.length) (h : ∀ (i : Nat) (a : α) (y : DataW H), xs[i]? = some a → l[i]? = some y → B a ≤ Rows.uptoBulk y) : (xs.map B).sum ≤ Rows.uptoBulkAll l := by
  induction l generalizing xs with
  | nil => have : xs = [] := List.eq_nil_of_length_eq_zero hl; subst this; simp [Rows.uptoBulkAll]
  | cons y l ih =>
    cases xs with
    | nil => simp at hl
    | cons a xs =>
      simp only [List.map_cons, List.sum_cons, Rows.uptoBulkAll]
      have h0 := h 0 a y rfl rfl
      have h1 := ih xs (by simpa using hl) (fun i a y ha hy => h (i + 1) a y (by simpa using ha) (by simpa using hy))
      omega
theorem list_of_each {α : Type} (p : Nat → α → Prop) : ∀ n : Nat, (∀ i, i < n → ∃ a, p i a) → ∃ l : List α, l.length = n ∧ ∀ i a, l[i]? = some a → p i a
  | 0, _ => ⟨[], rfl, fun i a h => by simp at h⟩
  | n + 1, h => by
    obtain ⟨l, hl, hp⟩ := list_of_each p n (fun i hi => h i (by omega))
    obtain ⟨a, ha⟩ := h n (by omega)
    refine ⟨l ++ [a], by simp [hl], fun i b hb => ?_⟩
    rcases Nat.lt_or_ge i l.length with hi | hi
    · rw [List.getElem?_append_left hi] at hb; exact hp i b hb
    · have hi2 : i = l.length := by
        have := (List.getElem?_eq_some_iff.1 hb).1
        simp at this; omega
      subst hi2
      have hb2 : a = b := by simpa using hb
      subst hb2
      rw [hl]; exact ha
/-- A slice, opened. -/
theorem Opens.row {α : Type} {P : Program} {t e : TypeId} {d : Kd α} {G : α → Prop} {B : α → Nat} (ht : P.underlying t = some (.slice e)) (hO : Opens P e d G B) (hpos : 0 < P.cellsOf e)
    {H : Type} {enc : TypeId × Value → H} {w : World} {base : Nat} {spare : Nat → Bool} {held : Bool} {fuel : Nat} {cs : List Value} {x : DataW H × List MemPlace} (h : DataW.trod enc P w base spare held fuel t cs = some x) :
    ∃ (A : Option Addr) (c : Nat) (l : List α), cs = [.slice A l.length c] ∧ l.length ≤ c ∧ c ≤ maxLen ∧ Kd.C d w A l.length l ∧ (∀ a ∈ l, G a) ∧ (l.map B).sum + 1 ≤ Rows.uptoBulk x.1 ∧ (x.1 = .nil ∧ l = [] ∨ ∃ el sp, x.1 = .slice el sp ∧ el.length = l.length) := by
  rcases DataW.trod_slice ht h with ⟨rfl, rfl⟩ | ⟨a, len, cap, elems, rest, n, _, rfl, rfl, hb, hl, hm, hlen, hel, _, _⟩
  · exact ⟨none, 0, [], rfl, Nat.le_refl _, Nat.zero_le _, Kd.C_nil _ _, by simp, by simp [Rows.uptoBulk], Or.inl ⟨rfl, rfl⟩⟩
  · have each : ∀ i, i < len → ∃ a' : α, ∃ cs' y, w.cells? base (a.add (i * P.cellsOf e)) (P.cellsOf e) = some cs' ∧ elems[i]? = some y ∧ d.K w a' cs' ∧ G a' ∧ B a' ≤ Rows.uptoBulk y.1 := by
      intro i hi
      have h1 := hel i hi
      obtain ⟨y, hy⟩ : ∃ y, elems[i]? = some y := ⟨elems[i]'(by omega), List.getElem?_eq_getElem (by omega)⟩
      rw [hy, Option.bind_eq_some_iff] at h1
      obtain ⟨cs', hcs, htr⟩ := h1
      obtain ⟨a', hK, hG, hB⟩ := hO.2 htr
      exact ⟨a', cs', y, hcs, hy, hK, hG, hB⟩
    obtain ⟨l, hll, hp⟩ := list_of_each _ len each
    subst hll
    refine ⟨some a, cap, l, rfl, hl, hm, ⟨rfl, by unfold maxLen at hm; omega, fun _ => ⟨a, rfl, fun j p hj => ?_⟩⟩, ?_, ?_, Or.inr ⟨_, _, rfl, by simpa using hlen⟩⟩
    · obtain ⟨cs', y, hcs, _, hK, _, _⟩ := hp j p hj
      obtain ⟨_, hln, hc⟩ := World.cells?_some hcs
      refine ⟨cs', by rw [hln, hO.1], hK, fun i u hu => ?_⟩
      have hi : i < P.cellsOf e := by rw [← hln]; exact (List.getElem?_eq_some_iff.1 hu).1
      have := hc i hi
      rw [hu] at this
      rw [hO.1, ← this]
      congr 1
      have hs : a.spot = none := by
        have h0 := hc 0 hpos
        rw [List.getElem?_eq_getElem (by omega)] at h0
        cases hsp : a.spot with
        | none => rfl
        | some s =>
          rcases Nat.eq_zero_or_pos (j * P.cellsOf e) with hz | hz
          · rw [hz] at h0
            have : w.cell? a = some _ := h0
            unfold World.cell? at this
            rw [hsp] at this
            split at this <;> simp at this
          · have hl0 : 0 < l.length := by have := (List.getElem?_eq_some_iff.1 hj).1; omega
            obtain ⟨p0, hp0⟩ : ∃ p0, l[0]? = some p0 := ⟨l[0], List.getElem?_eq_getElem hl0⟩
            obtain ⟨cs0, y0, hcs0, _, _, _, _⟩ := hp 0 p0 hp0
            obtain ⟨_, hln0, hc0⟩ := World.cells?_some hcs0
            have h00 := hc0 0 hpos
            rw [List.getElem?_eq_getElem (by omega), Nat.zero_mul] at h00
            have : w.cell? a = some _ := h00
            unfold World.cell? at this
            rw [hsp] at this
            split at this <;> simp at this
      obtain ⟨b, o, s⟩ := a
      simp only at hs
      subst hs
      rw [add_at, add_at, add_at, Nat.add_assoc]
    · intro b hb
      obtain ⟨i, hi⟩ := List.getElem?_of_mem hb
      exact (hp i b hi).choose_spec.choose_spec.2.2.2.1
    · simp only [Rows.uptoBulk]
      have := bulk_len (elems.map (·.1)) (B := B) l (by simp [hlen]) (fun i b y hb hy => by
        obtain ⟨cs', y', _, hy', _, _, hB⟩ := hp i b hb
        rw [List.getElem?_map, hy'] at hy
        simp at hy
        subst hy
        exact hB)
      omega
/-- A struct of fields of one cell: each field's cell and reading. -/
theorem flat_fields {P : Program} {t : TypeId} {fs : Array Field} (ht : P.underlying t = some (.struct fs)) (hone : oneCellFields P fs = true) (hC : P.cellsOf t = fs.size)
    {H : Type} {enc : TypeId × Value → H} {w : World} {base : Nat} {spare : Nat → Bool} {held : Bool} {fuel : Nat} {cs : List Value} {x : DataW H × List MemPlace} (h : DataW.trod enc P w base spare held fuel t cs = some x) :
    ∃ (ys : List (DataW H × List MemPlace)) (n : Nat), cs.length = fs.size ∧ ys.length = fs.size ∧ x.1 = .agg (ys.map (·.1)) ∧ ∀ (i : Nat) (f : Field) (c : Value), fs[i]? = some f → cs[i]? = some c → DataW.trod enc P w base spare held n f.type [c] = ys[i]? := by
  obtain ⟨xs, n, _, rfl, hl, hlen, hf⟩ := DataW.trod_struct ht h
  refine ⟨xs, n, hl.trans hC, hlen, rfl, fun i f c hfi hc => ?_⟩
  have h1 := hf i f hfi
  obtain ⟨o0, k0⟩ := hone_of hone i f hfi
  rw [o0, k0] at h1
  rw [← h1]
  congr 1
  have hi := (List.getElem?_eq_some_iff.1 hc).1
  rw [List.drop_eq_getElem_cons hi, List.take_succ_cons, List.take_zero]
  rw [List.getElem?_eq_getElem hi] at hc
  simp at hc
  rw [hc]
/-- A slice among the arguments: its length, by the form's reach. -/
theorem sized_row {H : Type} {P : Program} {ts : List TypeId} {ds : List (DataW H)} {j : Nat} {t e : TypeId} {d : DataW H} {α : Type} {l : List α}
    (hsz : (DataW.weightsEach P ts ds).all (· ≤ reachBytes) = true) (ht : ts[j]? = some t) (hd : ds[j]? = some d) (hu : P.underlying t = some (.slice e)) {b : Nat} (hb : P.bytesOf e = b)
    (hx : d = .nil ∧ l = [] ∨ ∃ el sp, d = .slice el sp ∧ el.length = l.length) : l.length * b ≤ 140737488351232 := by
  rcases hx with ⟨_, rfl⟩ | ⟨el, sp, rfl, hl⟩
  · simp
  · have := sized_slice hsz ht hd hu
    rw [hb, hl] at this
    exact Nat.le_trans (Nat.mul_le_mul_right _ (Nat.le_add_right _ _)) this
theorem string_len {s : ByteArray} : s.data.toList.length = s.size := by rw [Array.length_toList]; rfl
end Go.Proofs.Ytjemaajliodmhaa.Z
end

section
-- Printed by a program of this session (mp.py): what a reading gives of the kinds that are arguments.
namespace Go.Proofs.Ytjemaajliodmhaa.Z
open Go.ChangeShapes Go.WideShapes Go.ChangeAt Go.RowKit Go.Deep Go.Proofs.YtjemaajliodmhaaW.PrintWords
set_option linter.unusedVariables false
end Go.Proofs.Ytjemaajliodmhaa.Z
end

section
/- PathUnder, over numbers and lists: at any three lists of texts the law's function answers true. -/
namespace Go.Proofs.Ytjemaajliodmhaa.Pure
open Go.RowKit Go.Proofs.Ytjemaajliodmhaa Go.Proofs.Ytjemaajliodmhaa.Z Go.Proofs.YtjemaajliodmhaaW.PrintWords Go.Proofs.Ytjemaajliodmhaa.PM
theorem underB_iff {a b : List ByteArray} : underB a b = true ↔ ∃ c, b = a ++ c := by
  unfold underB
  rw [decide_eq_true_eq]
  constructor
  · rintro ⟨_, h⟩; exact ⟨b.drop a.length, by conv => lhs; rw [← List.take_append_drop a.length b, ← h]⟩
  · rintro ⟨c, rfl⟩; simp
theorem PathUnder : ∀ (l0 : List ByteArray) (l1 : List ByteArray) (l2 : List ByteArray), l0.length ≤ maxLen → (∀ x ∈ l0, (fun s : ByteArray => s.size ≤ maxLen) x) → l0.length * 16 ≤ 140737488351232 → l1.length ≤ maxLen → (∀ x ∈ l1, (fun s : ByteArray => s.size ≤ maxLen) x) → l1.length * 16 ≤ 140737488351232 → l2.length ≤ maxLen → (∀ x ∈ l2, (fun s : ByteArray => s.size ≤ maxLen) x) → l2.length * 16 ≤ 140737488351232 → ∃ k, Z.cambiumlaw11_PathUnder.f k l0 l1 l2 = some true := by
  intro a b c _ _ ha _ _ hb _ _ hc
  refine Ev.rounds (g := fun k => Z.cambiumlaw11_PathUnder.f k a b c) ?_
  unfold cambiumlaw11_PathUnder.f
  have aa : underB a a = true := underB_iff.2 ⟨[], by simp⟩
  have na : underB [] a = true := underB_iff.2 ⟨a, rfl⟩
  have last : Ev (fun k => cambiumlaw11_PathUnder.j1 k a b c false) true := by
    refine Ev.step (fun k => by rw [cambiumlaw11_PathUnder.j1]) (Ev.ifn (by decide) (Ev.bind (under_f a b (by omega)) ?_))
    by_cases h1 : underB a b = true
    · refine Ev.ifp h1 (Ev.bind (under_f b c (by omega)) ?_)
      by_cases h2 : underB b c = true
      · refine Ev.ifp h2 (Ev.bind (under_f a c (by omega)) (Ev.const (congrArg some ?_)))
        obtain ⟨x, rfl⟩ := underB_iff.1 h1
        obtain ⟨y, rfl⟩ := underB_iff.1 h2
        exact underB_iff.2 ⟨x ++ y, by simp⟩
      · exact Ev.ifn h2 (Ev.const rfl)
    · exact Ev.ifn h1 (Ev.const rfl)
  refine Ev.bind lives_f (Ev.ifp rfl (Ev.bind (under_f a a (by omega)) (Ev.ifp aa (Ev.bind (under_f [] a (by simp)) ?_))))
  rw [na]
  refine Ev.step (fun k => by rw [cambiumlaw11_PathUnder.j0]) (Ev.ifn (by decide) (Ev.bind (under_f a b (by omega)) ?_))
  by_cases h1 : underB a b = true
  · refine Ev.ifp h1 (Ev.bind (under_f b a (by omega)) ?_)
    by_cases h2 : underB b a = true
    · refine Ev.ifp h2 (Ev.bind (same_f a b (by omega) (by omega)) ?_)
      have : a = b := by
        obtain ⟨x, rfl⟩ := underB_iff.1 h1
        obtain ⟨y, hy⟩ := underB_iff.1 h2
        have := congrArg List.length hy
        simp only [List.length_append] at this
        have hx : x = [] := List.eq_nil_of_length_eq_zero (by omega)
        simp [hx]
      rw [decide_eq_true this]
      exact last
    · exact Ev.ifn h2 last
  · exact Ev.ifn h1 last
end Go.Proofs.Ytjemaajliodmhaa.Pure
end

section
/- cambium/cambiumlaw11.PathUnder: at every input the law's function returns true, and each argument reads afterwards as before. Conditions: none beyond the row's own. Printed by a program of this session (mp.py) over the pure statement in YtjemaajliodmhaaPurePathUnder. -/
namespace Go.Proofs.Ytjemaajliodmhaa.pathUnder
open Go.ChangeShapes Go.WideShapes Go.ChangeAt Go.RowKit
open Go.ChangeMaps (open_string shut_string)
set_option linter.unusedVariables false
theorem own : ownKnob Try.prog.godebug = none := by kernel_rfl
theorem laidOut : laidOutB Try.prog = true := by kernel_rfl
set_option maxHeartbeats 1000000 in
set_option maxRecDepth 100000 in
theorem lifted (os : Os) (started : os.Started) (H : Type) (enc : TypeId × Value → H) :
    ReturnsInHanded {} Try.checked os 7 .any (Rows.pathUnderSpec.pre6 enc Try.prog Try.f7 Rows.pathUnderRow.domain false) (Rows.pathUnderSpec.post enc Try.prog Try.f7 false true false false) := by
  refine returnsInHanded_of_change_sized (C := Try.checked) own started (by kernel_rfl) Try.func7
    (ChangeSpec.witness6 (enc := enc) (C := Try.checked) false ⟨#[], #[.slice none 0 0, .slice none 0 0, .slice none 0 0], []⟩ 8 (by kernel_rfl) (by kernel_rfl) (by kernel_rfl) (by kernel_rfl)) ?_
  intro W base args ds gs before hval0 hW hcnd hsz0 _
  have hsz : (DataW.weightsEach Try.prog (Try.f7.params.toList ++ Rows.pathUnderSpec.plain.varTypes Try.prog) (ds ++ gs)).all (· ≤ reachBytes) = true := hsz0
  have hval : ∀ (j : Nat) t v, Try.f7.params[j]? = some t → args[j]? = some v → Value.okWide Try.prog W .any base t v := hval0
  have hW' := hW
  obtain ⟨p, q, hA0, hV, rfl, hfz, hnd⟩ := hW
  have hA : DataW.TrodAll enc Try.prog W 0 (fun _ => true) true Try.f7.params.toList args.toList ds p := hA0
  rw [Try.params7] at hA hval hsz
  obtain ⟨v0, vs0, d0, ds0, p0, q0, hargs, rfl, rfl, h0, r0⟩ := trodAll_cons hA
  obtain ⟨v1, vs1, d1, ds1, p1, q1, rfl, rfl, rfl, h1, r1⟩ := trodAll_cons r0
  obtain ⟨v2, vs2, d2, ds2, p2, q2, rfl, rfl, rfl, h2, r2⟩ := trodAll_cons r1
  obtain ⟨rfl, rfl, rfl⟩ := trodAll_nil r2
  obtain rfl : args = #[v0, v1, v2] := by cases args; simp_all
  obtain ⟨rfl, rfl⟩ := trodVars_none hV
  have k0 := h0
  have lt0 : ∀ x ∈ p0, x.block < W.heap.size := by obtain ⟨m, hm⟩ := k0; exact DataW.trod_lt m _ _ _ hm
  obtain ⟨a0, len0, cap0, rfl⟩ := okWide_slice Try.underlying22 (hval 0 22 v0 rfl rfl)
  obtain ⟨fuel0, hf0⟩ := h0
  obtain ⟨A0, c0, l0, hcs0, hlc0, hcm0, hC0, hG0, hB0, hx0⟩ := Z.Opens.row Try.underlying22 (Z.Opens.string Try.underlying9 (by kernel_rfl)) (of_decide_eq_true (by kernel_rfl)) hf0
  simp only [Value.cells, List.cons.injEq, Value.slice.injEq, and_true] at hcs0
  obtain ⟨rfl, rfl, rfl⟩ := hcs0
  have hlm0 : l0.length ≤ maxLen := Nat.le_trans hlc0 hcm0
  have hsz0 : l0.length * 16 ≤ 140737488351232 := Z.sized_row hsz (j := 0) (t := 22) rfl rfl Try.underlying22 (by kernel_rfl) hx0
  have k1 := h1
  have lt1 : ∀ x ∈ p1, x.block < W.heap.size := by obtain ⟨m, hm⟩ := k1; exact DataW.trod_lt m _ _ _ hm
  obtain ⟨a1, len1, cap1, rfl⟩ := okWide_slice Try.underlying22 (hval 1 22 v1 rfl rfl)
  obtain ⟨fuel1, hf1⟩ := h1
  obtain ⟨A1, c1, l1, hcs1, hlc1, hcm1, hC1, hG1, hB1, hx1⟩ := Z.Opens.row Try.underlying22 (Z.Opens.string Try.underlying9 (by kernel_rfl)) (of_decide_eq_true (by kernel_rfl)) hf1
  simp only [Value.cells, List.cons.injEq, Value.slice.injEq, and_true] at hcs1
  obtain ⟨rfl, rfl, rfl⟩ := hcs1
  have hlm1 : l1.length ≤ maxLen := Nat.le_trans hlc1 hcm1
  have hsz1 : l1.length * 16 ≤ 140737488351232 := Z.sized_row hsz (j := 1) (t := 22) rfl rfl Try.underlying22 (by kernel_rfl) hx1
  have k2 := h2
  have lt2 : ∀ x ∈ p2, x.block < W.heap.size := by obtain ⟨m, hm⟩ := k2; exact DataW.trod_lt m _ _ _ hm
  obtain ⟨a2, len2, cap2, rfl⟩ := okWide_slice Try.underlying22 (hval 2 22 v2 rfl rfl)
  obtain ⟨fuel2, hf2⟩ := h2
  obtain ⟨A2, c2, l2, hcs2, hlc2, hcm2, hC2, hG2, hB2, hx2⟩ := Z.Opens.row Try.underlying22 (Z.Opens.string Try.underlying9 (by kernel_rfl)) (of_decide_eq_true (by kernel_rfl)) hf2
  simp only [Value.cells, List.cons.injEq, Value.slice.injEq, and_true] at hcs2
  obtain ⟨rfl, rfl, rfl⟩ := hcs2
  have hlm2 : l2.length ≤ maxLen := Nat.le_trans hlc2 hcm2
  have hsz2 : l2.length * 16 ≤ 140737488351232 := Z.sized_row hsz (j := 2) (t := 22) rfl rfl Try.underlying22 (by kernel_rfl) hx2
  have hP := Pure.PathUnder l0 l1 l2 hlm0 hG0 hsz0 hlm1 hG1 hsz1 hlm2 hG2 hsz2
  obtain ⟨k, hk⟩ := hP
  refine (Z.cambiumlaw11_PathUnder.calls k _ _ l0 _ _ l1 _ _ l2 true W hC0 hlc0 hC1 hlc1 hC2 hlc2 hk).mono fun e W' ⟨he, bel0⟩ => ?_
  have bel : Below W.heap.size W W' := bel0
  subst he
  exact ⟨_, rfl, _, _, _, [], _, [], hW', trodAll_mk1 (shut_bool Try.underlying4 _), (trodAll_cons_mk (Below.trod laidOut (by kernel_rfl) (of_decide_eq_true (by kernel_rfl)) k0 bel lt0) (trodAll_cons_mk (Below.trod laidOut (by kernel_rfl) (of_decide_eq_true (by kernel_rfl)) k1 bel lt1) (trodAll_cons_mk (Below.trod laidOut (by kernel_rfl) (of_decide_eq_true (by kernel_rfl)) k2 bel lt2) trodAll_mk0))), rfl, bel.frame _, fun h => by cases h⟩
theorem over : Rows.pathUnderRow.holds Try.pinned (OpenSpec.ofChange Rows.pathUnderSpec) :=
  OpenClaim.holds_of_wide 7 Try.f7 rfl rfl rfl rfl rfl rfl rfl ⟨rfl, rfl, rfl, rfl, rfl⟩ rfl rfl rfl rfl rfl (by kernel_rfl) Try.func7 (by kernel_rfl)
    (of_decide_eq_true (by kernel_rfl)) (by unfold Func.isWrapper; first | (rw [if_pos (by decide +kernel)]; kernel_rfl) | (rw [if_neg (by decide +kernel)]; exact ⟨rfl, rfl⟩))
    (fun os started H enc _ => lifted os started H enc)
end Go.Proofs.Ytjemaajliodmhaa.pathUnder
namespace Go.Proofs.Ytjemaajliodmhaa
theorem pathUnder_holds : Rows.PathUnderSaid := pathUnder.over
#print axioms pathUnder_holds
end Go.Proofs.Ytjemaajliodmhaa
end
