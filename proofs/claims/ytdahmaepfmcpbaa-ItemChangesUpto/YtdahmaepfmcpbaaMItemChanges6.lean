/- ItemChangesUpto: at every input the law's function returns true and leaves its arguments as they were; condition: the arguments are of bulk at most 1048576. Part 6 of 6: this session's own texts, laid together. -/
import Derived.Test.YtdahmaepfmcpbaaMB1
import Derived.Test.YtdahmaepfmcpbaaMB2
import Derived.Test.YtdahmaepfmcpbaaMB3
import Derived.Test.YtdahmaepfmcpbaaMB4
import Derived.Test.YtdahmaepfmcpbaaMItemChanges5
import Derived.Test.YtdahmaepfmcpbaaRows
import Derived.WalkKit
import Derived.ProofKit
import Derived.OpenShut
import Derived.ShutString
import Derived.ChangeOld
import Derived.Below
import Derived.SizedLaws
import Derived.Carry
import Derived.JoinedCond
import Derived.Deep.CondSized
section
-- Printed by a program of this session (mp.py) out of the translation.
namespace Go.Proofs.Ytdahmaepfmcpbaa.Z
open Go.RowKit Go.Proofs.YtdahmaepfmcpbaaW.PrintWords Go.Proofs.YtdahmaepfmcpbaaW.PrintLast Go.Proofs.YtdahmaepfmcpbaaW.PrintMore
attribute [local go_sem] max2_int min2_int max_two min_two max_three min_three max_four min_four   -- for this text's walks alone
set_option linter.unusedVariables false
set_option linter.unusedSimpArgs false

/-! ### cambiumlaw04_ItemChanges: function 4 -/
def cambiumlaw04_ItemChanges.f (k : Nat) (l0 : List (S43)) (l1 : List (S39)) (l2 : List (S43)) : Option (Bool) := (item_Apply.f k l0 l1).bind fun bt344 => ((cambiumref04_Apply.f k l0 l1).bind fun bt348 => ((item_Diff.f k l0 l2).bind fun bt352 => ((cambiumref04_Diff.f k l0 l2).bind fun bt356 => ((cambiumlaw04_lives.f k).bind fun t360 => (if t360 = true then ((cambiumref04_Same.f k bt344.1 bt348.1).bind fun t361 => (if t361 = true then (if bt344.2 = bt348.2 then ((cambiumref04_SameChanges.f k bt352.1 bt356.1).bind fun t362 => (if t362 = true then (some (bt352.2 == bt356.2)) else (some false))) else (some false)) else (some false))) else (some false))))))
theorem cambiumlaw04_ItemChanges.mono : ∀ a0 a1 a2 k, LeO (cambiumlaw04_ItemChanges.f k a0 a1 a2) (cambiumlaw04_ItemChanges.f (k + 1) a0 a1 a2) := by
  intro a0 a1 a2 k
  unfold cambiumlaw04_ItemChanges.f
  repeat' first
      | (with_reducible exact cambiumlaw04_lives.mono _)
      | (with_reducible exact cambiumref04_Apply.mono _ _ _)
      | (with_reducible exact cambiumref04_Diff.mono _ _ _)
      | (with_reducible exact cambiumref04_Same.mono _ _ _)
      | (with_reducible exact cambiumref04_SameChanges.mono _ _ _)
      | (with_reducible exact item_Apply.mono _ _ _)
      | (with_reducible exact item_Diff.mono _ _ _)
      | (with_reducible exact LeO.refl _)
      | (with_reducible exact LeO.none _)
      | (with_reducible refine LeO.ite ?_ ?_)
      | (with_reducible refine LeO.bind ?_ (fun _ => ?_))
      | exact cambiumlaw04_lives.mono _
      | exact cambiumref04_Apply.mono _ _ _
      | exact cambiumref04_Diff.mono _ _ _
      | exact cambiumref04_Same.mono _ _ _
      | exact cambiumref04_SameChanges.mono _ _ _
      | exact item_Apply.mono _ _ _
      | exact item_Diff.mono _ _ _
      | exact LeO.none _
      | refine LeO.ite ?_ ?_
      | refine LeO.bind ?_ (fun _ => ?_)
set_option maxHeartbeats 8000000 in
set_option maxRecDepth 100000 in
theorem cambiumlaw04_ItemChanges.calls (k : Nat) (A0 : Option Addr) (c0 : Nat) (l0 : List (S43)) (A1 : Option Addr) (c1 : Nat) (l1 : List (S39)) (A2 : Option Addr) (c2 : Nat) (l2 : List (S43)) (r : Bool) (w : World) (hr0 : Kd.C k43 w A0 l0.length l0) (hc0 : l0.length ≤ c0) (hr1 : Kd.C k39 w A1 l1.length l1) (hc1 : l1.length ≤ c1) (hr2 : Kd.C k43 w A2 l2.length l2) (hc2 : l2.length ≤ c2) (h : cambiumlaw04_ItemChanges.f k l0 l1 l2 = some r) (hT_ : r = true := by rfl) :
    Calls Try.prog 4 #[.slice A0 l0.length c0, .slice A1 l1.length c1, .slice A2 l2.length c2] w fun e w' => e = .returned (.bool r) ∧ Below w.heap.size w w' := by
  have HT_ := Aside0.mk hT_
  clear hT_
  have HR0 := Aside0.mk hr0
  have HC0 := Aside0.mk hc0
  clear hr0 hc0
  have HR1 := Aside0.mk hr1
  have HC1 := Aside0.mk hc1
  clear hr1 hc1
  have HR2 := Aside0.mk hr2
  have HC2 := Aside0.mk hc2
  clear hr2 hc2
  have HB := Aside0.mk (Below.refl w.heap.size w)
  have H : ((item_Apply.f k l0 l1).bind fun bt344 => ((cambiumref04_Apply.f k l0 l1).bind fun bt348 => ((item_Diff.f k l0 l2).bind fun bt352 => ((cambiumref04_Diff.f k l0 l2).bind fun bt356 => ((cambiumlaw04_lives.f k).bind fun t360 => (if t360 = true then ((cambiumref04_Same.f k bt344.1 bt348.1).bind fun t361 => (if t361 = true then (if bt344.2 = bt348.2 then ((cambiumref04_SameChanges.f k bt352.1 bt356.1).bind fun t362 => (if t362 = true then (some (bt352.2 == bt356.2)) else (some false))) else (some false)) else (some false))) else (some false))))))) = some r := h
  clear h
  replace H := Option.bind_eq_some_iff.mp H
  obtain ⟨⟨t344, t345⟩, A40, H⟩ := H
  replace H : ((cambiumref04_Apply.f k l0 l1).bind fun bt348 => ((item_Diff.f k l0 l2).bind fun bt352 => ((cambiumref04_Diff.f k l0 l2).bind fun bt356 => ((cambiumlaw04_lives.f k).bind fun t360 => (if t360 = true then ((cambiumref04_Same.f k t344 bt348.1).bind fun t361 => (if t361 = true then (if t345 = bt348.2 then ((cambiumref04_SameChanges.f k bt352.1 bt356.1).bind fun t362 => (if t362 = true then (some (bt352.2 == bt356.2)) else (some false))) else (some false)) else (some false))) else (some false)))))) = some r := H
  have A4 := Aside0.mk A40
  clear A40
  replace H := Option.bind_eq_some_iff.mp H
  obtain ⟨⟨t348, t349⟩, A50, H⟩ := H
  replace H : ((item_Diff.f k l0 l2).bind fun bt352 => ((cambiumref04_Diff.f k l0 l2).bind fun bt356 => ((cambiumlaw04_lives.f k).bind fun t360 => (if t360 = true then ((cambiumref04_Same.f k t344 t348).bind fun t361 => (if t361 = true then (if t345 = t349 then ((cambiumref04_SameChanges.f k bt352.1 bt356.1).bind fun t362 => (if t362 = true then (some (bt352.2 == bt356.2)) else (some false))) else (some false)) else (some false))) else (some false))))) = some r := H
  have A5 := Aside0.mk A50
  clear A50
  replace H := Option.bind_eq_some_iff.mp H
  obtain ⟨⟨t352, t355⟩, A60, H⟩ := H
  replace H : ((cambiumref04_Diff.f k l0 l2).bind fun bt356 => ((cambiumlaw04_lives.f k).bind fun t360 => (if t360 = true then ((cambiumref04_Same.f k t344 t348).bind fun t361 => (if t361 = true then (if t345 = t349 then ((cambiumref04_SameChanges.f k t352 bt356.1).bind fun t362 => (if t362 = true then (some (t355 == bt356.2)) else (some false))) else (some false)) else (some false))) else (some false)))) = some r := H
  have A6 := Aside0.mk A60
  clear A60
  replace H := Option.bind_eq_some_iff.mp H
  obtain ⟨⟨t356, t357⟩, A70, H⟩ := H
  replace H : ((cambiumlaw04_lives.f k).bind fun t360 => (if t360 = true then ((cambiumref04_Same.f k t344 t348).bind fun t361 => (if t361 = true then (if t345 = t349 then ((cambiumref04_SameChanges.f k t352 t356).bind fun t362 => (if t362 = true then (some (t355 == t357)) else (some false))) else (some false)) else (some false))) else (some false))) = some r := H
  have A7 := Aside0.mk A70
  clear A70
  replace H := Option.bind_eq_some_iff.mp H
  obtain ⟨t360, A80, H⟩ := H
  replace H : (if t360 = true then ((cambiumref04_Same.f k t344 t348).bind fun t361 => (if t361 = true then (if t345 = t349 then ((cambiumref04_SameChanges.f k t352 t356).bind fun t362 => (if t362 = true then (some (t355 == t357)) else (some false))) else (some false)) else (some false))) else (some false)) = some r := H
  have A8 := Aside0.mk A80
  clear A80
  by_cases c9 : t360 = true
  · subst c9
    have H1 : ((cambiumref04_Same.f k t344 t348).bind fun t361 => (if t361 = true then (if t345 = t349 then ((cambiumref04_SameChanges.f k t352 t356).bind fun t362 => (if t362 = true then (some (t355 == t357)) else (some false))) else (some false)) else (some false))) = some r := by rw [if_pos rfl] at H; exact H
    clear H
    have H := H1
    clear H1
    replace H := Option.bind_eq_some_iff.mp H
    obtain ⟨t361, A100, H⟩ := H
    replace H : (if t361 = true then (if t345 = t349 then ((cambiumref04_SameChanges.f k t352 t356).bind fun t362 => (if t362 = true then (some (t355 == t357)) else (some false))) else (some false)) else (some false)) = some r := H
    have A10 := Aside0.mk A100
    clear A100
    by_cases c11 : t361 = true
    · subst c11
      have H1 : (if t345 = t349 then ((cambiumref04_SameChanges.f k t352 t356).bind fun t362 => (if t362 = true then (some (t355 == t357)) else (some false))) else (some false)) = some r := by rw [if_pos rfl] at H; exact H
      clear H
      have H := H1
      clear H1
      by_cases c12 : t345 = t349
      · rw [if_pos c12] at H
        have c12b0 : (t345 == t349) = true := beq_iff_eq.mpr c12
        have c12b1 : (t345 != t349) = false := bne_eq_false_iff_eq.mpr c12
        clear c12
        replace H := Option.bind_eq_some_iff.mp H
        obtain ⟨t362, A130, H⟩ := H
        replace H : (if t362 = true then (some (t355 == t357)) else (some false)) = some r := H
        have A13 := Aside0.mk A130
        clear A130
        by_cases c14 : t362 = true
        · subst c14
          have H1 : (some (t355 == t357)) = some r := by rw [if_pos rfl] at H; exact H
          clear H
          have H := H1
          clear H1
          obtain rfl := Option.some.inj H
          go_enter Try.func4, Try.ntmps4
          go_wp2_with (first | ((with_reducible refine gate_callee (f := 20) rfl ?_); refine goesL_ (some 18) rfl rfl Try.func20 (by kernel_rfl) rfl #[.slice A0 l0.length c0, .slice A1 l1.length c1] rfl (by (try simp only [List.map_toArray, List.map_cons, List.map_nil]); first | done | rfl | (simp only [List.length_drop, List.length_take]; rfl)) ?_; (with_reducible refine (item_Apply.calls k _ _ l0 _ _ l1 t344 t345 _ ?side1 ?side2 ?side3 ?side4 A4.out).mono ?_); (case side1 => repeat (first | exact HR0.out | (with_reducible refine Kd.C_alloc ?_ _) | (with_reducible refine Kd.C_drewN ?_ _) | (with_reducible refine Kd.C_drew ?_))); (case side2 => exact HC0.out); (case side3 => repeat (first | exact HR1.out | (with_reducible refine Kd.C_alloc ?_ _) | (with_reducible refine Kd.C_drewN ?_ _) | (with_reducible refine Kd.C_drew ?_))); (case side4 => exact HC1.out); rintro e w15 ⟨v346, rfl, ho0, hb⟩; refine ⟨_, rfl, ?_⟩; have n0_ := Aside0.mk (Kd.R_lower ho0 (below_size (by repeat (first | (with_reducible first | exact HB.out | apply below_alloc | apply pw_below_drewN | apply below_drew1) | exact HB.out)))); have n1_ := Aside0.mk (below_step (by repeat (first | (with_reducible first | exact HB.out | apply below_alloc | apply pw_below_drewN | apply below_drew1) | exact HB.out)) hb); clear HB; have HO347 := n0_; have HB := n1_; clear n0_ n1_; (try clear hb); (try clear hb2); (try clear hk); (try clear hi); (try clear ho0)) | ((with_reducible refine gate_callee (f := 21) rfl ?_); refine goesL_ (some 24) rfl rfl Try.func21 (by kernel_rfl) rfl #[.slice A0 l0.length c0, .slice A1 l1.length c1] rfl (by (try simp only [List.map_toArray, List.map_cons, List.map_nil]); first | done | rfl | (simp only [List.length_drop, List.length_take]; rfl)) ?_; (with_reducible refine (cambiumref04_Apply.calls k _ _ l0 _ _ l1 t348 t349 _ ?side1 ?side2 ?side3 ?side4 A5.out).mono ?_); (case side1 => repeat (first | exact (Kd.C_below HR0.out HB.out) | (with_reducible refine Kd.C_alloc ?_ _) | (with_reducible refine Kd.C_drewN ?_ _) | (with_reducible refine Kd.C_drew ?_))); (case side2 => exact HC0.out); (case side3 => repeat (first | exact (Kd.C_below HR1.out HB.out) | (with_reducible refine Kd.C_alloc ?_ _) | (with_reducible refine Kd.C_drewN ?_ _) | (with_reducible refine Kd.C_drew ?_))); (case side4 => exact HC1.out); rintro e w16 ⟨v350, rfl, ho0, hb⟩; refine ⟨_, rfl, ?_⟩; have n0_ := Aside0.mk (Kd.R_elder' (by (with_reducible repeat (first | apply Kd.R_alloc | apply Kd.R_drewN | apply Kd.R_drew)); exact HO347.out) (Kd.R_base ho0) hb); have n1_ := Aside0.mk (Kd.R_lower (Kd.R_new' ho0 (Kd.R_lt (by (with_reducible repeat (first | apply Kd.R_alloc | apply Kd.R_drewN | apply Kd.R_drew)); exact HO347.out))) (below_size (by repeat (first | (with_reducible first | exact HB.out | apply below_alloc | apply pw_below_drewN | apply below_drew1) | exact HB.out)))); have n2_ := Aside0.mk (below_step (by repeat (first | (with_reducible first | exact HB.out | apply below_alloc | apply pw_below_drewN | apply below_drew1) | exact HB.out)) hb); clear HO347; clear HB; have HO347 := n0_; have HO351 := n1_; have HB := n2_; clear n0_ n1_ n2_; (try clear hb); (try clear hb2); (try clear hk); (try clear hi); (try clear ho0)) | ((with_reducible refine gate_callee (f := 22) rfl ?_); refine goesL_ (some 30) rfl rfl Try.func22 (by kernel_rfl) rfl #[.slice A0 l0.length c0, .slice A2 l2.length c2] rfl (by (try simp only [List.map_toArray, List.map_cons, List.map_nil]); first | done | rfl | (simp only [List.length_drop, List.length_take]; rfl)) ?_; (with_reducible refine (item_Diff.calls k (fun k_ => k_ < w.heap.size) _ _ l0 (fun k_ => k_ < w.heap.size) _ _ l2 t352 t355 _ ?side1 ?side2 A6.out).mono ?_); (case side1 => exact Kd.V_mk HC0.out (Kd.F_below (Kd.C_F k43_heap HR0.out) (by repeat (first | (with_reducible first | exact HB.out | apply below_alloc | apply pw_below_drewN | apply below_drew1) | exact HB.out)))); (case side2 => exact Kd.V_mk HC2.out (Kd.F_below (Kd.C_F k43_heap HR2.out) (by repeat (first | (with_reducible first | exact HB.out | apply below_alloc | apply pw_below_drewN | apply below_drew1) | exact HB.out)))); rintro e w17 ⟨v353, rfl, ho0, hb⟩; refine ⟨_, rfl, ?_⟩; have n0_ := Aside0.mk (Kd.R_below (by (with_reducible repeat (first | apply Kd.R_alloc | apply Kd.R_drewN | apply Kd.R_drew)); exact HO347.out) hb); have n1_ := Aside0.mk (Kd.R_below (by (with_reducible repeat (first | apply Kd.R_alloc | apply Kd.R_drewN | apply Kd.R_drew)); exact HO351.out) hb); have n2_ := Aside0.mk (Kd.R_lower (Kd.R_mono (ok' := fun k_ => True) ho0 (fun _ hk_ => trivial)) (below_size (by repeat (first | (with_reducible first | exact HB.out | apply below_alloc | apply pw_below_drewN | apply below_drew1) | exact HB.out)))); have n3_ := Aside0.mk (below_step (by repeat (first | (with_reducible first | exact HB.out | apply below_alloc | apply pw_below_drewN | apply below_drew1) | exact HB.out)) hb); clear HO347; clear HO351; clear HB; have HO347 := n0_; have HO351 := n1_; have HO354 := n2_; have HB := n3_; clear n0_ n1_ n2_ n3_; (try clear hb); (try clear hb2); (try clear hk); (try clear hi); (try clear ho0)) | ((with_reducible refine gate_callee (f := 23) rfl ?_); refine goesL_ (some 36) rfl rfl Try.func23 (by kernel_rfl) rfl #[.slice A0 l0.length c0, .slice A2 l2.length c2] rfl (by (try simp only [List.map_toArray, List.map_cons, List.map_nil]); first | done | rfl | (simp only [List.length_drop, List.length_take]; rfl)) ?_; (with_reducible refine (cambiumref04_Diff.calls k _ _ l0 _ _ l2 t356 t357 _ ?side1 ?side2 ?side3 ?side4 A7.out).mono ?_); (case side1 => repeat (first | exact (Kd.C_below HR0.out HB.out) | (with_reducible refine Kd.C_alloc ?_ _) | (with_reducible refine Kd.C_drewN ?_ _) | (with_reducible refine Kd.C_drew ?_))); (case side2 => exact HC0.out); (case side3 => repeat (first | exact (Kd.C_below HR2.out HB.out) | (with_reducible refine Kd.C_alloc ?_ _) | (with_reducible refine Kd.C_drewN ?_ _) | (with_reducible refine Kd.C_drew ?_))); (case side4 => exact HC2.out); rintro e w18 ⟨v358, rfl, ho0, hb⟩; refine ⟨_, rfl, ?_⟩; have n0_ := Aside0.mk (Kd.R_below (by (with_reducible repeat (first | apply Kd.R_alloc | apply Kd.R_drewN | apply Kd.R_drew)); exact HO347.out) hb); have n1_ := Aside0.mk (Kd.R_below (by (with_reducible repeat (first | apply Kd.R_alloc | apply Kd.R_drewN | apply Kd.R_drew)); exact HO351.out) hb); have n2_ := Aside0.mk (Kd.R_elder' (by (with_reducible repeat (first | apply Kd.R_alloc | apply Kd.R_drewN | apply Kd.R_drew)); exact HO354.out) (Kd.R_base ho0) hb); have n3_ := Aside0.mk (Kd.R_lower (Kd.R_new' ho0 (Kd.R_lt (by (with_reducible repeat (first | apply Kd.R_alloc | apply Kd.R_drewN | apply Kd.R_drew)); exact HO354.out))) (below_size (by repeat (first | (with_reducible first | exact HB.out | apply below_alloc | apply pw_below_drewN | apply below_drew1) | exact HB.out)))); have n4_ := Aside0.mk (below_step (by repeat (first | (with_reducible first | exact HB.out | apply below_alloc | apply pw_below_drewN | apply below_drew1) | exact HB.out)) hb); clear HO347; clear HO351; clear HO354; clear HB; have HO347 := n0_; have HO351 := n1_; have HO354 := n2_; have HO359 := n3_; have HB := n4_; clear n0_ n1_ n2_ n3_ n4_; (try clear hb); (try clear hb2); (try clear hk); (try clear hi); (try clear ho0)) | ((with_reducible refine gate_callee (f := 16) rfl ?_); refine goesL_ (some 39) rfl rfl Try.func16 (by kernel_rfl) rfl #[] rfl (by (try simp only [List.map_toArray, List.map_cons, List.map_nil]); first | done | rfl | (simp only [List.length_drop, List.length_take]; rfl)) ?_; (with_reducible refine (cambiumlaw04_lives.calls k  true _ A8.out).mono ?_); rintro e w19 ⟨rfl, hb⟩; refine ⟨_, rfl, ?_⟩; have n0_ := Aside0.mk (Kd.R_below (by (with_reducible repeat (first | apply Kd.R_alloc | apply Kd.R_drewN | apply Kd.R_drew)); exact HO347.out) hb); have n1_ := Aside0.mk (Kd.R_below (by (with_reducible repeat (first | apply Kd.R_alloc | apply Kd.R_drewN | apply Kd.R_drew)); exact HO351.out) hb); have n2_ := Aside0.mk (Kd.R_below (by (with_reducible repeat (first | apply Kd.R_alloc | apply Kd.R_drewN | apply Kd.R_drew)); exact HO354.out) hb); have n3_ := Aside0.mk (Kd.R_below (by (with_reducible repeat (first | apply Kd.R_alloc | apply Kd.R_drewN | apply Kd.R_drew)); exact HO359.out) hb); have n4_ := Aside0.mk (below_step (by repeat (first | (with_reducible first | exact HB.out | apply below_alloc | apply pw_below_drewN | apply below_drew1) | exact HB.out)) hb); clear HO347; clear HO351; clear HO354; clear HO359; clear HB; have HO347 := n0_; have HO351 := n1_; have HO354 := n2_; have HO359 := n3_; have HB := n4_; clear n0_ n1_ n2_ n3_ n4_; (try clear hb); (try clear hb2); (try clear hk); (try clear hi); obtain ⟨Ao20, co20, eo20⟩ := Kd.R_slice HO347.out; subst eo20; obtain ⟨Ao21, co21, eo21⟩ := Kd.R_slice HO351.out; subst eo21) | (go_at_call 17; (with_reducible refine (cambiumref04_Same.calls k _ _ t344 _ _ t348 true _ ?side1 ?side2 ?side3 ?side4 A10.out).mono ?_); (case side1 => repeat (first | exact (Kd.R_reads' HO347.out).2.2 | (with_reducible refine Kd.C_alloc ?_ _) | (with_reducible refine Kd.C_drewN ?_ _) | (with_reducible refine Kd.C_drew ?_))); (case side2 => exact (Kd.R_reads' HO347.out).2.1); (case side3 => repeat (first | exact (Kd.R_reads' HO351.out).2.2 | (with_reducible refine Kd.C_alloc ?_ _) | (with_reducible refine Kd.C_drewN ?_ _) | (with_reducible refine Kd.C_drew ?_))); (case side4 => exact (Kd.R_reads' HO351.out).2.1); rintro e w' ⟨rfl, ⟨nd, rfl⟩⟩; obtain ⟨Ao22, co22, eo22⟩ := Kd.R_slice HO354.out; subst eo22; obtain ⟨Ao23, co23, eo23⟩ := Kd.R_slice HO359.out; subst eo23) | (go_at_call 24; (with_reducible refine (cambiumref04_SameChanges.calls k _ _ t352 _ _ t356 true _ ?side1 ?side2 ?side3 ?side4 A13.out).mono ?_); (case side1 => repeat (first | exact (Kd.R_reads' HO354.out).2.2 | (with_reducible refine Kd.C_alloc ?_ _) | (with_reducible refine Kd.C_drewN ?_ _) | (with_reducible refine Kd.C_drew ?_))); (case side2 => exact (Kd.R_reads' HO354.out).2.1); (case side3 => repeat (first | exact (Kd.R_reads' HO359.out).2.2 | (with_reducible refine Kd.C_alloc ?_ _) | (with_reducible refine Kd.C_drewN ?_ _) | (with_reducible refine Kd.C_drew ?_))); (case side4 => exact (Kd.R_reads' HO359.out).2.1); rintro e w' ⟨rfl, ⟨nd, rfl⟩⟩))
          go_ret
          exact ⟨by first | rfl | (simp [errW_none, errW_some] <;> rfl) | (simp [*, errW_none, errW_some] <;> rfl), by repeat (first | (with_reducible first | exact HB.out | apply below_alloc | apply pw_below_drewN | apply below_drew1) | exact HB.out)⟩
        replace c14 := Bool.eq_false_iff.mpr c14
        subst c14
        have H1 : (some false) = some r := by rw [if_neg (show ¬ (false = true) by decide)] at H; exact H
        clear H
        have H := H1
        clear H1
        exact absurd ((Option.some.inj H).trans HT_.out) (by simp)
      rw [if_neg c12] at H
      have c12b0 : (t345 == t349) = false := beq_eq_false_iff_ne.mpr c12
      have c12b1 : (t345 != t349) = true := bne_iff_ne.mpr c12
      exact absurd ((Option.some.inj H).trans HT_.out) (by simp)
    replace c11 := Bool.eq_false_iff.mpr c11
    subst c11
    have H1 : (some false) = some r := by rw [if_neg (show ¬ (false = true) by decide)] at H; exact H
    clear H
    have H := H1
    clear H1
    exact absurd ((Option.some.inj H).trans HT_.out) (by simp)
  replace c9 := Bool.eq_false_iff.mpr c9
  subst c9
  have H1 : (some false) = some r := by rw [if_neg (show ¬ (false = true) by decide)] at H; exact H
  clear H
  have H := H1
  clear H1
  exact absurd ((Option.some.inj H).trans HT_.out) (by simp)

end Go.Proofs.Ytdahmaepfmcpbaa.Z
end

section
/- The reference's Check. -/
namespace Go.Proofs.Ytdahmaepfmcpbaa.Z
open Go.RowKit Go.Proofs.YtdahmaepfmcpbaaW.PrintWords Go.Proofs.YtdahmaepfmcpbaaW.PrintLast
set_option linter.unusedVariables false
set_option linter.unusedSimpArgs false
theorem key_f (a : ByteArray) : cambiumref04_key.f a = some (okK a) := by
  unfold cambiumref04_key.f okK
  by_cases h : a.toList = []
  · simp [h]
  · rw [if_neg h]
    have : decide ((a.size : Int) ≤ 48) = decide (a.size ≤ 48) := decide_eq_decide.2 (by omega)
    simp [h, this]
theorem refCheck_l0 (l : List It) (hl : l.length ≤ 4398046511104) : ∀ d i : Nat, l.length = i + d → Ev (fun k => cambiumref04_Check.l0 k l l (l.length : Int) (i : Int)) (ckS (okF (prv l i) (l.drop i)))
  | 0, i, hi => by
    refine Ev.step (fun k => by rw [cambiumref04_Check.l0]) ?_
    refine Ev.ifn (by omega) (Ev.const ?_)
    rw [List.drop_of_length_le (by omega)]
    unfold okF; rfl
  | d + 1, i, hi => by
    have hlt : i < l.length := by omega
    have ih := refCheck_l0 l hl d (i + 1) (by omega)
    rw [okF_at l i hlt]
    refine Ev.step (fun k => by rw [cambiumref04_Check.l0]) ?_
    refine Ev.ifp (by omega) (Ev.ifp (by omega) (Ev.ifp (by omega) (Ev.bindc (by rw [rd_get l i hlt]; exact key_f _) ?_)))
    rw [rd_get l i hlt]
    have hk : okI l[i] = (okK (l[i]).f0 && decide ((l[i]).f1.size ≤ 160)) := rfl
    rw [hk]
    cases hr : okK (l[i]).f0 with
    | false => exact Ev.ifn (by simp) (Ev.const rfl)
    | true =>
      refine Ev.ifp rfl ?_
      by_cases hv : ((l[i]).f1.size : Int) > 160
      · refine Ev.ifp hv (Ev.const ?_)
        have : ¬ (l[i]).f1.size ≤ 160 := by omega
        simp [this, ckS]
      · refine Ev.ifn hv ?_
        have hv2 : (l[i]).f1.size ≤ 160 := by omega
        rw [w64 (i := (i : Int) + 1) (by omega) (by omega)]
        cases i with
        | zero =>
          refine Ev.ifn (by omega) (Ev.val ih ?_)
          simp [prv, hv2]
        | succ j =>
          refine Ev.ifp (by omega) ?_
          have e : wrap64 (((j + 1 : Nat) : Int) - 1) = (j : Int) := by rw [w64 (by omega) (by omega)]; omega
          rw [e]
          refine Ev.ifp (by omega) (Ev.ifp (by omega) ?_)
          rw [rd_get l j (by omega)]
          rw [prv_succ l j (by omega)]
          cases hb : Op.bytesLess (l[j]).f0.toList (l[j + 1]).f0.toList with
          | false =>
            refine Ev.ifn (by simp) (Ev.const ?_)
            simp [ckS, key, hb]
          | true =>
            refine Ev.ifp rfl (Ev.val ih ?_)
            simp [key, hb, hv2]
theorem refCheck (l : List It) (hl : l.length ≤ 4398046511104) : Ev (fun k => cambiumref04_Check.f k l) (ckS (okL l)) := refCheck_l0 l hl l.length 0 (by omega)
end Go.Proofs.Ytdahmaepfmcpbaa.Z
end

section
/- The reference's Apply and Diff. -/
namespace Go.Proofs.Ytdahmaepfmcpbaa.Z
open Go.RowKit Go.Proofs.YtdahmaepfmcpbaaW.PrintWords Go.Proofs.YtdahmaepfmcpbaaW.PrintLast
set_option linter.unusedVariables false
set_option linter.unusedSimpArgs false
theorem sameC_l0 (x : List Ch) (hl : x.length ≤ 9223372036854775806) : ∀ d i : Nat, x.length = i + d → Ev (fun k => cambiumref04_SameChanges.l0 k x x (x.length : Int) (i : Int)) true := by
  intro d
  induction d with
  | zero =>
    intro i hi
    exact Ev.step (fun k => by rw [cambiumref04_SameChanges.l0]) (Ev.ifn (by omega) (Ev.const rfl))
  | succ d ih =>
    intro i hi
    refine Ev.step (fun k => by rw [cambiumref04_SameChanges.l0]) (Ev.ifp (by omega) (Ev.ifp (by omega) (Ev.ifp (by omega) (Ev.ifp (by omega) (Ev.ifn (by simp) ?_)))))
    rw [w64 (by omega) (by omega)]
    exact ih (i + 1) (by omega)
theorem sameC_refl (x : List Ch) (hl : x.length ≤ 9223372036854775806) : Ev (fun k => cambiumref04_SameChanges.f k x x) true := by
  unfold cambiumref04_SameChanges.f
  exact Ev.ifp rfl (sameC_l0 x hl x.length 0 (by omega))
theorem refCheckC_l0 (l : List Ch) (hl : l.length ≤ 4398046511104) : ∀ d i : Nat, l.length = i + d → Ev (fun k => cambiumref04_CheckChanges.l0 k l (l.length : Int) (i : Int)) (ckS ((l.drop i).all okc)) := by
  intro d
  induction d with
  | zero =>
    intro i hi
    refine Ev.step (fun k => by rw [cambiumref04_CheckChanges.l0]) (Ev.ifn (by omega) (Ev.const ?_))
    rw [List.drop_of_length_le (by omega)]; rfl
  | succ d ih =>
    intro i hi
    have hlt : i < l.length := by omega
    have ih := ih (i + 1) (by omega)
    rw [List.drop_eq_getElem_cons hlt, List.all_cons]
    refine Ev.step (fun k => by rw [cambiumref04_CheckChanges.l0]) (Ev.ifp (by omega) (Ev.ifp (by omega) (Ev.ifp (by omega) (Ev.bindc (by rw [rdc_get l i hlt]; exact key_f _) ?_))))
    rw [rdc_get l i hlt, w64 (by omega) (by omega)]
    unfold okc at ih ⊢
    cases hr : okK (l[i]).f0 with
    | false => exact Ev.ifn (by simp) (Ev.const rfl)
    | true =>
      refine Ev.ifp rfl (Ev.ite (fun h => Ev.const ?_) (fun h0 => Ev.ite (fun h => Ev.val ih ?_) (fun h => Ev.ite (fun h2 => Ev.val ih ?_) (fun h2 => Ev.const ?_))))
      · have : ¬ (l[i]).f2.size ≤ 160 := by omega
        simp [this, ckS]
      all_goals have h1 : (l[i]).f2.size ≤ 160 := by omega
      · simp [h, h1]
      · simp [h2, h1]
      · simp [h, h2, h1, ckS]
theorem refCheckC (l : List Ch) (hl : l.length ≤ 4398046511104) : Ev (fun k => cambiumref04_CheckChanges.f k l) (ckS (okC l)) := refCheckC_l0 l hl l.length 0 (by omega)
-- the reference's
theorem done_l0 (l : List It) (c : Ch) (hl : l.length ≤ 4398046511103) : ∀ d i : Nat, l.length = i + d → ∀ (out : List It) (f : Bool), out.length + d + (if f then 0 else 1) ≤ 4398046511104 →
    Ev (fun k => cambiumref04_Done.l0 k out f l (l.length : Int) (i : Int) c.f0 c.f1 c.f2) (out ++ doneR c f (l.drop i)) := by
  intro d
  induction d with
  | zero =>
    intro i hi out f hb
    refine Ev.step (fun k => by rw [cambiumref04_Done.l0]) (Ev.ifn (by omega) ?_)
    rw [List.drop_of_length_le (by omega), doneR]
    cases f with
    | true => exact Ev.ifp rfl (Ev.const (by simp))
    | false => exact Ev.ifn (by simp) (Ev.ifp (by simp at hb; omega) (Ev.const rfl))
  | succ d ih =>
    intro i hi out f hb
    have hlt : i < l.length := by omega
    rw [List.drop_eq_getElem_cons hlt, doneR]
    refine Ev.step (fun k => by rw [cambiumref04_Done.l0]) (Ev.ifp (by omega) (Ev.ifp (by omega) (Ev.ifp (by omega) ?_)))
    rw [rd_get l i hlt]
    obtain ⟨x, hx⟩ : ∃ x, x = l[i] := ⟨_, rfl⟩
    rw [← hx]
    obtain ⟨g, hg⟩ : ∃ g, g = (!f && !Op.bytesLess (key x) (ck c)) := ⟨_, rfl⟩
    have hj : Ev (fun k => cambiumref04_Done.j1 k out f l (l.length : Int) (i : Int) g c.f0 c.f1 c.f2 x.f0 x.f1) (out ++ ((if g = true then [⟨c.f0, c.f2⟩] else []) ++ (if key x = ck c then [] else [x]) ++ doneR c (f || !Op.bytesLess (key x) (ck c)) (l.drop (i + 1)))) := by
      refine Ev.step (fun k => by rw [cambiumref04_Done.j1]) ?_
      have hw : wrap64 ((i : Int) + 1) = ((i + 1 : Nat) : Int) := by rw [w64 (by omega) (by omega)]; omega
      rw [hw]
      cases hgv : g with
      | true =>
        have hf : f = false := by rw [hgv] at hg; revert hg; cases f <;> simp
        have hbl : Op.bytesLess (key x) (ck c) = false := by rw [hgv, hf] at hg; revert hg; cases Op.bytesLess (key x) (ck c) <;> simp
        rw [hbl, hf]
        rw [hf] at hb
        simp only [Bool.false_eq_true, if_false] at hb
        refine Ev.ifp rfl (Ev.ifp (by omega) (Ev.bindc rfl ?_))
        refine Ev.ite (fun h => Ev.val (ih (i + 1) (by omega) _ true (by simp only [List.length_append, List.length_cons, List.length_nil, if_true, Bool.false_eq_true, if_false]; omega)) ?_) (fun h => Ev.ifp (by simp only [List.length_append, List.length_cons, List.length_nil, if_true, Bool.false_eq_true, if_false]; omega) (Ev.val (ih (i + 1) (by omega) _ true (by simp only [List.length_append, List.length_cons, List.length_nil, if_true, Bool.false_eq_true, if_false]; omega)) ?_))
        · rw [if_pos h]; simp
        · rw [if_neg h]; simp
      | false =>
        have hff : (f || !Op.bytesLess (key x) (ck c)) = f := by rw [hgv] at hg; revert hg; cases f <;> simp
        rw [hff]
        refine Ev.ifn (by simp) ?_
        refine Ev.ite (fun h => Ev.val (ih (i + 1) (by omega) _ f (by omega)) ?_) (fun h => Ev.ifp (by omega) (Ev.val (ih (i + 1) (by omega) _ f (by simp only [List.length_append, List.length_cons, List.length_nil, if_true, Bool.false_eq_true, if_false]; omega)) ?_))
        · rw [if_pos h]; simp
        · rw [if_neg h]; simp
    rw [hg] at hj
    cases f with
    | true => exact Ev.ifp rfl hj
    | false => exact Ev.ifn (by simp) hj
theorem done_f {l : List It} (ha : Asc l) (c : Ch) (hl : l.length ≤ 4398046511103) : Ev (fun k => cambiumref04_Done.f k l c.f0 c.f1 c.f2) (put l c) := by
  unfold cambiumref04_Done.f
  refine Ev.val (done_l0 l c hl l.length 0 (by omega) [] (!c.f1) (by simp only [List.length_nil]; split <;> omega)) ?_
  rw [List.drop_zero, doneR_put ha]; rfl
theorem refApl_l0 (cs : List Ch) (hcs : cs.length ≤ 4398046511000) : ∀ d i : Nat, cs.length = i + d → ∀ l : List It, okL l = true → okC (cs.drop i) = true → l.length + d ≤ 4398046511000 →
    Ev (fun k => cambiumref04_Apply.l0 k l cs (cs.length : Int) (i : Int)) (apl l (cs.drop i), 0) := by
  intro d
  induction d with
  | zero =>
    intro i hi l ho hoc hb
    refine Ev.step (fun k => by rw [cambiumref04_Apply.l0]) (Ev.ifn (by omega) (Ev.const ?_))
    rw [List.drop_of_length_le (by omega)]; rfl
  | succ d ih =>
    intro i hi l ho hoc hb
    have hlt : i < cs.length := by omega
    have ha := ((okL_iff l).1 ho).2
    rw [List.drop_eq_getElem_cons hlt] at hoc ⊢
    unfold okC at hoc
    rw [List.all_cons, Bool.and_eq_true] at hoc
    have hpl := put_len l cs[i]
    refine Ev.step (fun k => by rw [cambiumref04_Apply.l0]) (Ev.ifp (by omega) (Ev.ifp (by omega) (Ev.ifp (by omega) ?_)))
    rw [rdc_get cs i hlt]
    refine Ev.bind (done_f ha cs[i] (by omega)) ?_
    rw [w64 (by omega) (by omega)]
    exact ih (i + 1) (by omega) (put l cs[i]) (put_ok ho hoc.1) hoc.2 (by omega)
theorem refApply (l : List It) (cs : List Ch) (hb : l.length + cs.length ≤ 4398046511000) : Ev (fun k => cambiumref04_Apply.f k l cs) (aplS l cs) := by
  unfold cambiumref04_Apply.f
  refine Ev.bind (refCheck l (by omega)) ?_
  unfold aplS
  cases ho : okL l with
  | false =>
    refine Ev.ifn (by decide) ?_
    refine Ev.step (fun k => by rw [cambiumref04_Apply.j0]) ?_
    exact Ev.ifp rfl (Ev.const rfl)
  | true =>
    refine Ev.ifp rfl (Ev.bind (refCheckC cs (by omega)) ?_)
    refine Ev.step (fun k => by rw [cambiumref04_Apply.j0]) ?_
    cases hc : okC cs with
    | false => exact Ev.ifp rfl (Ev.const rfl)
    | true =>
      refine Ev.ifn (by decide) (Ev.bindc rfl (Ev.ifp (by simp only [List.length_nil]; omega) ?_))
      exact refApl_l0 cs (by omega) cs.length 0 (by omega) l ho (by simpa using hc) hb
/-- The reference's: what is left of the first list, then the loop over the second. -/
theorem refDiff_l2 (a : List It) (ha : a.length ≤ 3518437208883) : ∀ d i : Nat, a.length = i + d → ∀ out : List Ch, out.length + d ≤ 3518437208883 → Ev (fun k => cambiumref04_Diff.l2 k a out (i : Int)) (out ++ (a.drop i).map dl, 0) := by
  intro d
  induction d with
  | zero =>
    intro i hi out hb
    refine Ev.step (fun k => by rw [cambiumref04_Diff.l2]) (Ev.ifn (by omega) (Ev.const ?_))
    rw [List.drop_of_length_le (by omega)]; simp
  | succ d ih =>
    intro i hi out hb
    have hlt : i < a.length := by omega
    refine Ev.step (fun k => by rw [cambiumref04_Diff.l2]) (Ev.ifp (by omega) (Ev.ifp (by omega) (Ev.ifp (by omega) ?_)))
    rw [rd_get a i hlt, w64 (by omega) (by omega), List.drop_eq_getElem_cons hlt]
    refine Ev.val (ih (i + 1) (by omega) _ (by simp only [List.length_append, List.length_cons, List.length_nil, if_true, Bool.false_eq_true, if_false]; omega)) ?_
    rw [List.append_assoc]; rfl
theorem refDiff_l0 (a b : List It) (ha : a.length + b.length ≤ 3518437208883) : ∀ m i j : Nat, i ≤ a.length → j ≤ b.length → (a.length - i) + (b.length - j) ≤ m → ∀ out : List Ch, out.length + m ≤ 3518437208883 →
    Ev (fun k => cambiumref04_Diff.l0 k a out (i : Int) b (b.length : Int) (j : Int)) (out ++ diffL (a.drop i) (b.drop j), 0) ∧
    ∀ h : j < b.length, Ev (fun k => cambiumref04_Diff.l1 k a out (i : Int) b (b.length : Int) (j : Int) (b[j]).f0 (b[j]).f1) (out ++ diffL (a.drop i) (b.drop j), 0) := by
  intro m
  induction m with
  | zero =>
    intro i j hi hj hm out hb
    refine ⟨?_, fun h => by omega⟩
    refine Ev.step (fun k => by rw [cambiumref04_Diff.l0]) (Ev.ifn (by omega) (Ev.val (refDiff_l2 a (by omega) (a.length - i) i (by omega) out (by omega)) ?_))
    rw [List.drop_of_length_le (l := b) (by omega), diffL]
  | succ m ih =>
    intro i j hi hj hm out hb
    have add : ∀ (i' : Nat) (h : j < b.length), i' ≤ a.length → (a.length - i') + (b.length - (j + 1)) ≤ m → Ev (fun k => cambiumref04_Diff.l0 k a (out ++ [ad b[j]]) (i' : Int) b (b.length : Int) (wrap64 ((j : Int) + 1))) (out ++ (ad b[j] :: diffL (a.drop i') (b.drop (j + 1))), 0) := fun i' h hi' hm' => by
      rw [w64 (by omega) (by omega)]
      refine Ev.val (ih i' (j + 1) hi' (by omega) hm' (out ++ [ad b[j]]) (by simp only [List.length_append, List.length_cons, List.length_nil, if_true, Bool.false_eq_true, if_false]; omega)).1 ?_
      rw [List.append_assoc]; rfl
    have l1 : ∀ h : j < b.length, Ev (fun k => cambiumref04_Diff.l1 k a out (i : Int) b (b.length : Int) (j : Int) (b[j]).f0 (b[j]).f1) (out ++ diffL (a.drop i) (b.drop j), 0) := by
      intro h
      refine Ev.step (fun k => by rw [cambiumref04_Diff.l1]) ?_
      rw [List.drop_eq_getElem_cons h]
      have eb : (⟨(b[j]).f0, true, (b[j]).f1⟩ : Ch) = ad b[j] := rfl
      rcases Nat.lt_or_ge i a.length with hlt | hge
      · rw [List.drop_eq_getElem_cons hlt, rd_get a i hlt, diffL]
        have hw : wrap64 ((i : Int) + 1) = ((i + 1 : Nat) : Int) := by rw [w64 (by omega) (by omega)]; omega
        have hw2 : wrap64 (((i + 1 : Nat) : Int) - 1) = (i : Int) := by rw [w64 (by omega) (by omega)]; omega
        refine Ev.ifp (by omega) (Ev.ifp (by omega) (Ev.ite (fun hl => Ev.ifp (by omega) ?_) (fun hl => ?_)))
        · rw [if_pos hl, hw]
          refine Ev.val ((ih (i + 1) j (by omega) hj (by omega) (out ++ [dl a[i]]) (by simp only [List.length_append, List.length_cons, List.length_nil, if_true, Bool.false_eq_true, if_false]; omega)).2 h) ?_
          rw [List.append_assoc, ← List.drop_eq_getElem_cons h]; rfl
        · rw [if_neg hl]
          refine Ev.step (fun k => by rw [cambiumref04_Diff.j3]) (Ev.ifp (by omega) (Ev.ifp (by omega) (Ev.step (fun k => by rw [cambiumref04_Diff.j4]) ?_)))
          rw [rd_get a i hlt, hw, hw2, rd_get a i hlt, eb]
          by_cases hk : key a[i] = key b[j]
          · rw [if_pos hk]
            refine Ev.ifp (by simpa using hk) (Ev.ifp (by omega) (Ev.ifp (by omega) (Ev.ite (fun hv => ?_) (fun hv => Ev.ifp (by omega) ?_))))
            · rw [if_pos hv, w64 (by omega) (by omega)]
              exact (ih (i + 1) (j + 1) (by omega) (by omega) (by omega) out (by omega)).1
            · rw [if_neg hv]
              exact add (i + 1) h (by omega) (by omega)
          · rw [if_neg hk]
            refine Ev.ifn (by simpa using hk) (Ev.ifp (by omega) ?_)
            refine Ev.val (add i h hi (by omega)) ?_
            rw [List.drop_eq_getElem_cons hlt]
      · refine Ev.ifn (by omega) (Ev.step (fun k => by rw [cambiumref04_Diff.j3]) (Ev.ifn (by omega) (Ev.step (fun k => by rw [cambiumref04_Diff.j4]) (Ev.ifn (by simp) (Ev.ifp (by omega) ?_)))))
        rw [eb]
        refine Ev.val (add i h hi (by omega)) ?_
        rw [List.drop_of_length_le (l := a) hge, diffL]
    refine ⟨?_, l1⟩
    rcases Nat.lt_or_ge j b.length with hlt | hge
    · refine Ev.step (fun k => by rw [cambiumref04_Diff.l0]) (Ev.ifp (by omega) (Ev.ifp (by omega) (Ev.ifp (by omega) ?_)))
      rw [rd_get b j hlt]
      exact l1 hlt
    · refine Ev.step (fun k => by rw [cambiumref04_Diff.l0]) (Ev.ifn (by omega) (Ev.val (refDiff_l2 a (by omega) (a.length - i) i (by omega) out (by omega)) ?_))
      rw [List.drop_of_length_le (l := b) hge, diffL]
theorem refDiff (a b : List It) (hb : a.length + b.length ≤ 3518437208883) : Ev (fun k => cambiumref04_Diff.f k a b) (diffS a b) := by
  unfold cambiumref04_Diff.f
  refine Ev.bind (refCheck a (by omega)) ?_
  unfold diffS
  cases ho : okL a with
  | false =>
    refine Ev.ifn (by decide) ?_
    refine Ev.step (fun k => by rw [cambiumref04_Diff.j0]) ?_
    exact Ev.ifp rfl (Ev.const rfl)
  | true =>
    refine Ev.ifp rfl (Ev.bind (refCheck b (by omega)) ?_)
    refine Ev.step (fun k => by rw [cambiumref04_Diff.j0]) ?_
    cases hc : okL b with
    | false => exact Ev.ifp rfl (Ev.const rfl)
    | true =>
      refine Ev.ifn (by decide) ?_
      exact Ev.val (refDiff_l0 a b hb (a.length + b.length) 0 0 (by omega) (by omega) (by omega) [] (by simpa using hb)).1 (by simp)
end Go.Proofs.Ytdahmaepfmcpbaa.Z
end

section
/- ItemChanges, over lists: the law's function answers true. -/
namespace Go.Proofs.Ytdahmaepfmcpbaa.Pure
open Go.RowKit Go.Proofs.Ytdahmaepfmcpbaa Go.Proofs.Ytdahmaepfmcpbaa.Z Go.Proofs.YtdahmaepfmcpbaaW.PrintWords
set_option linter.unusedVariables false
set_option linter.unusedSimpArgs false
theorem sumI_ItemChanges (l : List It) : l.length ≤ (l.map Z.B43).sum := by
  induction l with
  | nil => simp
  | cons x l ih => simp only [List.map_cons, List.sum_cons, List.length_cons]; unfold Z.B43 at *; omega
theorem sumC_ItemChanges (l : List Ch) : l.length ≤ (l.map Z.B39).sum := by
  induction l with
  | nil => simp
  | cons x l ih => simp only [List.map_cons, List.sum_cons, List.length_cons]; unfold Z.B39 at *; omega
theorem ItemChanges : ∀ (l0 : List (S43)) (l1 : List (S39)) (l2 : List (S43)), l0.length ≤ maxLen → (∀ x ∈ l0, Z.G43 x) → l1.length ≤ maxLen → (∀ x ∈ l1, Z.G39 x) → l2.length ≤ maxLen → (∀ x ∈ l2, Z.G43 x) → ((l0.map Z.B43).sum + 1) + ((l1.map Z.B39).sum + 1) + ((l2.map Z.B43).sum + 1) ≤ 1048576 → ∃ k, Z.cambiumlaw04_ItemChanges.f k l0 l1 l2 = some true := by
  intro l cs b _ _ _ _ _ _ hs
  have h1 := sumI_ItemChanges l
  have h2 := sumC_ItemChanges cs
  have h3 := sumI_ItemChanges b
  refine Ev.rounds (g := fun k => Z.cambiumlaw04_ItemChanges.f k l cs b) ?_
  unfold cambiumlaw04_ItemChanges.f
  have ha : (aplS l cs).1.length ≤ 9223372036854775806 := by
    unfold aplS
    split
    · have := apl_len cs l; simp only; omega
    · simp
  have hd : (diffS l b).1.length ≤ 9223372036854775806 := by
    unfold diffS
    split
    · have := diffL_len l b; simp only; omega
    · simp
  refine Ev.bind (itApply l cs (by omega)) (Ev.bind (refApply l cs (by omega)) (Ev.bind (itDiff l b (by omega)) (Ev.bind (refDiff l b (by omega)) (Ev.bind lives_f (Ev.ifp rfl (Ev.bind (same_refl _ ha) (Ev.ifp rfl (Ev.ifp rfl (Ev.bind (sameC_refl _ hd) (Ev.ifp rfl (Ev.const ?_)))))))))))
  simp
end Go.Proofs.Ytdahmaepfmcpbaa.Pure
end

section
/- cambium/cambiumlaw04.ItemChanges: at every input the law's function returns true, and each argument reads afterwards as before. Conditions: none beyond the row's own, and that the arguments are of bulk at most 1048576. Printed by a program of this session (mp.py) over the pure statement in YtdahmaepfmcpbaaPureItemChanges. -/
namespace Go.Proofs.Ytdahmaepfmcpbaa.itemChanges
open Go.ChangeShapes Go.WideShapes Go.ChangeAt Go.RowKit
open Go.ChangeMaps (open_string shut_string)
set_option linter.unusedVariables false
set_option linter.unusedSimpArgs false
theorem own : ownKnob Try.prog.godebug = none := by kernel_rfl
theorem laidOut : laidOutB Try.prog = true := by kernel_rfl
set_option maxHeartbeats 1000000 in
set_option maxRecDepth 100000 in
theorem lifted (os : Os) (started : os.Started) (H : Type) (enc : TypeId × Value → H) (F : Stop.Interp) :
    ReturnsInHanded {} Try.checked os 4 .any ((Rows.OpenSpec.upto Rows.itemChangesSpec).pre6 enc Try.prog Try.f4 Rows.itemChangesUptoRow.domain false) (((Rows.OpenSpec.upto Rows.itemChangesSpec).at F).post enc Try.prog Try.f4 false true false false) := by
  refine returnsInHanded_of_cond_sized (C := Try.checked) (s := Rows.OpenSpec.upto Rows.itemChangesSpec) (k := Rows.uptoSmall) rfl own started (by kernel_rfl) Try.func4
    (OpenSpec.witness (enc := enc) (C := Try.checked) (s := Rows.OpenSpec.upto Rows.itemChangesSpec) (k := Rows.uptoSmall) rfl false ⟨#[], #[.slice none 0 0, .slice none 0 0, .slice none 0 0], []⟩ 8 (by kernel_rfl) (by kernel_rfl) (by kernel_rfl)
      (x := ([.nil, .nil, .nil], [], [])) (by kernel_rfl) rfl (by kernel_rfl)) ?_
  intro W base args ds gs before hval0 hW hcnd hk0 hwz_ _
  have hsz : (DataW.weightsEach Try.prog (Try.f4.params.toList ++ Rows.itemChangesSpec.plain.varTypes Try.prog) (ds ++ gs)).all (· ≤ reachBytes) = true := hwz_
  have hval : ∀ (j : Nat) t v, Try.f4.params[j]? = some t → args[j]? = some v → Value.okWide Try.prog W .any base t v := hval0
  have hW' := hW
  obtain ⟨p, q, hA0, hV, rfl, hfz, hnd⟩ := hW
  have hA : DataW.TrodAll enc Try.prog W 0 (fun _ => true) true Try.f4.params.toList args.toList ds p := hA0
  rw [Try.params4] at hA hval hsz
  obtain ⟨v0, vs0, d0, ds0, p0, q0, hargs, rfl, rfl, h0, r0⟩ := trodAll_cons hA
  obtain ⟨v1, vs1, d1, ds1, p1, q1, rfl, rfl, rfl, h1, r1⟩ := trodAll_cons r0
  obtain ⟨v2, vs2, d2, ds2, p2, q2, rfl, rfl, rfl, h2, r2⟩ := trodAll_cons r1
  obtain ⟨rfl, rfl, rfl⟩ := trodAll_nil r2
  obtain rfl : args = #[v0, v1, v2] := by cases args; simp_all
  obtain ⟨rfl, rfl⟩ := trodVars_none hV
  have k0 := h0
  have lt0 : ∀ x ∈ p0, x.block < W.heap.size := by obtain ⟨m, hm⟩ := k0; exact DataW.trod_lt m _ _ _ hm
  obtain ⟨a0, len0, cap0, rfl⟩ := okWide_slice Try.underlying22 (hval 0 22 v0 rfl rfl)
  obtain ⟨fuel0, hf0⟩ := h0
  obtain ⟨A0, c0, l0, hcs0, hlc0, hcm0, hC0, hG0, hB0, hx0⟩ := Z.Opens.row Try.underlying22 Z.opens43 (of_decide_eq_true (by kernel_rfl)) hf0
  simp only [Value.cells, List.cons.injEq, Value.slice.injEq, and_true] at hcs0
  obtain ⟨rfl, rfl, rfl⟩ := hcs0
  have hlm0 : l0.length ≤ maxLen := Nat.le_trans hlc0 hcm0
  have k1 := h1
  have lt1 : ∀ x ∈ p1, x.block < W.heap.size := by obtain ⟨m, hm⟩ := k1; exact DataW.trod_lt m _ _ _ hm
  obtain ⟨a1, len1, cap1, rfl⟩ := okWide_slice Try.underlying32 (hval 1 32 v1 rfl rfl)
  obtain ⟨fuel1, hf1⟩ := h1
  obtain ⟨A1, c1, l1, hcs1, hlc1, hcm1, hC1, hG1, hB1, hx1⟩ := Z.Opens.row Try.underlying32 Z.opens39 (of_decide_eq_true (by kernel_rfl)) hf1
  simp only [Value.cells, List.cons.injEq, Value.slice.injEq, and_true] at hcs1
  obtain ⟨rfl, rfl, rfl⟩ := hcs1
  have hlm1 : l1.length ≤ maxLen := Nat.le_trans hlc1 hcm1
  have k2 := h2
  have lt2 : ∀ x ∈ p2, x.block < W.heap.size := by obtain ⟨m, hm⟩ := k2; exact DataW.trod_lt m _ _ _ hm
  obtain ⟨a2, len2, cap2, rfl⟩ := okWide_slice Try.underlying22 (hval 2 22 v2 rfl rfl)
  obtain ⟨fuel2, hf2⟩ := h2
  obtain ⟨A2, c2, l2, hcs2, hlc2, hcm2, hC2, hG2, hB2, hx2⟩ := Z.Opens.row Try.underlying22 Z.opens43 (of_decide_eq_true (by kernel_rfl)) hf2
  simp only [Value.cells, List.cons.injEq, Value.slice.injEq, and_true] at hcs2
  obtain ⟨rfl, rfl, rfl⟩ := hcs2
  have hlm2 : l2.length ≤ maxLen := Nat.le_trans hlc2 hcm2
  have hbk : ((l0.map Z.B43).sum + 1) + ((l1.map Z.B39).sum + 1) + ((l2.map Z.B43).sum + 1) ≤ 1048576 := by
    have hb_ := of_decide_eq_true hk0
    simp only [Rows.uptoBulkAll, Rows.uptoBulk, List.append_nil, Array.length_toList, List.map_cons, List.map_nil] at hb_
    (try simp only [show ∀ s : ByteArray, s.data.size = s.size from fun _ => rfl] at hb_)
    (try dsimp only at hB0)
    (try dsimp only at hB1)
    (try dsimp only at hB2)
    omega
  have hP := Pure.ItemChanges l0 l1 l2 hlm0 hG0 hlm1 hG1 hlm2 hG2 hbk
  obtain ⟨k, hk⟩ := hP
  refine (Z.cambiumlaw04_ItemChanges.calls k _ _ l0 _ _ l1 _ _ l2 true W hC0 hlc0 hC1 hlc1 hC2 hlc2 hk).mono fun e W' ⟨he, bel0⟩ => ?_
  have bel : Below W.heap.size W W' := bel0
  subst he
  exact ⟨_, rfl, _, _, _, [], _, [], hW', trodAll_mk1 (shut_bool Try.underlying4 _), (trodAll_cons_mk (Below.trod laidOut (by kernel_rfl) (of_decide_eq_true (by kernel_rfl)) k0 bel lt0) (trodAll_cons_mk (Below.trod laidOut (by kernel_rfl) (of_decide_eq_true (by kernel_rfl)) k1 bel lt1) (trodAll_cons_mk (Below.trod laidOut (by kernel_rfl) (of_decide_eq_true (by kernel_rfl)) k2 bel lt2) trodAll_mk0))), rfl, bel.frame _, fun h => by cases h⟩
theorem over : Rows.itemChangesUptoRow.holds Try.pinned (Rows.OpenSpec.upto Rows.itemChangesSpec) :=
  OpenClaim.holds_of_cond 4 Try.f4 rfl rfl rfl rfl rfl rfl rfl ⟨rfl, rfl, rfl, rfl, rfl⟩ rfl rfl rfl rfl rfl (by kernel_rfl) Try.func4 (by kernel_rfl)
    (of_decide_eq_true (by kernel_rfl)) (by unfold Func.isWrapper; first | (rw [if_pos (by decide +kernel)]; kernel_rfl) | (rw [if_neg (by decide +kernel)]; exact ⟨rfl, rfl⟩))
    (fun os started H enc _ F => lifted os started H enc F)
end Go.Proofs.Ytdahmaepfmcpbaa.itemChanges
namespace Go.Proofs.Ytdahmaepfmcpbaa
theorem itemChanges_holds : Rows.ItemChangesUptoSaid := itemChanges.over
#print axioms itemChanges_holds
end Go.Proofs.Ytdahmaepfmcpbaa
end
