/- DevCrashes: at every input the law's function returns true and leaves its arguments as they were; no condition beyond the row's own. Part 4 of 4: this session's own texts, laid together. -/
import Derived.Test.YtcphflfjhkeooaaDoorMB1
import Derived.Test.YtcphflfjhkeooaaDoorMDevCrashes3
import Derived.Test.YtcphflfjhkeooaaDoorMB2
import Derived.Test.YtcphflfjhkeooaaDoorCards
import Derived.Test.YtcphflfjhkeooaaDoorTie
import Derived.Deep.DeepHandedRow
import Derived.WalkKit
import Derived.ProofKit
import Derived.OpenShut
import Derived.ShutString
import Derived.ChangeOld
import Derived.Below
import Derived.SizedLaws
import Derived.Carry
section
-- Printed by a program of this session (mp.py) out of the translation.
namespace Go.Proofs.YtcphflfjhkeooaaDoor.Z
open Go.RowKit Go.Proofs.YtcphflfjhkeooaaDoorW.PrintWords Go.Proofs.YtcphflfjhkeooaaDoorW.PrintLast Go.Proofs.YtcphflfjhkeooaaDoorW.PrintMore
attribute [local go_sem] max2_int min2_int max_two min_two max_three min_three max_four min_four   -- for this text's walks alone
set_option linter.unusedVariables false
set_option linter.unusedSimpArgs false

/-! ### cambiumref03_Write: function 14 -/
def cambiumref03_Write.f (k : Nat) (a0_0 : Int) (l0_1 : List (S39)) (l0_2 : List (S39)) (a0_3 : Bool) (a0_4 : Int) (a1 : Int) (a2 : ByteArray) : Option (Int × (List (S39)) × (List (S39)) × Bool × Int × Int) := (cambiumref03_Check.f k a0_0 l0_1 l0_2 a0_3 a0_4).bind fun t143 => (if t143 = 0 then ((cambiumref03_Copy.f a0_0 l0_1 l0_2 a0_3 a0_4).bind fun bt144 => (if bt144.2.2.2.1 = true then (some (bt144.1, bt144.2.1, bt144.2.2.1, bt144.2.2.2.1, bt144.2.2.2.2, 17)) else (if a1 ≥ bt144.1 then (some (bt144.1, bt144.2.1, bt144.2.2.1, bt144.2.2.2.1, bt144.2.2.2.2, 1)) else (if (a2.size : Int) > 512 then (some (bt144.1, bt144.2.1, bt144.2.2.1, bt144.2.2.2.1, bt144.2.2.2.2, 2)) else (if (bt144.2.2.1.length : Int) ≥ 16384 then (some (bt144.1, bt144.2.1, bt144.2.2.1, bt144.2.2.2.1, bt144.2.2.2.2, 8)) else ((cambiumref03_Cut.f k a2).bind fun t153 => (if bt144.2.2.1.length < 5864062014805 then ((some (bt144.2.2.1 ++ [(⟨a1, t153⟩ : S39)] : List (S39))).bind fun y154 => (if bt144.2.2.2.2 = 0 then (some (bt144.1, bt144.2.1, y154, true, bt144.2.2.2.2, 17)) else (if bt144.2.2.2.2 > 0 then (some (bt144.1, bt144.2.1, y154, bt144.2.2.2.1, wrap64 (bt144.2.2.2.2 - 1), 0)) else (some (bt144.1, bt144.2.1, y154, bt144.2.2.2.1, bt144.2.2.2.2, 0))))) else (none)))))))) else (some (0, ([] : List (S39)), ([] : List (S39)), false, 0, 7)))
theorem cambiumref03_Write.mono : ∀ a0 a1 a2 a3 a4 a5 a6 k, LeO (cambiumref03_Write.f k a0 a1 a2 a3 a4 a5 a6) (cambiumref03_Write.f (k + 1) a0 a1 a2 a3 a4 a5 a6) := by
  intro a0 a1 a2 a3 a4 a5 a6 k
  unfold cambiumref03_Write.f
  repeat' first
      | (with_reducible exact cambiumref03_Check.mono _ _ _ _ _ _)
      | (with_reducible exact cambiumref03_Cut.mono _ _)
      | (with_reducible exact LeO.refl _)
      | (with_reducible exact LeO.none _)
      | (with_reducible refine LeO.ite ?_ ?_)
      | (with_reducible refine LeO.bind ?_ (fun _ => ?_))
      | exact cambiumref03_Check.mono _ _ _ _ _ _
      | exact cambiumref03_Cut.mono _ _
      | exact LeO.none _
      | refine LeO.ite ?_ ?_
      | refine LeO.bind ?_ (fun _ => ?_)
def cambiumref03_Write.T12 : Bool × List (List Nat × List Nat) := (true, [([], []), ([0], [0]), ([], []), ([], []), ([3], [3]), ([2, 4], [2, 4]), ([5], [5]), ([1, 6, 4], [1, 6]), ([0, 1, 2, 3, 4, 5, 6, 7], []), ([8, 7, 7, 0, 1, 2, 3, 4, 5, 6, 7], [7, 8])])
def cambiumref03_Write.B12 : List Nat := [0, 1, 0, 0, 8, 28, 60, 127, 255, 511]
theorem cambiumref03_Write.tab12 : rtab .any (opsOf Tryd.f14 12) = cambiumref03_Write.T12 := by kernel_rfl
theorem cambiumref03_Write.bits12 : waitsOk cambiumref03_Write.T12.2 cambiumref03_Write.B12 = true := by kernel_rfl
set_option maxHeartbeats 8000000 in
set_option maxRecDepth 100000 in
theorem cambiumref03_Write.calls (k : Nat) (a0_0 : Int) (A0_1 : Option Addr) (c0_1 : Nat) (l0_1 : List (S39)) (A0_2 : Option Addr) (c0_2 : Nat) (l0_2 : List (S39)) (a0_3 : Bool) (a0_4 : Int) (a1 : Int) (a2 : ByteArray) (r1 : Int) (r2 : List (S39)) (r3 : List (S39)) (r4 : Bool) (r5 : Int) (r6 : Int) (w : World) (hr0_1 : Kd.C k39 w A0_1 l0_1.length l0_1) (hc0_1 : l0_1.length ≤ c0_1) (hr0_2 : Kd.C k39 w A0_2 l0_2.length l0_2) (hc0_2 : l0_2.length ≤ c0_2) (h : cambiumref03_Write.f k a0_0 l0_1 l0_2 a0_3 a0_4 a1 a2 = some (r1, r2, r3, r4, r5, r6)) :
    Calls Tryd.prog 14 #[.agg #[.int .u32 a0_0, .slice A0_1 l0_1.length c0_1, .slice A0_2 l0_2.length c0_2, .bool a0_3, .int .i64 a0_4], .int .u32 a1, .string a2] w fun e w' => ∃ v1_ v2_ : Value, e = .returned (.tuple #[.agg #[.int .u32 r1, v1_, v2_, .bool r4, .int .i64 r5], .int .i64 r6]) ∧ Kd.R k39 39 w' w.heap.size (fun k_ => some k_ ≠ (v2_ : Value).ownBlock) v1_ r2 ∧ Kd.R k39 39 w' w.heap.size (fun k_ => some k_ ≠ (v1_ : Value).ownBlock) v2_ r3 ∧ Below w.heap.size w w' := by
  have hu25 := Tryd.underlying25
  have hu39 := Tryd.underlying39
  have HR0_1 := Aside0.mk hr0_1
  have HC0_1 := Aside0.mk hc0_1
  clear hr0_1 hc0_1
  have HR0_2 := Aside0.mk hr0_2
  have HC0_2 := Aside0.mk hc0_2
  clear hr0_2 hc0_2
  have HB := Aside0.mk (Below.refl w.heap.size w)
  have H : ((cambiumref03_Check.f k a0_0 l0_1 l0_2 a0_3 a0_4).bind fun t143 => (if t143 = 0 then ((cambiumref03_Copy.f a0_0 l0_1 l0_2 a0_3 a0_4).bind fun bt144 => (if bt144.2.2.2.1 = true then (some (bt144.1, bt144.2.1, bt144.2.2.1, bt144.2.2.2.1, bt144.2.2.2.2, 17)) else (if a1 ≥ bt144.1 then (some (bt144.1, bt144.2.1, bt144.2.2.1, bt144.2.2.2.1, bt144.2.2.2.2, 1)) else (if (a2.size : Int) > 512 then (some (bt144.1, bt144.2.1, bt144.2.2.1, bt144.2.2.2.1, bt144.2.2.2.2, 2)) else (if (bt144.2.2.1.length : Int) ≥ 16384 then (some (bt144.1, bt144.2.1, bt144.2.2.1, bt144.2.2.2.1, bt144.2.2.2.2, 8)) else ((cambiumref03_Cut.f k a2).bind fun t153 => (if bt144.2.2.1.length < 5864062014805 then ((some (bt144.2.2.1 ++ [(⟨a1, t153⟩ : S39)] : List (S39))).bind fun y154 => (if bt144.2.2.2.2 = 0 then (some (bt144.1, bt144.2.1, y154, true, bt144.2.2.2.2, 17)) else (if bt144.2.2.2.2 > 0 then (some (bt144.1, bt144.2.1, y154, bt144.2.2.2.1, wrap64 (bt144.2.2.2.2 - 1), 0)) else (some (bt144.1, bt144.2.1, y154, bt144.2.2.2.1, bt144.2.2.2.2, 0))))) else (none)))))))) else (some (0, ([] : List (S39)), ([] : List (S39)), false, 0, 7)))) = some (r1, r2, r3, r4, r5, r6) := h
  clear h
  replace H := Option.bind_eq_some_iff.mp H
  obtain ⟨t143, A40, H⟩ := H
  replace H : (if t143 = 0 then ((cambiumref03_Copy.f a0_0 l0_1 l0_2 a0_3 a0_4).bind fun bt144 => (if bt144.2.2.2.1 = true then (some (bt144.1, bt144.2.1, bt144.2.2.1, bt144.2.2.2.1, bt144.2.2.2.2, 17)) else (if a1 ≥ bt144.1 then (some (bt144.1, bt144.2.1, bt144.2.2.1, bt144.2.2.2.1, bt144.2.2.2.2, 1)) else (if (a2.size : Int) > 512 then (some (bt144.1, bt144.2.1, bt144.2.2.1, bt144.2.2.2.1, bt144.2.2.2.2, 2)) else (if (bt144.2.2.1.length : Int) ≥ 16384 then (some (bt144.1, bt144.2.1, bt144.2.2.1, bt144.2.2.2.1, bt144.2.2.2.2, 8)) else ((cambiumref03_Cut.f k a2).bind fun t153 => (if bt144.2.2.1.length < 5864062014805 then ((some (bt144.2.2.1 ++ [(⟨a1, t153⟩ : S39)] : List (S39))).bind fun y154 => (if bt144.2.2.2.2 = 0 then (some (bt144.1, bt144.2.1, y154, true, bt144.2.2.2.2, 17)) else (if bt144.2.2.2.2 > 0 then (some (bt144.1, bt144.2.1, y154, bt144.2.2.2.1, wrap64 (bt144.2.2.2.2 - 1), 0)) else (some (bt144.1, bt144.2.1, y154, bt144.2.2.2.1, bt144.2.2.2.2, 0))))) else (none)))))))) else (some (0, ([] : List (S39)), ([] : List (S39)), false, 0, 7))) = some (r1, r2, r3, r4, r5, r6) := H
  have A4 := Aside0.mk A40
  clear A40
  by_cases c5 : t143 = 0
  · rw [if_pos c5] at H
    have c5b0 : (t143 == 0) = true := beq_iff_eq.mpr c5
    have c5b1 : (t143 != 0) = false := bne_eq_false_iff_eq.mpr c5
    clear c5
    replace H := Option.bind_eq_some_iff.mp H
    obtain ⟨⟨t144, t145, t148, t151, t152⟩, A60, H⟩ := H
    replace H : (if t151 = true then (some (t144, t145, t148, t151, t152, 17)) else (if a1 ≥ t144 then (some (t144, t145, t148, t151, t152, 1)) else (if (a2.size : Int) > 512 then (some (t144, t145, t148, t151, t152, 2)) else (if (t148.length : Int) ≥ 16384 then (some (t144, t145, t148, t151, t152, 8)) else ((cambiumref03_Cut.f k a2).bind fun t153 => (if t148.length < 5864062014805 then ((some (t148 ++ [(⟨a1, t153⟩ : S39)] : List (S39))).bind fun y154 => (if t152 = 0 then (some (t144, t145, y154, true, t152, 17)) else (if t152 > 0 then (some (t144, t145, y154, t151, wrap64 (t152 - 1), 0)) else (some (t144, t145, y154, t151, t152, 0))))) else (none))))))) = some (r1, r2, r3, r4, r5, r6) := H
    have A6 := Aside0.mk A60
    clear A60
    by_cases c7 : t151 = true
    · subst c7
      have H1 : (some (t144, t145, t148, true, t152, 17)) = some (r1, r2, r3, r4, r5, r6) := by rw [if_pos rfl] at H; exact H
      clear H
      have H := H1
      clear H1
      simp only [Option.some.injEq, Prod.mk.injEq] at H
      obtain ⟨rfl, rfl, rfl, rfl, rfl, rfl⟩ := H
      go_enter Tryd.func14, Tryd.ntmps14
      go_wp2_with (first | ((with_reducible refine gate_dst (N := 3) rfl ?_); refine bx_ (N := 3) (cs := #[.int .u32 a0_0, .slice A0_1 l0_1.length c0_1, .slice A0_2 l0_2.length c0_2, .bool a0_3, .int .i64 a0_4]) (t := 25) ?_; intro gb141 hg w8 hbox hb; have BK141 := Aside0.mk (hbox); have GW141 := ge_ hg; have GE141 := ge_ hg; replace HB := hb_ hb; clear hb hbox hg) | ((with_reducible refine gate_dst (N := 6) rfl ?_); refine bx_ (N := 6) (cs := #[.int .u32 0, .slice none 0 0, .slice none 0 0, .bool false, .int .i64 0]) (t := 25) ?_; intro gb142 hg w9 hbox hb; have BK142 := Aside0.mk (hbox); have GW142 := ge_ hg; have GE142 := ge_ hg; have NB141_142 := nl_ BK141 hg; have NB142_141 := ng_ BK141 hg; replace BK141 := kb_ BK141 hb; replace HB := hb_ hb; clear hb hbox hg; have hnb10 := NB141_142.out; have hnc10 := NB142_141.out; obtain ⟨hcz11_0, hcz11_1, hcz11_2, hcz11_3, hcz11_4⟩ := cl5_ BK141; obtain ⟨hfz11_0, hfz11_1, hfz11_2, hfz11_3, hfz11_4⟩ := fz5_ BK141) | ((with_reducible refine gate_callee (f := 22) rfl ?_); refine gl_ (some 9) Tryd.func22 #[.agg #[.int .u32 a0_0, .slice A0_1 l0_1.length c0_1, .slice A0_2 l0_2.length c0_2, .bool a0_3, .int .i64 a0_4]] ?_; (with_reducible refine (cambiumref03_Check.calls k a0_0 _ _ l0_1 _ _ l0_2 a0_3 a0_4 t143 _ ?side1 ?side2 ?side3 ?side4 A4.out).mono ?_); (case side1 => exact cb_ HR0_1); (case side2 => exact HC0_1.out); (case side3 => exact cb_ HR0_2); (case side4 => exact HC0_2.out); rintro e w12 ⟨rfl, hb⟩; refine ⟨_, rfl, ?_⟩; replace BK141 := kb_ BK141 hb; replace BK142 := kb_ BK142 hb; replace HB := hb_ hb; (try clear hb); (try clear hb2); (try clear hk); (try clear hi); obtain ⟨hcz13_0, hcz13_1, hcz13_2, hcz13_3, hcz13_4⟩ := cl5_ BK141; obtain ⟨hfz13_0, hfz13_1, hfz13_2, hfz13_3, hfz13_4⟩ := fz5_ BK141) | ((with_reducible refine gate_callee (f := 12) rfl ?_); refine gl_ (some 13) Tryd.func12 #[.agg #[.int .u32 a0_0, .slice A0_1 l0_1.length c0_1, .slice A0_2 l0_2.length c0_2, .bool a0_3, .int .i64 a0_4]] ?_; (with_reducible refine (cambiumref03_Copy.calls a0_0 _ _ l0_1 _ _ l0_2 a0_3 a0_4 t144 t145 t148 true t152 _ ?side1 ?side2 ?side3 ?side4 A6.out).mono ?_); (case side1 => exact cb_ HR0_1); (case side2 => exact HC0_1.out); (case side3 => exact cb_ HR0_2); (case side4 => exact HC0_2.out); rintro e w14 ⟨v146, v149, rfl, ho0, ho1, hb⟩; refine ⟨_, rfl, ?_⟩; have HO147 := rl_ ho0; have HO150 := rl_ ho1; replace BK141 := kb_ BK141 hb; replace BK142 := kb_ BK142 hb; replace HB := hb_ hb; (try clear hb); (try clear hb2); (try clear hk); (try clear hi); (try clear ho0); (try clear ho1); obtain ⟨hcz15_0, hcz15_1, hcz15_2, hcz15_3, hcz15_4⟩ := cl5_ BK141; obtain ⟨hfz15_0, hfz15_1, hfz15_2, hfz15_3, hfz15_4⟩ := fz5_ BK141; obtain ⟨Ao16, co16, eo16⟩ := Kd.R_slice HO147.out; subst eo16; obtain ⟨Ao17, co17, eo17⟩ := Kd.R_slice HO150.out; subst eo17; obtain ⟨hcz18_0, hcz18_1, hcz18_2, hcz18_3, hcz18_4⟩ := cl5_ BK142; obtain ⟨hfz18_0, hfz18_1, hfz18_2, hfz18_3, hfz18_4⟩ := fz5_ BK142))
      refine bodyPost_ret (results_ct rfl _ _ gb142 25 #[.int .u32 t144, .slice Ao16 t145.length co16, .slice Ao17 t148.length co17, .bool true, .int .i64 t152] (0, 0) _ rfl (bs_) Tryd.underlying25 rfl (by kernel_rfl)) rfl ?_
      exact ⟨_, _, by first | rfl | (simp [errW_none, errW_some] <;> rfl) | (simp [*, errW_none, errW_some] <;> rfl), rw_ HO147, rw_ HO150, bel_⟩
    replace c7 := Bool.eq_false_iff.mpr c7
    subst c7
    have H1 : (if a1 ≥ t144 then (some (t144, t145, t148, false, t152, 1)) else (if (a2.size : Int) > 512 then (some (t144, t145, t148, false, t152, 2)) else (if (t148.length : Int) ≥ 16384 then (some (t144, t145, t148, false, t152, 8)) else ((cambiumref03_Cut.f k a2).bind fun t153 => (if t148.length < 5864062014805 then ((some (t148 ++ [(⟨a1, t153⟩ : S39)] : List (S39))).bind fun y154 => (if t152 = 0 then (some (t144, t145, y154, true, t152, 17)) else (if t152 > 0 then (some (t144, t145, y154, false, wrap64 (t152 - 1), 0)) else (some (t144, t145, y154, false, t152, 0))))) else (none)))))) = some (r1, r2, r3, r4, r5, r6) := by rw [if_neg (show ¬ (false = true) by decide)] at H; exact H
    clear H
    have H := H1
    clear H1
    by_cases c19 : a1 ≥ t144
    · rw [if_pos c19] at H
      have c19b0 : decide (t144 ≤ a1) = true := decide_eq_true c19
      clear c19
      simp only [Option.some.injEq, Prod.mk.injEq] at H
      obtain ⟨rfl, rfl, rfl, rfl, rfl, rfl⟩ := H
      go_enter Tryd.func14, Tryd.ntmps14
      go_wp2_with (first | ((with_reducible refine gate_dst (N := 3) rfl ?_); refine bx_ (N := 3) (cs := #[.int .u32 a0_0, .slice A0_1 l0_1.length c0_1, .slice A0_2 l0_2.length c0_2, .bool a0_3, .int .i64 a0_4]) (t := 25) ?_; intro gb141 hg w20 hbox hb; have BK141 := Aside0.mk (hbox); have GW141 := ge_ hg; have GE141 := ge_ hg; replace HB := hb_ hb; clear hb hbox hg) | ((with_reducible refine gate_dst (N := 6) rfl ?_); refine bx_ (N := 6) (cs := #[.int .u32 0, .slice none 0 0, .slice none 0 0, .bool false, .int .i64 0]) (t := 25) ?_; intro gb142 hg w21 hbox hb; have BK142 := Aside0.mk (hbox); have GW142 := ge_ hg; have GE142 := ge_ hg; have NB141_142 := nl_ BK141 hg; have NB142_141 := ng_ BK141 hg; replace BK141 := kb_ BK141 hb; replace HB := hb_ hb; clear hb hbox hg; have hnb22 := NB141_142.out; have hnc22 := NB142_141.out; obtain ⟨hcz23_0, hcz23_1, hcz23_2, hcz23_3, hcz23_4⟩ := cl5_ BK141; obtain ⟨hfz23_0, hfz23_1, hfz23_2, hfz23_3, hfz23_4⟩ := fz5_ BK141) | ((with_reducible refine gate_callee (f := 22) rfl ?_); refine gl_ (some 9) Tryd.func22 #[.agg #[.int .u32 a0_0, .slice A0_1 l0_1.length c0_1, .slice A0_2 l0_2.length c0_2, .bool a0_3, .int .i64 a0_4]] ?_; (with_reducible refine (cambiumref03_Check.calls k a0_0 _ _ l0_1 _ _ l0_2 a0_3 a0_4 t143 _ ?side1 ?side2 ?side3 ?side4 A4.out).mono ?_); (case side1 => exact cb_ HR0_1); (case side2 => exact HC0_1.out); (case side3 => exact cb_ HR0_2); (case side4 => exact HC0_2.out); rintro e w24 ⟨rfl, hb⟩; refine ⟨_, rfl, ?_⟩; replace BK141 := kb_ BK141 hb; replace BK142 := kb_ BK142 hb; replace HB := hb_ hb; (try clear hb); (try clear hb2); (try clear hk); (try clear hi); obtain ⟨hcz25_0, hcz25_1, hcz25_2, hcz25_3, hcz25_4⟩ := cl5_ BK141; obtain ⟨hfz25_0, hfz25_1, hfz25_2, hfz25_3, hfz25_4⟩ := fz5_ BK141) | ((with_reducible refine gate_callee (f := 12) rfl ?_); refine gl_ (some 13) Tryd.func12 #[.agg #[.int .u32 a0_0, .slice A0_1 l0_1.length c0_1, .slice A0_2 l0_2.length c0_2, .bool a0_3, .int .i64 a0_4]] ?_; (with_reducible refine (cambiumref03_Copy.calls a0_0 _ _ l0_1 _ _ l0_2 a0_3 a0_4 t144 t145 t148 false t152 _ ?side1 ?side2 ?side3 ?side4 A6.out).mono ?_); (case side1 => exact cb_ HR0_1); (case side2 => exact HC0_1.out); (case side3 => exact cb_ HR0_2); (case side4 => exact HC0_2.out); rintro e w26 ⟨v146, v149, rfl, ho0, ho1, hb⟩; refine ⟨_, rfl, ?_⟩; have HO147 := rl_ ho0; have HO150 := rl_ ho1; replace BK141 := kb_ BK141 hb; replace BK142 := kb_ BK142 hb; replace HB := hb_ hb; (try clear hb); (try clear hb2); (try clear hk); (try clear hi); (try clear ho0); (try clear ho1); obtain ⟨hcz27_0, hcz27_1, hcz27_2, hcz27_3, hcz27_4⟩ := cl5_ BK141; obtain ⟨hfz27_0, hfz27_1, hfz27_2, hfz27_3, hfz27_4⟩ := fz5_ BK141; obtain ⟨Ao28, co28, eo28⟩ := Kd.R_slice HO147.out; subst eo28; obtain ⟨Ao29, co29, eo29⟩ := Kd.R_slice HO150.out; subst eo29; obtain ⟨hcz30_0, hcz30_1, hcz30_2, hcz30_3, hcz30_4⟩ := cl5_ BK142; obtain ⟨hfz30_0, hfz30_1, hfz30_2, hfz30_3, hfz30_4⟩ := fz5_ BK142))
      refine bodyPost_ret (results_ct rfl _ _ gb142 25 #[.int .u32 t144, .slice Ao28 t145.length co28, .slice Ao29 t148.length co29, .bool false, .int .i64 t152] (0, 0) _ rfl (bs_) Tryd.underlying25 rfl (by kernel_rfl)) rfl ?_
      exact ⟨_, _, by first | rfl | (simp [errW_none, errW_some] <;> rfl) | (simp [*, errW_none, errW_some] <;> rfl), rw_ HO147, rw_ HO150, bel_⟩
    rw [if_neg c19] at H
    have c19b0 : decide (t144 ≤ a1) = false := decide_eq_false c19
    clear c19
    by_cases c31 : (a2.size : Int) > 512
    · rw [if_pos c31] at H
      have c31b0 : decide (512 < (a2.size : Int)) = true := decide_eq_true c31
      have c31b1 : decide (512 < a2.size) = true := decide_eq_true (by omega)
      clear c31
      simp only [Option.some.injEq, Prod.mk.injEq] at H
      obtain ⟨rfl, rfl, rfl, rfl, rfl, rfl⟩ := H
      go_enter Tryd.func14, Tryd.ntmps14
      go_wp2_with (first | ((with_reducible refine gate_dst (N := 3) rfl ?_); refine bx_ (N := 3) (cs := #[.int .u32 a0_0, .slice A0_1 l0_1.length c0_1, .slice A0_2 l0_2.length c0_2, .bool a0_3, .int .i64 a0_4]) (t := 25) ?_; intro gb141 hg w32 hbox hb; have BK141 := Aside0.mk (hbox); have GW141 := ge_ hg; have GE141 := ge_ hg; replace HB := hb_ hb; clear hb hbox hg) | ((with_reducible refine gate_dst (N := 6) rfl ?_); refine bx_ (N := 6) (cs := #[.int .u32 0, .slice none 0 0, .slice none 0 0, .bool false, .int .i64 0]) (t := 25) ?_; intro gb142 hg w33 hbox hb; have BK142 := Aside0.mk (hbox); have GW142 := ge_ hg; have GE142 := ge_ hg; have NB141_142 := nl_ BK141 hg; have NB142_141 := ng_ BK141 hg; replace BK141 := kb_ BK141 hb; replace HB := hb_ hb; clear hb hbox hg; have hnb34 := NB141_142.out; have hnc34 := NB142_141.out; obtain ⟨hcz35_0, hcz35_1, hcz35_2, hcz35_3, hcz35_4⟩ := cl5_ BK141; obtain ⟨hfz35_0, hfz35_1, hfz35_2, hfz35_3, hfz35_4⟩ := fz5_ BK141) | ((with_reducible refine gate_callee (f := 22) rfl ?_); refine gl_ (some 9) Tryd.func22 #[.agg #[.int .u32 a0_0, .slice A0_1 l0_1.length c0_1, .slice A0_2 l0_2.length c0_2, .bool a0_3, .int .i64 a0_4]] ?_; (with_reducible refine (cambiumref03_Check.calls k a0_0 _ _ l0_1 _ _ l0_2 a0_3 a0_4 t143 _ ?side1 ?side2 ?side3 ?side4 A4.out).mono ?_); (case side1 => exact cb_ HR0_1); (case side2 => exact HC0_1.out); (case side3 => exact cb_ HR0_2); (case side4 => exact HC0_2.out); rintro e w36 ⟨rfl, hb⟩; refine ⟨_, rfl, ?_⟩; replace BK141 := kb_ BK141 hb; replace BK142 := kb_ BK142 hb; replace HB := hb_ hb; (try clear hb); (try clear hb2); (try clear hk); (try clear hi); obtain ⟨hcz37_0, hcz37_1, hcz37_2, hcz37_3, hcz37_4⟩ := cl5_ BK141; obtain ⟨hfz37_0, hfz37_1, hfz37_2, hfz37_3, hfz37_4⟩ := fz5_ BK141) | ((with_reducible refine gate_callee (f := 12) rfl ?_); refine gl_ (some 13) Tryd.func12 #[.agg #[.int .u32 a0_0, .slice A0_1 l0_1.length c0_1, .slice A0_2 l0_2.length c0_2, .bool a0_3, .int .i64 a0_4]] ?_; (with_reducible refine (cambiumref03_Copy.calls a0_0 _ _ l0_1 _ _ l0_2 a0_3 a0_4 t144 t145 t148 false t152 _ ?side1 ?side2 ?side3 ?side4 A6.out).mono ?_); (case side1 => exact cb_ HR0_1); (case side2 => exact HC0_1.out); (case side3 => exact cb_ HR0_2); (case side4 => exact HC0_2.out); rintro e w38 ⟨v146, v149, rfl, ho0, ho1, hb⟩; refine ⟨_, rfl, ?_⟩; have HO147 := rl_ ho0; have HO150 := rl_ ho1; replace BK141 := kb_ BK141 hb; replace BK142 := kb_ BK142 hb; replace HB := hb_ hb; (try clear hb); (try clear hb2); (try clear hk); (try clear hi); (try clear ho0); (try clear ho1); obtain ⟨hcz39_0, hcz39_1, hcz39_2, hcz39_3, hcz39_4⟩ := cl5_ BK141; obtain ⟨hfz39_0, hfz39_1, hfz39_2, hfz39_3, hfz39_4⟩ := fz5_ BK141; obtain ⟨Ao40, co40, eo40⟩ := Kd.R_slice HO147.out; subst eo40; obtain ⟨Ao41, co41, eo41⟩ := Kd.R_slice HO150.out; subst eo41; obtain ⟨hcz42_0, hcz42_1, hcz42_2, hcz42_3, hcz42_4⟩ := cl5_ BK142; obtain ⟨hfz42_0, hfz42_1, hfz42_2, hfz42_3, hfz42_4⟩ := fz5_ BK142))
      refine bodyPost_ret (results_ct rfl _ _ gb142 25 #[.int .u32 t144, .slice Ao40 t145.length co40, .slice Ao41 t148.length co41, .bool false, .int .i64 t152] (0, 0) _ rfl (bs_) Tryd.underlying25 rfl (by kernel_rfl)) rfl ?_
      exact ⟨_, _, by first | rfl | (simp [errW_none, errW_some] <;> rfl) | (simp [*, errW_none, errW_some] <;> rfl), rw_ HO147, rw_ HO150, bel_⟩
    rw [if_neg c31] at H
    have c31b0 : decide (512 < (a2.size : Int)) = false := decide_eq_false c31
    have c31b1 : decide (512 < a2.size) = false := decide_eq_false (by omega)
    clear c31
    by_cases c43 : (t148.length : Int) ≥ 16384
    · rw [if_pos c43] at H
      have c43b0 : decide (16384 ≤ (t148.length : Int)) = true := decide_eq_true c43
      have c43b1 : decide (16384 ≤ t148.length) = true := decide_eq_true (by omega)
      clear c43
      simp only [Option.some.injEq, Prod.mk.injEq] at H
      obtain ⟨rfl, rfl, rfl, rfl, rfl, rfl⟩ := H
      go_enter Tryd.func14, Tryd.ntmps14
      go_wp2_with (first | ((with_reducible refine gate_dst (N := 3) rfl ?_); refine bx_ (N := 3) (cs := #[.int .u32 a0_0, .slice A0_1 l0_1.length c0_1, .slice A0_2 l0_2.length c0_2, .bool a0_3, .int .i64 a0_4]) (t := 25) ?_; intro gb141 hg w44 hbox hb; have BK141 := Aside0.mk (hbox); have GW141 := ge_ hg; have GE141 := ge_ hg; replace HB := hb_ hb; clear hb hbox hg) | ((with_reducible refine gate_dst (N := 6) rfl ?_); refine bx_ (N := 6) (cs := #[.int .u32 0, .slice none 0 0, .slice none 0 0, .bool false, .int .i64 0]) (t := 25) ?_; intro gb142 hg w45 hbox hb; have BK142 := Aside0.mk (hbox); have GW142 := ge_ hg; have GE142 := ge_ hg; have NB141_142 := nl_ BK141 hg; have NB142_141 := ng_ BK141 hg; replace BK141 := kb_ BK141 hb; replace HB := hb_ hb; clear hb hbox hg; have hnb46 := NB141_142.out; have hnc46 := NB142_141.out; obtain ⟨hcz47_0, hcz47_1, hcz47_2, hcz47_3, hcz47_4⟩ := cl5_ BK141; obtain ⟨hfz47_0, hfz47_1, hfz47_2, hfz47_3, hfz47_4⟩ := fz5_ BK141) | ((with_reducible refine gate_callee (f := 22) rfl ?_); refine gl_ (some 9) Tryd.func22 #[.agg #[.int .u32 a0_0, .slice A0_1 l0_1.length c0_1, .slice A0_2 l0_2.length c0_2, .bool a0_3, .int .i64 a0_4]] ?_; (with_reducible refine (cambiumref03_Check.calls k a0_0 _ _ l0_1 _ _ l0_2 a0_3 a0_4 t143 _ ?side1 ?side2 ?side3 ?side4 A4.out).mono ?_); (case side1 => exact cb_ HR0_1); (case side2 => exact HC0_1.out); (case side3 => exact cb_ HR0_2); (case side4 => exact HC0_2.out); rintro e w48 ⟨rfl, hb⟩; refine ⟨_, rfl, ?_⟩; replace BK141 := kb_ BK141 hb; replace BK142 := kb_ BK142 hb; replace HB := hb_ hb; (try clear hb); (try clear hb2); (try clear hk); (try clear hi); obtain ⟨hcz49_0, hcz49_1, hcz49_2, hcz49_3, hcz49_4⟩ := cl5_ BK141; obtain ⟨hfz49_0, hfz49_1, hfz49_2, hfz49_3, hfz49_4⟩ := fz5_ BK141) | ((with_reducible refine gate_callee (f := 12) rfl ?_); refine gl_ (some 13) Tryd.func12 #[.agg #[.int .u32 a0_0, .slice A0_1 l0_1.length c0_1, .slice A0_2 l0_2.length c0_2, .bool a0_3, .int .i64 a0_4]] ?_; (with_reducible refine (cambiumref03_Copy.calls a0_0 _ _ l0_1 _ _ l0_2 a0_3 a0_4 t144 t145 t148 false t152 _ ?side1 ?side2 ?side3 ?side4 A6.out).mono ?_); (case side1 => exact cb_ HR0_1); (case side2 => exact HC0_1.out); (case side3 => exact cb_ HR0_2); (case side4 => exact HC0_2.out); rintro e w50 ⟨v146, v149, rfl, ho0, ho1, hb⟩; refine ⟨_, rfl, ?_⟩; have HO147 := rl_ ho0; have HO150 := rl_ ho1; replace BK141 := kb_ BK141 hb; replace BK142 := kb_ BK142 hb; replace HB := hb_ hb; (try clear hb); (try clear hb2); (try clear hk); (try clear hi); (try clear ho0); (try clear ho1); obtain ⟨hcz51_0, hcz51_1, hcz51_2, hcz51_3, hcz51_4⟩ := cl5_ BK141; obtain ⟨hfz51_0, hfz51_1, hfz51_2, hfz51_3, hfz51_4⟩ := fz5_ BK141; obtain ⟨Ao52, co52, eo52⟩ := Kd.R_slice HO147.out; subst eo52; obtain ⟨Ao53, co53, eo53⟩ := Kd.R_slice HO150.out; subst eo53; obtain ⟨hcz54_0, hcz54_1, hcz54_2, hcz54_3, hcz54_4⟩ := cl5_ BK142; obtain ⟨hfz54_0, hfz54_1, hfz54_2, hfz54_3, hfz54_4⟩ := fz5_ BK142))
      refine bodyPost_ret (results_ct rfl _ _ gb142 25 #[.int .u32 t144, .slice Ao52 t145.length co52, .slice Ao53 t148.length co53, .bool false, .int .i64 t152] (0, 0) _ rfl (bs_) Tryd.underlying25 rfl (by kernel_rfl)) rfl ?_
      exact ⟨_, _, by first | rfl | (simp [errW_none, errW_some] <;> rfl) | (simp [*, errW_none, errW_some] <;> rfl), rw_ HO147, rw_ HO150, bel_⟩
    rw [if_neg c43] at H
    have c43b0 : decide (16384 ≤ (t148.length : Int)) = false := decide_eq_false c43
    have c43b1 : decide (16384 ≤ t148.length) = false := decide_eq_false (by omega)
    clear c43
    replace H := Option.bind_eq_some_iff.mp H
    obtain ⟨t153, A550, H⟩ := H
    replace H : (if t148.length < 5864062014805 then ((some (t148 ++ [(⟨a1, t153⟩ : S39)] : List (S39))).bind fun y154 => (if t152 = 0 then (some (t144, t145, y154, true, t152, 17)) else (if t152 > 0 then (some (t144, t145, y154, false, wrap64 (t152 - 1), 0)) else (some (t144, t145, y154, false, t152, 0))))) else (none)) = some (r1, r2, r3, r4, r5, r6) := H
    have A55 := Aside0.mk A550
    clear A550
    by_cases c56 : t148.length < 5864062014805
    · rw [if_pos c56] at H
      have LMc56 := Aside0.mk c56
      clear c56
      obtain ⟨y154, hy154⟩ : ∃ y_ : List (S39), y_ = (t148 ++ [(⟨a1, t153⟩ : S39)]) := ⟨_, rfl⟩
      replace H : (if t152 = 0 then (some (t144, t145, y154, true, t152, 17)) else (if t152 > 0 then (some (t144, t145, y154, false, wrap64 (t152 - 1), 0)) else (some (t144, t145, y154, false, t152, 0)))) = some (r1, r2, r3, r4, r5, r6) := by first | (rw [hy154]; with_reducible exact H) | (have H2_ := (Option.bind_some _ _).symm.trans H; rw [hy154]; with_reducible exact H2_) | (have H2_ := (Option.bind_some _ _).symm.trans H; with_reducible exact H2_) | with_reducible exact H | (rw [hy154]; exact H) | exact H
      have Ny154 := Aside0.mk hy154
      clear hy154
      by_cases c57 : t152 = 0
      · rw [if_pos c57] at H
        have c57b0 : (t152 == 0) = true := beq_iff_eq.mpr c57
        have c57b1 : (t152 != 0) = false := bne_eq_false_iff_eq.mpr c57
        clear c57
        simp only [Option.some.injEq, Prod.mk.injEq] at H
        obtain ⟨rfl, rfl, rfl, rfl, rfl, rfl⟩ := H
        go_enter Tryd.func14, Tryd.ntmps14
        try go_wp2_with (first | ((with_reducible refine gate_dst (N := 3) rfl ?_); refine bx_ (N := 3) (cs := #[.int .u32 a0_0, .slice A0_1 l0_1.length c0_1, .slice A0_2 l0_2.length c0_2, .bool a0_3, .int .i64 a0_4]) (t := 25) ?_; intro gb141 hg w58 hbox hb; have BK141 := Aside0.mk (hbox); have GW141 := ge_ hg; have GE141 := ge_ hg; replace HB := hb_ hb; clear hb hbox hg) | ((with_reducible refine gate_dst (N := 6) rfl ?_); refine bx_ (N := 6) (cs := #[.int .u32 0, .slice none 0 0, .slice none 0 0, .bool false, .int .i64 0]) (t := 25) ?_; intro gb142 hg w59 hbox hb; have BK142 := Aside0.mk (hbox); have GW142 := ge_ hg; have GE142 := ge_ hg; have NB141_142 := nl_ BK141 hg; have NB142_141 := ng_ BK141 hg; replace BK141 := kb_ BK141 hb; replace HB := hb_ hb; clear hb hbox hg; have hnb60 := NB141_142.out; have hnc60 := NB142_141.out; obtain ⟨hcz61_0, hcz61_1, hcz61_2, hcz61_3, hcz61_4⟩ := cl5_ BK141; obtain ⟨hfz61_0, hfz61_1, hfz61_2, hfz61_3, hfz61_4⟩ := fz5_ BK141) | ((with_reducible refine gate_callee (f := 22) rfl ?_); refine gl_ (some 9) Tryd.func22 #[.agg #[.int .u32 a0_0, .slice A0_1 l0_1.length c0_1, .slice A0_2 l0_2.length c0_2, .bool a0_3, .int .i64 a0_4]] ?_; (with_reducible refine (cambiumref03_Check.calls k a0_0 _ _ l0_1 _ _ l0_2 a0_3 a0_4 t143 _ ?side1 ?side2 ?side3 ?side4 A4.out).mono ?_); (case side1 => exact cb_ HR0_1); (case side2 => exact HC0_1.out); (case side3 => exact cb_ HR0_2); (case side4 => exact HC0_2.out); rintro e w62 ⟨rfl, hb⟩; refine ⟨_, rfl, ?_⟩; replace BK141 := kb_ BK141 hb; replace BK142 := kb_ BK142 hb; replace HB := hb_ hb; (try clear hb); (try clear hb2); (try clear hk); (try clear hi); obtain ⟨hcz63_0, hcz63_1, hcz63_2, hcz63_3, hcz63_4⟩ := cl5_ BK141; obtain ⟨hfz63_0, hfz63_1, hfz63_2, hfz63_3, hfz63_4⟩ := fz5_ BK141) | ((with_reducible refine gate_callee (f := 12) rfl ?_); refine gl_ (some 13) Tryd.func12 #[.agg #[.int .u32 a0_0, .slice A0_1 l0_1.length c0_1, .slice A0_2 l0_2.length c0_2, .bool a0_3, .int .i64 a0_4]] ?_; (with_reducible refine (cambiumref03_Copy.calls a0_0 _ _ l0_1 _ _ l0_2 a0_3 a0_4 t144 t145 t148 false t152 _ ?side1 ?side2 ?side3 ?side4 A6.out).mono ?_); (case side1 => exact cb_ HR0_1); (case side2 => exact HC0_1.out); (case side3 => exact cb_ HR0_2); (case side4 => exact HC0_2.out); rintro e w64 ⟨v146, v149, rfl, ho0, ho1, hb⟩; refine ⟨_, rfl, ?_⟩; have HO147 := rl_ ho0; have HO150 := rl_ ho1; replace BK141 := kb_ BK141 hb; replace BK142 := kb_ BK142 hb; replace HB := hb_ hb; (try clear hb); (try clear hb2); (try clear hk); (try clear hi); (try clear ho0); (try clear ho1); obtain ⟨hcz65_0, hcz65_1, hcz65_2, hcz65_3, hcz65_4⟩ := cl5_ BK141; obtain ⟨hfz65_0, hfz65_1, hfz65_2, hfz65_3, hfz65_4⟩ := fz5_ BK141; obtain ⟨Ao66, co66, eo66⟩ := Kd.R_slice HO147.out; subst eo66; obtain ⟨Ao67, co67, eo67⟩ := Kd.R_slice HO150.out; subst eo67))
        have n0_ : Aside0 (Kd.R k39 39 (((((w64.setCell ⟨gb141, 0, none⟩ (.int .u32 t144)).setCell ⟨gb141, 1, none⟩ (.slice Ao66 t145.length co66)).setCell ⟨gb141, 2, none⟩ (.slice Ao67 t148.length co67)).setCell ⟨gb141, 3, none⟩ (.bool false)).setCell ⟨gb141, 4, none⟩ (.int .i64 t152)) w.heap.size (fun k_ => some k_ ≠ (.slice Ao67 t148.length co67 : Value).ownBlock) (.slice Ao66 t145.length co66) t145) := ⟨rw_ HO147⟩
        have n1_ : Aside0 (Kd.R k39 39 (((((w64.setCell ⟨gb141, 0, none⟩ (.int .u32 t144)).setCell ⟨gb141, 1, none⟩ (.slice Ao66 t145.length co66)).setCell ⟨gb141, 2, none⟩ (.slice Ao67 t148.length co67)).setCell ⟨gb141, 3, none⟩ (.bool false)).setCell ⟨gb141, 4, none⟩ (.int .i64 t152)) w.heap.size (fun k_ => some k_ ≠ (.slice Ao66 t145.length co66 : Value).ownBlock) (.slice Ao67 t148.length co67) t148) := ⟨rw_ HO150⟩
        have n2_ : Aside0 ((((((w64.setCell ⟨gb141, 0, none⟩ (.int .u32 t144)).setCell ⟨gb141, 1, none⟩ (.slice Ao66 t145.length co66)).setCell ⟨gb141, 2, none⟩ (.slice Ao67 t148.length co67)).setCell ⟨gb141, 3, none⟩ (.bool false)).setCell ⟨gb141, 4, none⟩ (.int .i64 t152)).heap[gb141]? = some (.cells #[.int .u32 t144, .slice Ao66 t145.length co66, .slice Ao67 t148.length co67, .bool false, .int .i64 t152] 25 (0, 0))) := ⟨bs_⟩
        have n3_ : Aside0 ((((((w64.setCell ⟨gb141, 0, none⟩ (.int .u32 t144)).setCell ⟨gb141, 1, none⟩ (.slice Ao66 t145.length co66)).setCell ⟨gb141, 2, none⟩ (.slice Ao67 t148.length co67)).setCell ⟨gb141, 3, none⟩ (.bool false)).setCell ⟨gb141, 4, none⟩ (.int .i64 t152)).heap[gb142]? = some (.cells #[.int .u32 0, .slice none 0 0, .slice none 0 0, .bool false, .int .i64 0] 25 (0, 0))) := ⟨bs_⟩
        have n4_ : Aside0 (Below w.heap.size w (((((w64.setCell ⟨gb141, 0, none⟩ (.int .u32 t144)).setCell ⟨gb141, 1, none⟩ (.slice Ao66 t145.length co66)).setCell ⟨gb141, 2, none⟩ (.slice Ao67 t148.length co67)).setCell ⟨gb141, 3, none⟩ (.bool false)).setCell ⟨gb141, 4, none⟩ (.int .i64 t152))) := ⟨bel_⟩
        (try clear HO147)
        (try clear HO150)
        (try clear BK141)
        (try clear BK142)
        (try clear HB)
        generalize (((((w64.setCell ⟨gb141, 0, none⟩ (.int .u32 t144)).setCell ⟨gb141, 1, none⟩ (.slice Ao66 t145.length co66)).setCell ⟨gb141, 2, none⟩ (.slice Ao67 t148.length co67)).setCell ⟨gb141, 3, none⟩ (.bool false)).setCell ⟨gb141, 4, none⟩ (.int .i64 t152)) = w68 at n0_ n1_ n2_ n3_ n4_ ⊢
        have HO147 := n0_
        have HO150 := n1_
        have BK141 := n2_
        have BK142 := n3_
        have HB := n4_
        clear n0_ n1_ n2_ n3_ n4_
        replace HO147 := Aside0.mk (Kd.R_drew HO147.out)
        replace HO150 := Aside0.mk (Kd.R_drew HO150.out)
        replace BK141 := Aside0.mk (blk_drew BK141.out)
        replace BK142 := Aside0.mk (blk_drew BK142.out)
        replace HB := Aside0.mk (below_drew1 HB.out)
        refine start_ (n := 10) (S := fun w' => w'.cell? ⟨gb141, 0, none⟩ = some (.int .u32 t144) ∧ w'.cell? ⟨gb141, 1, none⟩ = some (.slice Ao66 t145.length co66) ∧ w'.cell? ⟨gb141, 2, none⟩ = some (.slice Ao67 t148.length co67) ∧ w'.cell? ⟨gb141, 3, none⟩ = some (.bool false) ∧ w'.cell? ⟨gb141, 4, none⟩ = some (.int .i64 t152)) (ds := [9]) #[false, false, false, false, false, false, false, false, false, false] (by kernel_rfl) rfl rfl hc_ (fun hHeld => ?_); refine with_tabW cambiumref03_Write.tab12 cambiumref03_Write.bits12 (fun HT_ HW_ => ?_)
        generalize w68.drew = w69 at HO147 HO150 BK141 BK142 HB hHeld ⊢
        refine pu_ 0 35 ?_
        refine pu_ 2 37 ?_
        refine pu_ 3 38 ?_
        refine tk5_ 1 36 ?_
        refine on_ 4 39 (fun K hK => ?_)
        refine goes_ Tryd.func24 (by kernel_rfl) rfl #[.string a2] (by rfl) rfl rfl (by (try simp only [List.map_toArray, List.map_cons, List.map_nil]); first | done | rfl | (simp only [List.length_drop, List.length_take]; rfl)) ?_
        with_reducible refine (cambiumref03_Cut.calls k a2 t153 _ A55.out).mono ?_
        rintro e w' ⟨rfl, ⟨nd, rfl⟩⟩
        refine ⟨_, rfl, ?_⟩
        refine hK.out _ _ hc_ (fun hHeld => ?_)
        clear hK K
        refine nm_ 39 ?_
        refine pu_ 5 40 ?_
        refine on_ 6 41 (fun K hK => ?_)
        refine value_ (w1 := ?_) (v := ?_) (by rfl) rfl ?_ ?_
        rotate_left 2
        · go_simp
          constructor
          · rfl
          rfl
        refine hK.out _ _ ⟨(blk_cell (blk_alloc BK141.out _) 0).trans rfl, (blk_cell (blk_alloc BK141.out _) 1).trans rfl, (blk_cell (blk_alloc BK141.out _) 2).trans rfl, (blk_cell (blk_alloc BK141.out _) 3).trans rfl, (blk_cell (blk_alloc BK141.out _) 4).trans rfl⟩ (fun hHeld => ?_)
        clear hK K
        refine nm_ 41 ?_
        refine on_ 7 42 (fun K hK => ?_)
        refine Kd.R_append_step k39 (w0 := w) w.heap.size (by rfl) (.tmp 36) (.tmp 41) 23 39 (.agg #[(.int .u32 0), (.string ⟨#[]⟩)]) 24 rfl Tryd.underlying23 info39 rfl (by decide) (by omega) (.slice Ao67 t148.length co67) t148 (⟨a1, t153⟩ : S39) [.int .u32 a1, .string t153] (fun k_ => some k_ ≠ (.slice Ao66 t145.length co66 : Value).ownBlock) (fun _ => False) rfl rfl ?aP (fun _ hk => hk.elim) ?aF ?aO ?aB ?aS ?aL ?_
        (case aP => exact k39_mkM _ _ _ (⟨a1, t153⟩ : S39))
        (case aB => exact bel_)
        (case aF => exact (fun k_ hk => Kd.fresh' (Kd.R_lt (ra_ HO147)) k_ hk))
        (case aO => exact (ra_ HO150))
        (case aS => exact (below_size bel_))
        (case aL => have := LMc56.out; omega)
        intro v155 w70 ho hb hg hat
        rw [← Ny154.out] at ho
        have HO156 := Aside0.mk (ho)
        replace BK141 := Aside0.mk (blk_grown (bk_ BK141) hg (Kd.R_ne HO150.out BK141.out (by decide)))
        replace BK142 := Aside0.mk (blk_grown (bk_ BK142) hg (Kd.R_ne HO150.out BK142.out (by decide)))
        replace HO147 := Aside0.mk (Kd.R_after (ok := (fun _ => True)) (by (with_reducible repeat (first | apply Kd.R_alloc | apply Kd.R_drewN | apply Kd.R_drew)); exact Kd.R_mono HO147.out (fun _ hk => ⟨trivial, hk⟩)) hg hat)
        replace HB := Aside0.mk (hb)
        clear HO150
        clear ho hb hg hat
        obtain ⟨Ao71, co71, eo71⟩ := Kd.R_slice HO156.out
        (first | subst eo71 | (injection eo71 with f1_ f2_ f3_; have f4_ := f1_.symm; have f5_ := f3_.symm; clear f1_ f2_ f3_; subst f4_; subst f5_))
        refine hK.out _ _ hc_ (fun hHeld => ?_)
        clear hK K
        refine nm_ 42 ?_
        refine pu_ 8 43 ?_
        refine last_ (i := 9) (N := none) #[true, true, true, true, true, true, true, true, true, true] rfl rfl (one_of HT_.out (by kernel_rfl)) (by decide) (fun K hK => ?_)
        have hs72 : w70.cell? ⟨gb141, 2, none⟩ = some (.slice Ao67 t148.length co67) := (blk_cell BK141.out 2).trans rfl
        have hfs72 := blk_frozen BK141.out 2
        have hns72_1 := NB142_141.out
        have hms72_1 := NB141_142.out
        refine skip_ (w1 := ?_) (by rfl) rfl ?_ ?_
        rotate_left
        · go_simp
          rfl
        refine hK.out _ _ ?_
        clear hK K
        refine done_ (done_of HT_.out (by kernel_rfl)) ?_
        obtain ⟨hcz73_0, hcz73_1, hcz73_2, hcz73_3, hcz73_4⟩ := cl5_ BK141
        obtain ⟨hfz73_0, hfz73_1, hfz73_2, hfz73_3, hfz73_4⟩ := fz5_ BK141
        obtain ⟨hcz74_0, hcz74_1, hcz74_2, hcz74_3, hcz74_4⟩ := cl5_ BK142
        obtain ⟨hfz74_0, hfz74_1, hfz74_2, hfz74_3, hfz74_4⟩ := fz5_ BK142
        try go_wp2
        refine bodyPost_ret (results_ct rfl _ _ gb142 25 #[.int .u32 t144, .slice Ao66 t145.length co66, .slice Ao71 y154.length co71, .bool true, .int .i64 t152] (0, 0) _ rfl (bs_) Tryd.underlying25 rfl (by kernel_rfl)) rfl ?_
        exact ⟨_, _, by first | rfl | (simp [errW_none, errW_some] <;> rfl) | (simp [*, errW_none, errW_some] <;> rfl), by (with_reducible repeat (first | apply Kd.R_alloc | apply Kd.R_drewN | apply Kd.R_drew)); exact Kd.R_mono (Kd.R_far (p := ⟨gb142, 4, none⟩) (Kd.R_far (p := ⟨gb142, 3, none⟩) (Kd.R_far (p := ⟨gb142, 2, none⟩) (Kd.R_far (p := ⟨gb142, 1, none⟩) (Kd.R_far (p := ⟨gb142, 0, none⟩) (Kd.R_far (p := ⟨gb141, 3, none⟩) (Kd.R_far (p := ⟨gb141, 2, none⟩) (Kd.R_types (Kd.R_types HO147.out BK141.out (by decide)) BK142.out (by decide)) (fun _ hk => hk.1.2) (.slice Ao71 y154.length co71)) (fun _ hk => hk.1.2) (.bool true)) (fun _ hk => hk.2) (.int .u32 t144)) (fun _ hk => hk.2) (.slice Ao66 t145.length co66)) (fun _ hk => hk.2) (.slice Ao71 y154.length co71)) (fun _ hk => hk.2) (.bool true)) (fun _ hk => hk.2) (.int .i64 t152)) (fun _ hk => hk.1.1.2), rw_ HO156, bel_⟩
      rw [if_neg c57] at H
      have c57b0 : (t152 == 0) = false := beq_eq_false_iff_ne.mpr c57
      have c57b1 : (t152 != 0) = true := bne_iff_ne.mpr c57
      by_cases c75 : t152 > 0
      · rw [if_pos c75] at H
        have c75b0 : decide (0 < t152) = true := decide_eq_true c75
        clear c75
        simp only [Option.some.injEq, Prod.mk.injEq] at H
        obtain ⟨rfl, rfl, rfl, rfl, rfl, rfl⟩ := H
        go_enter Tryd.func14, Tryd.ntmps14
        try go_wp2_with (first | ((with_reducible refine gate_dst (N := 3) rfl ?_); refine bx_ (N := 3) (cs := #[.int .u32 a0_0, .slice A0_1 l0_1.length c0_1, .slice A0_2 l0_2.length c0_2, .bool a0_3, .int .i64 a0_4]) (t := 25) ?_; intro gb141 hg w76 hbox hb; have BK141 := Aside0.mk (hbox); have GW141 := ge_ hg; have GE141 := ge_ hg; replace HB := hb_ hb; clear hb hbox hg) | ((with_reducible refine gate_dst (N := 6) rfl ?_); refine bx_ (N := 6) (cs := #[.int .u32 0, .slice none 0 0, .slice none 0 0, .bool false, .int .i64 0]) (t := 25) ?_; intro gb142 hg w77 hbox hb; have BK142 := Aside0.mk (hbox); have GW142 := ge_ hg; have GE142 := ge_ hg; have NB141_142 := nl_ BK141 hg; have NB142_141 := ng_ BK141 hg; replace BK141 := kb_ BK141 hb; replace HB := hb_ hb; clear hb hbox hg; have hnb78 := NB141_142.out; have hnc78 := NB142_141.out; obtain ⟨hcz79_0, hcz79_1, hcz79_2, hcz79_3, hcz79_4⟩ := cl5_ BK141; obtain ⟨hfz79_0, hfz79_1, hfz79_2, hfz79_3, hfz79_4⟩ := fz5_ BK141) | ((with_reducible refine gate_callee (f := 22) rfl ?_); refine gl_ (some 9) Tryd.func22 #[.agg #[.int .u32 a0_0, .slice A0_1 l0_1.length c0_1, .slice A0_2 l0_2.length c0_2, .bool a0_3, .int .i64 a0_4]] ?_; (with_reducible refine (cambiumref03_Check.calls k a0_0 _ _ l0_1 _ _ l0_2 a0_3 a0_4 t143 _ ?side1 ?side2 ?side3 ?side4 A4.out).mono ?_); (case side1 => exact cb_ HR0_1); (case side2 => exact HC0_1.out); (case side3 => exact cb_ HR0_2); (case side4 => exact HC0_2.out); rintro e w80 ⟨rfl, hb⟩; refine ⟨_, rfl, ?_⟩; replace BK141 := kb_ BK141 hb; replace BK142 := kb_ BK142 hb; replace HB := hb_ hb; (try clear hb); (try clear hb2); (try clear hk); (try clear hi); obtain ⟨hcz81_0, hcz81_1, hcz81_2, hcz81_3, hcz81_4⟩ := cl5_ BK141; obtain ⟨hfz81_0, hfz81_1, hfz81_2, hfz81_3, hfz81_4⟩ := fz5_ BK141) | ((with_reducible refine gate_callee (f := 12) rfl ?_); refine gl_ (some 13) Tryd.func12 #[.agg #[.int .u32 a0_0, .slice A0_1 l0_1.length c0_1, .slice A0_2 l0_2.length c0_2, .bool a0_3, .int .i64 a0_4]] ?_; (with_reducible refine (cambiumref03_Copy.calls a0_0 _ _ l0_1 _ _ l0_2 a0_3 a0_4 t144 t145 t148 false t152 _ ?side1 ?side2 ?side3 ?side4 A6.out).mono ?_); (case side1 => exact cb_ HR0_1); (case side2 => exact HC0_1.out); (case side3 => exact cb_ HR0_2); (case side4 => exact HC0_2.out); rintro e w82 ⟨v146, v149, rfl, ho0, ho1, hb⟩; refine ⟨_, rfl, ?_⟩; have HO147 := rl_ ho0; have HO150 := rl_ ho1; replace BK141 := kb_ BK141 hb; replace BK142 := kb_ BK142 hb; replace HB := hb_ hb; (try clear hb); (try clear hb2); (try clear hk); (try clear hi); (try clear ho0); (try clear ho1); obtain ⟨hcz83_0, hcz83_1, hcz83_2, hcz83_3, hcz83_4⟩ := cl5_ BK141; obtain ⟨hfz83_0, hfz83_1, hfz83_2, hfz83_3, hfz83_4⟩ := fz5_ BK141; obtain ⟨Ao84, co84, eo84⟩ := Kd.R_slice HO147.out; subst eo84; obtain ⟨Ao85, co85, eo85⟩ := Kd.R_slice HO150.out; subst eo85))
        have n0_ : Aside0 (Kd.R k39 39 (((((w82.setCell ⟨gb141, 0, none⟩ (.int .u32 t144)).setCell ⟨gb141, 1, none⟩ (.slice Ao84 t145.length co84)).setCell ⟨gb141, 2, none⟩ (.slice Ao85 t148.length co85)).setCell ⟨gb141, 3, none⟩ (.bool false)).setCell ⟨gb141, 4, none⟩ (.int .i64 t152)) w.heap.size (fun k_ => some k_ ≠ (.slice Ao85 t148.length co85 : Value).ownBlock) (.slice Ao84 t145.length co84) t145) := ⟨rw_ HO147⟩
        have n1_ : Aside0 (Kd.R k39 39 (((((w82.setCell ⟨gb141, 0, none⟩ (.int .u32 t144)).setCell ⟨gb141, 1, none⟩ (.slice Ao84 t145.length co84)).setCell ⟨gb141, 2, none⟩ (.slice Ao85 t148.length co85)).setCell ⟨gb141, 3, none⟩ (.bool false)).setCell ⟨gb141, 4, none⟩ (.int .i64 t152)) w.heap.size (fun k_ => some k_ ≠ (.slice Ao84 t145.length co84 : Value).ownBlock) (.slice Ao85 t148.length co85) t148) := ⟨rw_ HO150⟩
        have n2_ : Aside0 ((((((w82.setCell ⟨gb141, 0, none⟩ (.int .u32 t144)).setCell ⟨gb141, 1, none⟩ (.slice Ao84 t145.length co84)).setCell ⟨gb141, 2, none⟩ (.slice Ao85 t148.length co85)).setCell ⟨gb141, 3, none⟩ (.bool false)).setCell ⟨gb141, 4, none⟩ (.int .i64 t152)).heap[gb141]? = some (.cells #[.int .u32 t144, .slice Ao84 t145.length co84, .slice Ao85 t148.length co85, .bool false, .int .i64 t152] 25 (0, 0))) := ⟨bs_⟩
        have n3_ : Aside0 ((((((w82.setCell ⟨gb141, 0, none⟩ (.int .u32 t144)).setCell ⟨gb141, 1, none⟩ (.slice Ao84 t145.length co84)).setCell ⟨gb141, 2, none⟩ (.slice Ao85 t148.length co85)).setCell ⟨gb141, 3, none⟩ (.bool false)).setCell ⟨gb141, 4, none⟩ (.int .i64 t152)).heap[gb142]? = some (.cells #[.int .u32 0, .slice none 0 0, .slice none 0 0, .bool false, .int .i64 0] 25 (0, 0))) := ⟨bs_⟩
        have n4_ : Aside0 (Below w.heap.size w (((((w82.setCell ⟨gb141, 0, none⟩ (.int .u32 t144)).setCell ⟨gb141, 1, none⟩ (.slice Ao84 t145.length co84)).setCell ⟨gb141, 2, none⟩ (.slice Ao85 t148.length co85)).setCell ⟨gb141, 3, none⟩ (.bool false)).setCell ⟨gb141, 4, none⟩ (.int .i64 t152))) := ⟨bel_⟩
        (try clear HO147)
        (try clear HO150)
        (try clear BK141)
        (try clear BK142)
        (try clear HB)
        generalize (((((w82.setCell ⟨gb141, 0, none⟩ (.int .u32 t144)).setCell ⟨gb141, 1, none⟩ (.slice Ao84 t145.length co84)).setCell ⟨gb141, 2, none⟩ (.slice Ao85 t148.length co85)).setCell ⟨gb141, 3, none⟩ (.bool false)).setCell ⟨gb141, 4, none⟩ (.int .i64 t152)) = w86 at n0_ n1_ n2_ n3_ n4_ ⊢
        have HO147 := n0_
        have HO150 := n1_
        have BK141 := n2_
        have BK142 := n3_
        have HB := n4_
        clear n0_ n1_ n2_ n3_ n4_
        replace HO147 := Aside0.mk (Kd.R_drew HO147.out)
        replace HO150 := Aside0.mk (Kd.R_drew HO150.out)
        replace BK141 := Aside0.mk (blk_drew BK141.out)
        replace BK142 := Aside0.mk (blk_drew BK142.out)
        replace HB := Aside0.mk (below_drew1 HB.out)
        refine start_ (n := 10) (S := fun w' => w'.cell? ⟨gb141, 0, none⟩ = some (.int .u32 t144) ∧ w'.cell? ⟨gb141, 1, none⟩ = some (.slice Ao84 t145.length co84) ∧ w'.cell? ⟨gb141, 2, none⟩ = some (.slice Ao85 t148.length co85) ∧ w'.cell? ⟨gb141, 3, none⟩ = some (.bool false) ∧ w'.cell? ⟨gb141, 4, none⟩ = some (.int .i64 t152)) (ds := [9]) #[false, false, false, false, false, false, false, false, false, false] (by kernel_rfl) rfl rfl hc_ (fun hHeld => ?_); refine with_tabW cambiumref03_Write.tab12 cambiumref03_Write.bits12 (fun HT_ HW_ => ?_)
        generalize w86.drew = w87 at HO147 HO150 BK141 BK142 HB hHeld ⊢
        refine pu_ 0 35 ?_
        refine pu_ 2 37 ?_
        refine pu_ 3 38 ?_
        refine tk5_ 1 36 ?_
        refine on_ 4 39 (fun K hK => ?_)
        refine goes_ Tryd.func24 (by kernel_rfl) rfl #[.string a2] (by rfl) rfl rfl (by (try simp only [List.map_toArray, List.map_cons, List.map_nil]); first | done | rfl | (simp only [List.length_drop, List.length_take]; rfl)) ?_
        with_reducible refine (cambiumref03_Cut.calls k a2 t153 _ A55.out).mono ?_
        rintro e w' ⟨rfl, ⟨nd, rfl⟩⟩
        refine ⟨_, rfl, ?_⟩
        refine hK.out _ _ hc_ (fun hHeld => ?_)
        clear hK K
        refine nm_ 39 ?_
        refine pu_ 5 40 ?_
        refine on_ 6 41 (fun K hK => ?_)
        refine value_ (w1 := ?_) (v := ?_) (by rfl) rfl ?_ ?_
        rotate_left 2
        · go_simp
          constructor
          · rfl
          rfl
        refine hK.out _ _ ⟨(blk_cell (blk_alloc BK141.out _) 0).trans rfl, (blk_cell (blk_alloc BK141.out _) 1).trans rfl, (blk_cell (blk_alloc BK141.out _) 2).trans rfl, (blk_cell (blk_alloc BK141.out _) 3).trans rfl, (blk_cell (blk_alloc BK141.out _) 4).trans rfl⟩ (fun hHeld => ?_)
        clear hK K
        refine nm_ 41 ?_
        refine on_ 7 42 (fun K hK => ?_)
        refine Kd.R_append_step k39 (w0 := w) w.heap.size (by rfl) (.tmp 36) (.tmp 41) 23 39 (.agg #[(.int .u32 0), (.string ⟨#[]⟩)]) 24 rfl Tryd.underlying23 info39 rfl (by decide) (by omega) (.slice Ao85 t148.length co85) t148 (⟨a1, t153⟩ : S39) [.int .u32 a1, .string t153] (fun k_ => some k_ ≠ (.slice Ao84 t145.length co84 : Value).ownBlock) (fun _ => False) rfl rfl ?aP (fun _ hk => hk.elim) ?aF ?aO ?aB ?aS ?aL ?_
        (case aP => exact k39_mkM _ _ _ (⟨a1, t153⟩ : S39))
        (case aB => exact bel_)
        (case aF => exact (fun k_ hk => Kd.fresh' (Kd.R_lt (ra_ HO147)) k_ hk))
        (case aO => exact (ra_ HO150))
        (case aS => exact (below_size bel_))
        (case aL => have := LMc56.out; omega)
        intro v155 w88 ho hb hg hat
        rw [← Ny154.out] at ho
        have HO156 := Aside0.mk (ho)
        replace BK141 := Aside0.mk (blk_grown (bk_ BK141) hg (Kd.R_ne HO150.out BK141.out (by decide)))
        replace BK142 := Aside0.mk (blk_grown (bk_ BK142) hg (Kd.R_ne HO150.out BK142.out (by decide)))
        replace HO147 := Aside0.mk (Kd.R_after (ok := (fun _ => True)) (by (with_reducible repeat (first | apply Kd.R_alloc | apply Kd.R_drewN | apply Kd.R_drew)); exact Kd.R_mono HO147.out (fun _ hk => ⟨trivial, hk⟩)) hg hat)
        replace HB := Aside0.mk (hb)
        clear HO150
        clear ho hb hg hat
        obtain ⟨Ao89, co89, eo89⟩ := Kd.R_slice HO156.out
        (first | subst eo89 | (injection eo89 with f1_ f2_ f3_; have f4_ := f1_.symm; have f5_ := f3_.symm; clear f1_ f2_ f3_; subst f4_; subst f5_))
        refine hK.out _ _ hc_ (fun hHeld => ?_)
        clear hK K
        refine nm_ 42 ?_
        refine pu_ 8 43 ?_
        refine last_ (i := 9) (N := none) #[true, true, true, true, true, true, true, true, true, true] rfl rfl (one_of HT_.out (by kernel_rfl)) (by decide) (fun K hK => ?_)
        have hs90 : w88.cell? ⟨gb141, 2, none⟩ = some (.slice Ao85 t148.length co85) := (blk_cell BK141.out 2).trans rfl
        have hfs90 := blk_frozen BK141.out 2
        have hns90_1 := NB142_141.out
        have hms90_1 := NB141_142.out
        refine skip_ (w1 := ?_) (by rfl) rfl ?_ ?_
        rotate_left
        · go_simp
          rfl
        refine hK.out _ _ ?_
        clear hK K
        refine done_ (done_of HT_.out (by kernel_rfl)) ?_
        obtain ⟨hcz91_0, hcz91_1, hcz91_2, hcz91_3, hcz91_4⟩ := cl5_ BK141
        obtain ⟨hfz91_0, hfz91_1, hfz91_2, hfz91_3, hfz91_4⟩ := fz5_ BK141
        obtain ⟨hcz92_0, hcz92_1, hcz92_2, hcz92_3, hcz92_4⟩ := cl5_ BK142
        obtain ⟨hfz92_0, hfz92_1, hfz92_2, hfz92_3, hfz92_4⟩ := fz5_ BK142
        try go_wp2
        refine bodyPost_ret (results_ct rfl _ _ gb142 25 #[.int .u32 t144, .slice Ao84 t145.length co84, .slice Ao89 y154.length co89, .bool false, .int .i64 (wrap64 (t152 - 1))] (0, 0) _ rfl (bs_) Tryd.underlying25 rfl (by kernel_rfl)) rfl ?_
        exact ⟨_, _, by first | rfl | (simp [errW_none, errW_some] <;> rfl) | (simp [*, errW_none, errW_some] <;> rfl), by (with_reducible repeat (first | apply Kd.R_alloc | apply Kd.R_drewN | apply Kd.R_drew)); exact Kd.R_mono (Kd.R_far (p := ⟨gb142, 4, none⟩) (Kd.R_far (p := ⟨gb142, 3, none⟩) (Kd.R_far (p := ⟨gb142, 2, none⟩) (Kd.R_far (p := ⟨gb142, 1, none⟩) (Kd.R_far (p := ⟨gb142, 0, none⟩) (Kd.R_far (p := ⟨gb141, 4, none⟩) (Kd.R_far (p := ⟨gb141, 2, none⟩) (Kd.R_types (Kd.R_types HO147.out BK141.out (by decide)) BK142.out (by decide)) (fun _ hk => hk.1.2) (.slice Ao89 y154.length co89)) (fun _ hk => hk.1.2) (.int .i64 (wrap64 (t152 - 1)))) (fun _ hk => hk.2) (.int .u32 t144)) (fun _ hk => hk.2) (.slice Ao84 t145.length co84)) (fun _ hk => hk.2) (.slice Ao89 y154.length co89)) (fun _ hk => hk.2) (.bool false)) (fun _ hk => hk.2) (.int .i64 (wrap64 (t152 - 1)))) (fun _ hk => hk.1.1.2), rw_ HO156, bel_⟩
      rw [if_neg c75] at H
      have c75b0 : decide (0 < t152) = false := decide_eq_false c75
      clear c75
      simp only [Option.some.injEq, Prod.mk.injEq] at H
      obtain ⟨rfl, rfl, rfl, rfl, rfl, rfl⟩ := H
      go_enter Tryd.func14, Tryd.ntmps14
      try go_wp2_with (first | ((with_reducible refine gate_dst (N := 3) rfl ?_); refine bx_ (N := 3) (cs := #[.int .u32 a0_0, .slice A0_1 l0_1.length c0_1, .slice A0_2 l0_2.length c0_2, .bool a0_3, .int .i64 a0_4]) (t := 25) ?_; intro gb141 hg w93 hbox hb; have BK141 := Aside0.mk (hbox); have GW141 := ge_ hg; have GE141 := ge_ hg; replace HB := hb_ hb; clear hb hbox hg) | ((with_reducible refine gate_dst (N := 6) rfl ?_); refine bx_ (N := 6) (cs := #[.int .u32 0, .slice none 0 0, .slice none 0 0, .bool false, .int .i64 0]) (t := 25) ?_; intro gb142 hg w94 hbox hb; have BK142 := Aside0.mk (hbox); have GW142 := ge_ hg; have GE142 := ge_ hg; have NB141_142 := nl_ BK141 hg; have NB142_141 := ng_ BK141 hg; replace BK141 := kb_ BK141 hb; replace HB := hb_ hb; clear hb hbox hg; have hnb95 := NB141_142.out; have hnc95 := NB142_141.out; obtain ⟨hcz96_0, hcz96_1, hcz96_2, hcz96_3, hcz96_4⟩ := cl5_ BK141; obtain ⟨hfz96_0, hfz96_1, hfz96_2, hfz96_3, hfz96_4⟩ := fz5_ BK141) | ((with_reducible refine gate_callee (f := 22) rfl ?_); refine gl_ (some 9) Tryd.func22 #[.agg #[.int .u32 a0_0, .slice A0_1 l0_1.length c0_1, .slice A0_2 l0_2.length c0_2, .bool a0_3, .int .i64 a0_4]] ?_; (with_reducible refine (cambiumref03_Check.calls k a0_0 _ _ l0_1 _ _ l0_2 a0_3 a0_4 t143 _ ?side1 ?side2 ?side3 ?side4 A4.out).mono ?_); (case side1 => exact cb_ HR0_1); (case side2 => exact HC0_1.out); (case side3 => exact cb_ HR0_2); (case side4 => exact HC0_2.out); rintro e w97 ⟨rfl, hb⟩; refine ⟨_, rfl, ?_⟩; replace BK141 := kb_ BK141 hb; replace BK142 := kb_ BK142 hb; replace HB := hb_ hb; (try clear hb); (try clear hb2); (try clear hk); (try clear hi); obtain ⟨hcz98_0, hcz98_1, hcz98_2, hcz98_3, hcz98_4⟩ := cl5_ BK141; obtain ⟨hfz98_0, hfz98_1, hfz98_2, hfz98_3, hfz98_4⟩ := fz5_ BK141) | ((with_reducible refine gate_callee (f := 12) rfl ?_); refine gl_ (some 13) Tryd.func12 #[.agg #[.int .u32 a0_0, .slice A0_1 l0_1.length c0_1, .slice A0_2 l0_2.length c0_2, .bool a0_3, .int .i64 a0_4]] ?_; (with_reducible refine (cambiumref03_Copy.calls a0_0 _ _ l0_1 _ _ l0_2 a0_3 a0_4 t144 t145 t148 false t152 _ ?side1 ?side2 ?side3 ?side4 A6.out).mono ?_); (case side1 => exact cb_ HR0_1); (case side2 => exact HC0_1.out); (case side3 => exact cb_ HR0_2); (case side4 => exact HC0_2.out); rintro e w99 ⟨v146, v149, rfl, ho0, ho1, hb⟩; refine ⟨_, rfl, ?_⟩; have HO147 := rl_ ho0; have HO150 := rl_ ho1; replace BK141 := kb_ BK141 hb; replace BK142 := kb_ BK142 hb; replace HB := hb_ hb; (try clear hb); (try clear hb2); (try clear hk); (try clear hi); (try clear ho0); (try clear ho1); obtain ⟨hcz100_0, hcz100_1, hcz100_2, hcz100_3, hcz100_4⟩ := cl5_ BK141; obtain ⟨hfz100_0, hfz100_1, hfz100_2, hfz100_3, hfz100_4⟩ := fz5_ BK141; obtain ⟨Ao101, co101, eo101⟩ := Kd.R_slice HO147.out; subst eo101; obtain ⟨Ao102, co102, eo102⟩ := Kd.R_slice HO150.out; subst eo102))
      have n0_ : Aside0 (Kd.R k39 39 (((((w99.setCell ⟨gb141, 0, none⟩ (.int .u32 t144)).setCell ⟨gb141, 1, none⟩ (.slice Ao101 t145.length co101)).setCell ⟨gb141, 2, none⟩ (.slice Ao102 t148.length co102)).setCell ⟨gb141, 3, none⟩ (.bool false)).setCell ⟨gb141, 4, none⟩ (.int .i64 t152)) w.heap.size (fun k_ => some k_ ≠ (.slice Ao102 t148.length co102 : Value).ownBlock) (.slice Ao101 t145.length co101) t145) := ⟨rw_ HO147⟩
      have n1_ : Aside0 (Kd.R k39 39 (((((w99.setCell ⟨gb141, 0, none⟩ (.int .u32 t144)).setCell ⟨gb141, 1, none⟩ (.slice Ao101 t145.length co101)).setCell ⟨gb141, 2, none⟩ (.slice Ao102 t148.length co102)).setCell ⟨gb141, 3, none⟩ (.bool false)).setCell ⟨gb141, 4, none⟩ (.int .i64 t152)) w.heap.size (fun k_ => some k_ ≠ (.slice Ao101 t145.length co101 : Value).ownBlock) (.slice Ao102 t148.length co102) t148) := ⟨rw_ HO150⟩
      have n2_ : Aside0 ((((((w99.setCell ⟨gb141, 0, none⟩ (.int .u32 t144)).setCell ⟨gb141, 1, none⟩ (.slice Ao101 t145.length co101)).setCell ⟨gb141, 2, none⟩ (.slice Ao102 t148.length co102)).setCell ⟨gb141, 3, none⟩ (.bool false)).setCell ⟨gb141, 4, none⟩ (.int .i64 t152)).heap[gb141]? = some (.cells #[.int .u32 t144, .slice Ao101 t145.length co101, .slice Ao102 t148.length co102, .bool false, .int .i64 t152] 25 (0, 0))) := ⟨bs_⟩
      have n3_ : Aside0 ((((((w99.setCell ⟨gb141, 0, none⟩ (.int .u32 t144)).setCell ⟨gb141, 1, none⟩ (.slice Ao101 t145.length co101)).setCell ⟨gb141, 2, none⟩ (.slice Ao102 t148.length co102)).setCell ⟨gb141, 3, none⟩ (.bool false)).setCell ⟨gb141, 4, none⟩ (.int .i64 t152)).heap[gb142]? = some (.cells #[.int .u32 0, .slice none 0 0, .slice none 0 0, .bool false, .int .i64 0] 25 (0, 0))) := ⟨bs_⟩
      have n4_ : Aside0 (Below w.heap.size w (((((w99.setCell ⟨gb141, 0, none⟩ (.int .u32 t144)).setCell ⟨gb141, 1, none⟩ (.slice Ao101 t145.length co101)).setCell ⟨gb141, 2, none⟩ (.slice Ao102 t148.length co102)).setCell ⟨gb141, 3, none⟩ (.bool false)).setCell ⟨gb141, 4, none⟩ (.int .i64 t152))) := ⟨bel_⟩
      (try clear HO147)
      (try clear HO150)
      (try clear BK141)
      (try clear BK142)
      (try clear HB)
      generalize (((((w99.setCell ⟨gb141, 0, none⟩ (.int .u32 t144)).setCell ⟨gb141, 1, none⟩ (.slice Ao101 t145.length co101)).setCell ⟨gb141, 2, none⟩ (.slice Ao102 t148.length co102)).setCell ⟨gb141, 3, none⟩ (.bool false)).setCell ⟨gb141, 4, none⟩ (.int .i64 t152)) = w103 at n0_ n1_ n2_ n3_ n4_ ⊢
      have HO147 := n0_
      have HO150 := n1_
      have BK141 := n2_
      have BK142 := n3_
      have HB := n4_
      clear n0_ n1_ n2_ n3_ n4_
      replace HO147 := Aside0.mk (Kd.R_drew HO147.out)
      replace HO150 := Aside0.mk (Kd.R_drew HO150.out)
      replace BK141 := Aside0.mk (blk_drew BK141.out)
      replace BK142 := Aside0.mk (blk_drew BK142.out)
      replace HB := Aside0.mk (below_drew1 HB.out)
      refine start_ (n := 10) (S := fun w' => w'.cell? ⟨gb141, 0, none⟩ = some (.int .u32 t144) ∧ w'.cell? ⟨gb141, 1, none⟩ = some (.slice Ao101 t145.length co101) ∧ w'.cell? ⟨gb141, 2, none⟩ = some (.slice Ao102 t148.length co102) ∧ w'.cell? ⟨gb141, 3, none⟩ = some (.bool false) ∧ w'.cell? ⟨gb141, 4, none⟩ = some (.int .i64 t152)) (ds := [9]) #[false, false, false, false, false, false, false, false, false, false] (by kernel_rfl) rfl rfl hc_ (fun hHeld => ?_); refine with_tabW cambiumref03_Write.tab12 cambiumref03_Write.bits12 (fun HT_ HW_ => ?_)
      generalize w103.drew = w104 at HO147 HO150 BK141 BK142 HB hHeld ⊢
      refine pu_ 0 35 ?_
      refine pu_ 2 37 ?_
      refine pu_ 3 38 ?_
      refine tk5_ 1 36 ?_
      refine on_ 4 39 (fun K hK => ?_)
      refine goes_ Tryd.func24 (by kernel_rfl) rfl #[.string a2] (by rfl) rfl rfl (by (try simp only [List.map_toArray, List.map_cons, List.map_nil]); first | done | rfl | (simp only [List.length_drop, List.length_take]; rfl)) ?_
      with_reducible refine (cambiumref03_Cut.calls k a2 t153 _ A55.out).mono ?_
      rintro e w' ⟨rfl, ⟨nd, rfl⟩⟩
      refine ⟨_, rfl, ?_⟩
      refine hK.out _ _ hc_ (fun hHeld => ?_)
      clear hK K
      refine nm_ 39 ?_
      refine pu_ 5 40 ?_
      refine on_ 6 41 (fun K hK => ?_)
      refine value_ (w1 := ?_) (v := ?_) (by rfl) rfl ?_ ?_
      rotate_left 2
      · go_simp
        constructor
        · rfl
        rfl
      refine hK.out _ _ ⟨(blk_cell (blk_alloc BK141.out _) 0).trans rfl, (blk_cell (blk_alloc BK141.out _) 1).trans rfl, (blk_cell (blk_alloc BK141.out _) 2).trans rfl, (blk_cell (blk_alloc BK141.out _) 3).trans rfl, (blk_cell (blk_alloc BK141.out _) 4).trans rfl⟩ (fun hHeld => ?_)
      clear hK K
      refine nm_ 41 ?_
      refine on_ 7 42 (fun K hK => ?_)
      refine Kd.R_append_step k39 (w0 := w) w.heap.size (by rfl) (.tmp 36) (.tmp 41) 23 39 (.agg #[(.int .u32 0), (.string ⟨#[]⟩)]) 24 rfl Tryd.underlying23 info39 rfl (by decide) (by omega) (.slice Ao102 t148.length co102) t148 (⟨a1, t153⟩ : S39) [.int .u32 a1, .string t153] (fun k_ => some k_ ≠ (.slice Ao101 t145.length co101 : Value).ownBlock) (fun _ => False) rfl rfl ?aP (fun _ hk => hk.elim) ?aF ?aO ?aB ?aS ?aL ?_
      (case aP => exact k39_mkM _ _ _ (⟨a1, t153⟩ : S39))
      (case aB => exact bel_)
      (case aF => exact (fun k_ hk => Kd.fresh' (Kd.R_lt (ra_ HO147)) k_ hk))
      (case aO => exact (ra_ HO150))
      (case aS => exact (below_size bel_))
      (case aL => have := LMc56.out; omega)
      intro v155 w105 ho hb hg hat
      rw [← Ny154.out] at ho
      have HO156 := Aside0.mk (ho)
      replace BK141 := Aside0.mk (blk_grown (bk_ BK141) hg (Kd.R_ne HO150.out BK141.out (by decide)))
      replace BK142 := Aside0.mk (blk_grown (bk_ BK142) hg (Kd.R_ne HO150.out BK142.out (by decide)))
      replace HO147 := Aside0.mk (Kd.R_after (ok := (fun _ => True)) (by (with_reducible repeat (first | apply Kd.R_alloc | apply Kd.R_drewN | apply Kd.R_drew)); exact Kd.R_mono HO147.out (fun _ hk => ⟨trivial, hk⟩)) hg hat)
      replace HB := Aside0.mk (hb)
      clear HO150
      clear ho hb hg hat
      obtain ⟨Ao106, co106, eo106⟩ := Kd.R_slice HO156.out
      (first | subst eo106 | (injection eo106 with f1_ f2_ f3_; have f4_ := f1_.symm; have f5_ := f3_.symm; clear f1_ f2_ f3_; subst f4_; subst f5_))
      refine hK.out _ _ hc_ (fun hHeld => ?_)
      clear hK K
      refine nm_ 42 ?_
      refine pu_ 8 43 ?_
      refine last_ (i := 9) (N := none) #[true, true, true, true, true, true, true, true, true, true] rfl rfl (one_of HT_.out (by kernel_rfl)) (by decide) (fun K hK => ?_)
      have hs107 : w105.cell? ⟨gb141, 2, none⟩ = some (.slice Ao102 t148.length co102) := (blk_cell BK141.out 2).trans rfl
      have hfs107 := blk_frozen BK141.out 2
      have hns107_1 := NB142_141.out
      have hms107_1 := NB141_142.out
      refine skip_ (w1 := ?_) (by rfl) rfl ?_ ?_
      rotate_left
      · go_simp
        rfl
      refine hK.out _ _ ?_
      clear hK K
      refine done_ (done_of HT_.out (by kernel_rfl)) ?_
      obtain ⟨hcz108_0, hcz108_1, hcz108_2, hcz108_3, hcz108_4⟩ := cl5_ BK141
      obtain ⟨hfz108_0, hfz108_1, hfz108_2, hfz108_3, hfz108_4⟩ := fz5_ BK141
      obtain ⟨hcz109_0, hcz109_1, hcz109_2, hcz109_3, hcz109_4⟩ := cl5_ BK142
      obtain ⟨hfz109_0, hfz109_1, hfz109_2, hfz109_3, hfz109_4⟩ := fz5_ BK142
      try go_wp2
      refine bodyPost_ret (results_ct rfl _ _ gb142 25 #[.int .u32 t144, .slice Ao101 t145.length co101, .slice Ao106 y154.length co106, .bool false, .int .i64 t152] (0, 0) _ rfl (bs_) Tryd.underlying25 rfl (by kernel_rfl)) rfl ?_
      exact ⟨_, _, by first | rfl | (simp [errW_none, errW_some] <;> rfl) | (simp [*, errW_none, errW_some] <;> rfl), by (with_reducible repeat (first | apply Kd.R_alloc | apply Kd.R_drewN | apply Kd.R_drew)); exact Kd.R_mono (Kd.R_far (p := ⟨gb142, 4, none⟩) (Kd.R_far (p := ⟨gb142, 3, none⟩) (Kd.R_far (p := ⟨gb142, 2, none⟩) (Kd.R_far (p := ⟨gb142, 1, none⟩) (Kd.R_far (p := ⟨gb142, 0, none⟩) (Kd.R_far (p := ⟨gb141, 2, none⟩) (Kd.R_types (Kd.R_types HO147.out BK141.out (by decide)) BK142.out (by decide)) (fun _ hk => hk.1.2) (.slice Ao106 y154.length co106)) (fun _ hk => hk.2) (.int .u32 t144)) (fun _ hk => hk.2) (.slice Ao101 t145.length co101)) (fun _ hk => hk.2) (.slice Ao106 y154.length co106)) (fun _ hk => hk.2) (.bool false)) (fun _ hk => hk.2) (.int .i64 t152)) (fun _ hk => hk.1.1.2), rw_ HO156, bel_⟩
    rw [if_neg c56] at H
    exact absurd H (by simp)
  rw [if_neg c5] at H
  have c5b0 : (t143 == 0) = false := beq_eq_false_iff_ne.mpr c5
  have c5b1 : (t143 != 0) = true := bne_iff_ne.mpr c5
  simp only [Option.some.injEq, Prod.mk.injEq] at H
  obtain ⟨rfl, rfl, rfl, rfl, rfl, rfl⟩ := H
  go_enter Tryd.func14, Tryd.ntmps14
  go_wp2_with (first | ((with_reducible refine gate_dst (N := 3) rfl ?_); refine bx_ (N := 3) (cs := #[.int .u32 a0_0, .slice A0_1 l0_1.length c0_1, .slice A0_2 l0_2.length c0_2, .bool a0_3, .int .i64 a0_4]) (t := 25) ?_; intro gb141 hg w110 hbox hb; have BK141 := Aside0.mk (hbox); have GW141 := ge_ hg; have GE141 := ge_ hg; replace HB := hb_ hb; clear hb hbox hg) | ((with_reducible refine gate_dst (N := 6) rfl ?_); refine bx_ (N := 6) (cs := #[.int .u32 0, .slice none 0 0, .slice none 0 0, .bool false, .int .i64 0]) (t := 25) ?_; intro gb142 hg w111 hbox hb; have BK142 := Aside0.mk (hbox); have GW142 := ge_ hg; have GE142 := ge_ hg; have NB141_142 := nl_ BK141 hg; have NB142_141 := ng_ BK141 hg; replace BK141 := kb_ BK141 hb; replace HB := hb_ hb; clear hb hbox hg; have hnb112 := NB141_142.out; have hnc112 := NB142_141.out; obtain ⟨hcz113_0, hcz113_1, hcz113_2, hcz113_3, hcz113_4⟩ := cl5_ BK141; obtain ⟨hfz113_0, hfz113_1, hfz113_2, hfz113_3, hfz113_4⟩ := fz5_ BK141) | ((with_reducible refine gate_callee (f := 22) rfl ?_); refine gl_ (some 9) Tryd.func22 #[.agg #[.int .u32 a0_0, .slice A0_1 l0_1.length c0_1, .slice A0_2 l0_2.length c0_2, .bool a0_3, .int .i64 a0_4]] ?_; (with_reducible refine (cambiumref03_Check.calls k a0_0 _ _ l0_1 _ _ l0_2 a0_3 a0_4 t143 _ ?side1 ?side2 ?side3 ?side4 A4.out).mono ?_); (case side1 => exact cb_ HR0_1); (case side2 => exact HC0_1.out); (case side3 => exact cb_ HR0_2); (case side4 => exact HC0_2.out); rintro e w114 ⟨rfl, hb⟩; refine ⟨_, rfl, ?_⟩; replace BK141 := kb_ BK141 hb; replace BK142 := kb_ BK142 hb; replace HB := hb_ hb; (try clear hb); (try clear hb2); (try clear hk); (try clear hi); obtain ⟨hcz115_0, hcz115_1, hcz115_2, hcz115_3, hcz115_4⟩ := cl5_ BK142; obtain ⟨hfz115_0, hfz115_1, hfz115_2, hfz115_3, hfz115_4⟩ := fz5_ BK142))
  refine bodyPost_ret (results_ct rfl _ _ gb142 25 #[.int .u32 0, .slice none 0 0, .slice none 0 0, .bool false, .int .i64 0] (0, 0) _ rfl (bs_) Tryd.underlying25 rfl (by kernel_rfl)) rfl ?_
  exact ⟨_, _, by first | rfl | (simp [errW_none, errW_some] <;> rfl) | (simp [*, errW_none, errW_some] <;> rfl), by first | exact Kd.R_nil _ _ _ _ _ | exact Kd.N_nil _ _ _ _ _ | exact Kd.V_nil _ _ _ _ _ | exact Kd.Q_nil _ _ _ _ _ | exact Kd.S_nil _ _ _ _ _, by first | exact Kd.R_nil _ _ _ _ _ | exact Kd.N_nil _ _ _ _ _ | exact Kd.V_nil _ _ _ _ _ | exact Kd.Q_nil _ _ _ _ _ | exact Kd.S_nil _ _ _ _ _, bel_⟩

end Go.Proofs.YtcphflfjhkeooaaDoor.Z
end

section
-- Printed by a program of this session (mp.py) out of the translation.
namespace Go.Proofs.YtcphflfjhkeooaaDoor.Z
open Go.RowKit Go.Proofs.YtcphflfjhkeooaaDoorW.PrintWords Go.Proofs.YtcphflfjhkeooaaDoorW.PrintLast Go.Proofs.YtcphflfjhkeooaaDoorW.PrintMore
attribute [local go_sem] max2_int min2_int max_two min_two max_three min_three max_four min_four   -- for this text's walks alone
set_option linter.unusedVariables false
set_option linter.unusedSimpArgs false

/-! ### cambiumref03_Flush: function 16 -/
mutual
def cambiumref03_Flush.j0 : Nat → Bool → Int → List (S39) → List (S39) → Bool → Int → Option (Int × (List (S39)) × (List (S39)) × Bool × Int × Int)
  | 0, _, _, _, _, _, _ => none
  | k + 1, x18, x181000, x181001, x181002, x181003, x181004 => if x18 = true then (some (x181000, x181001, x181002, true, x181004, 17)) else (if x181004 > 0 then (cambiumref03_Flush.j1 k x181000 x181001 x181002 x181003 (wrap64 (x181004 - 1))) else (cambiumref03_Flush.j1 k x181000 x181001 x181002 x181003 x181004))
def cambiumref03_Flush.j1 : Nat → Int → List (S39) → List (S39) → Bool → Int → Option (Int × (List (S39)) × (List (S39)) × Bool × Int × Int)
  | 0, _, _, _, _, _ => none
  | k + 1, x181000, x181001, x181002, x181003, x181004 => cambiumref03_Flush.l0 k x181002 (x181002.length : Int) 0 x181000 x181001 x181002 x181003 x181004
def cambiumref03_Flush.l0 : Nat → List (S39) → Int → Int → Int → List (S39) → List (S39) → Bool → Int → Option (Int × (List (S39)) × (List (S39)) × Bool × Int × Int)
  | 0, _, _, _, _, _, _, _, _ => none
  | k + 1, x29, x30, x31, x181000, x181001, x181002, x181003, x181004 => if x31 < x30 then (if 0 ≤ x31 then (if x31 < (x29.length : Int) then ((cambiumref03_put.f k x181001 ((rd_T39 x29 x31).f0) ((rd_T39 x29 x31).f1)).bind fun t194 => (cambiumref03_Flush.l0 k x29 x30 (wrap64 (x31 + 1)) x181000 t194 x181002 x181003 x181004)) else (none)) else (none)) else (some (x181000, x181001, ([] : List (S39)), x181003, x181004, 0))
end
def cambiumref03_Flush.f (k : Nat) (a0_0 : Int) (l0_1 : List (S39)) (l0_2 : List (S39)) (a0_3 : Bool) (a0_4 : Int) : Option (Int × (List (S39)) × (List (S39)) × Bool × Int × Int) := (cambiumref03_Check.f k a0_0 l0_1 l0_2 a0_3 a0_4).bind fun t182 => (if t182 = 0 then ((cambiumref03_Copy.f a0_0 l0_1 l0_2 a0_3 a0_4).bind fun bt183 => (if bt183.2.2.2.1 = true then (cambiumref03_Flush.j0 k true bt183.1 bt183.2.1 bt183.2.2.1 bt183.2.2.2.1 bt183.2.2.2.2) else (cambiumref03_Flush.j0 k (bt183.2.2.2.2 == 0) bt183.1 bt183.2.1 bt183.2.2.1 bt183.2.2.2.1 bt183.2.2.2.2))) else (some (0, ([] : List (S39)), ([] : List (S39)), false, 0, 7)))
theorem cambiumref03_Flush.mono_l : ∀ k, (∀ y0 y1 y2 y3 y4 y5, LeO (cambiumref03_Flush.j0 k y0 y1 y2 y3 y4 y5) (cambiumref03_Flush.j0 (k + 1) y0 y1 y2 y3 y4 y5)) ∧ (∀ y0 y1 y2 y3 y4, LeO (cambiumref03_Flush.j1 k y0 y1 y2 y3 y4) (cambiumref03_Flush.j1 (k + 1) y0 y1 y2 y3 y4)) ∧ (∀ y0 y1 y2 y3 y4 y5 y6 y7, LeO (cambiumref03_Flush.l0 k y0 y1 y2 y3 y4 y5 y6 y7) (cambiumref03_Flush.l0 (k + 1) y0 y1 y2 y3 y4 y5 y6 y7))
  | 0 => ⟨fun _ _ _ _ _ _ r h => by simp [cambiumref03_Flush.j0] at h, fun _ _ _ _ _ r h => by simp [cambiumref03_Flush.j1] at h, fun _ _ _ _ _ _ _ _ r h => by simp [cambiumref03_Flush.l0] at h⟩
  | k + 1 => by
    obtain ⟨ih0, ih1, ih2⟩ := cambiumref03_Flush.mono_l k
    refine ⟨?_, ?_, ?_⟩
    · intro y0 y1 y2 y3 y4 y5
      unfold cambiumref03_Flush.j0
      repeat' first
      | (with_reducible exact ih0 _ _ _ _ _ _)
      | (with_reducible exact ih1 _ _ _ _ _)
      | (with_reducible exact ih2 _ _ _ _ _ _ _ _)
      | (with_reducible exact cambiumref03_Check.mono _ _ _ _ _ _)
      | (with_reducible exact cambiumref03_put.mono _ _ _ _)
      | (with_reducible exact LeO.refl _)
      | (with_reducible exact LeO.none _)
      | (with_reducible refine LeO.ite ?_ ?_)
      | (with_reducible refine LeO.bind ?_ (fun _ => ?_))
      | exact ih0 _ _ _ _ _ _
      | exact ih1 _ _ _ _ _
      | exact ih2 _ _ _ _ _ _ _ _
      | exact cambiumref03_Check.mono _ _ _ _ _ _
      | exact cambiumref03_put.mono _ _ _ _
      | exact LeO.none _
      | refine LeO.ite ?_ ?_
      | refine LeO.bind ?_ (fun _ => ?_)
    · intro y0 y1 y2 y3 y4
      unfold cambiumref03_Flush.j1
      repeat' first
      | (with_reducible exact ih0 _ _ _ _ _ _)
      | (with_reducible exact ih1 _ _ _ _ _)
      | (with_reducible exact ih2 _ _ _ _ _ _ _ _)
      | (with_reducible exact cambiumref03_Check.mono _ _ _ _ _ _)
      | (with_reducible exact cambiumref03_put.mono _ _ _ _)
      | (with_reducible exact LeO.refl _)
      | (with_reducible exact LeO.none _)
      | (with_reducible refine LeO.ite ?_ ?_)
      | (with_reducible refine LeO.bind ?_ (fun _ => ?_))
      | exact ih0 _ _ _ _ _ _
      | exact ih1 _ _ _ _ _
      | exact ih2 _ _ _ _ _ _ _ _
      | exact cambiumref03_Check.mono _ _ _ _ _ _
      | exact cambiumref03_put.mono _ _ _ _
      | exact LeO.none _
      | refine LeO.ite ?_ ?_
      | refine LeO.bind ?_ (fun _ => ?_)
    intro y0 y1 y2 y3 y4 y5 y6 y7
    unfold cambiumref03_Flush.l0
    repeat' first
    | (with_reducible exact ih0 _ _ _ _ _ _)
    | (with_reducible exact ih1 _ _ _ _ _)
    | (with_reducible exact ih2 _ _ _ _ _ _ _ _)
    | (with_reducible exact cambiumref03_Check.mono _ _ _ _ _ _)
    | (with_reducible exact cambiumref03_put.mono _ _ _ _)
    | (with_reducible exact LeO.refl _)
    | (with_reducible exact LeO.none _)
    | (with_reducible refine LeO.ite ?_ ?_)
    | (with_reducible refine LeO.bind ?_ (fun _ => ?_))
    | exact ih0 _ _ _ _ _ _
    | exact ih1 _ _ _ _ _
    | exact ih2 _ _ _ _ _ _ _ _
    | exact cambiumref03_Check.mono _ _ _ _ _ _
    | exact cambiumref03_put.mono _ _ _ _
    | exact LeO.none _
    | refine LeO.ite ?_ ?_
    | refine LeO.bind ?_ (fun _ => ?_)
theorem cambiumref03_Flush.mono : ∀ a0 a1 a2 a3 a4 k, LeO (cambiumref03_Flush.f k a0 a1 a2 a3 a4) (cambiumref03_Flush.f (k + 1) a0 a1 a2 a3 a4) := by
  intro a0 a1 a2 a3 a4 k
  obtain ⟨ih0, ih1, ih2⟩ := cambiumref03_Flush.mono_l k
  unfold cambiumref03_Flush.f
  repeat' first
      | (with_reducible exact ih0 _ _ _ _ _ _)
      | (with_reducible exact ih1 _ _ _ _ _)
      | (with_reducible exact ih2 _ _ _ _ _ _ _ _)
      | (with_reducible exact cambiumref03_Check.mono _ _ _ _ _ _)
      | (with_reducible exact cambiumref03_put.mono _ _ _ _)
      | (with_reducible exact LeO.refl _)
      | (with_reducible exact LeO.none _)
      | (with_reducible refine LeO.ite ?_ ?_)
      | (with_reducible refine LeO.bind ?_ (fun _ => ?_))
      | exact ih0 _ _ _ _ _ _
      | exact ih1 _ _ _ _ _
      | exact ih2 _ _ _ _ _ _ _ _
      | exact cambiumref03_Check.mono _ _ _ _ _ _
      | exact cambiumref03_put.mono _ _ _ _
      | exact LeO.none _
      | refine LeO.ite ?_ ?_
      | refine LeO.bind ?_ (fun _ => ?_)
set_option maxHeartbeats 8000000 in
set_option maxRecDepth 100000 in
theorem cambiumref03_Flush.calls (k : Nat) (a0_0 : Int) (A0_1 : Option Addr) (c0_1 : Nat) (l0_1 : List (S39)) (A0_2 : Option Addr) (c0_2 : Nat) (l0_2 : List (S39)) (a0_3 : Bool) (a0_4 : Int) (r1 : Int) (r2 : List (S39)) (r3 : List (S39)) (r4 : Bool) (r5 : Int) (r6 : Int) (w : World) (hr0_1 : Kd.C k39 w A0_1 l0_1.length l0_1) (hc0_1 : l0_1.length ≤ c0_1) (hr0_2 : Kd.C k39 w A0_2 l0_2.length l0_2) (hc0_2 : l0_2.length ≤ c0_2) (h : cambiumref03_Flush.f k a0_0 l0_1 l0_2 a0_3 a0_4 = some (r1, r2, r3, r4, r5, r6)) :
    Calls Tryd.prog 16 #[.agg #[.int .u32 a0_0, .slice A0_1 l0_1.length c0_1, .slice A0_2 l0_2.length c0_2, .bool a0_3, .int .i64 a0_4]] w fun e w' => ∃ v1_ v2_ : Value, e = .returned (.tuple #[.agg #[.int .u32 r1, v1_, v2_, .bool r4, .int .i64 r5], .int .i64 r6]) ∧ Kd.R k39 39 w' w.heap.size (fun k_ => some k_ ≠ (v2_ : Value).ownBlock) v1_ r2 ∧ Kd.R k39 39 w' w.heap.size (fun k_ => some k_ ≠ (v1_ : Value).ownBlock) v2_ r3 ∧ Below w.heap.size w w' := by
  have hu25 := Tryd.underlying25
  have hu39 := Tryd.underlying39
  have HR0_1 := Aside0.mk hr0_1
  have HC0_1 := Aside0.mk hc0_1
  clear hr0_1 hc0_1
  have HR0_2 := Aside0.mk hr0_2
  have HC0_2 := Aside0.mk hc0_2
  clear hr0_2 hc0_2
  have HB := Aside0.mk (Below.refl w.heap.size w)
  have H : ((cambiumref03_Check.f k a0_0 l0_1 l0_2 a0_3 a0_4).bind fun t182 => (if t182 = 0 then ((cambiumref03_Copy.f a0_0 l0_1 l0_2 a0_3 a0_4).bind fun bt183 => (if bt183.2.2.2.1 = true then (cambiumref03_Flush.j0 k true bt183.1 bt183.2.1 bt183.2.2.1 bt183.2.2.2.1 bt183.2.2.2.2) else (cambiumref03_Flush.j0 k (bt183.2.2.2.2 == 0) bt183.1 bt183.2.1 bt183.2.2.1 bt183.2.2.2.1 bt183.2.2.2.2))) else (some (0, ([] : List (S39)), ([] : List (S39)), false, 0, 7)))) = some (r1, r2, r3, r4, r5, r6) := h
  clear h
  replace H := Option.bind_eq_some_iff.mp H
  obtain ⟨t182, A20, H⟩ := H
  replace H : (if t182 = 0 then ((cambiumref03_Copy.f a0_0 l0_1 l0_2 a0_3 a0_4).bind fun bt183 => (if bt183.2.2.2.1 = true then (cambiumref03_Flush.j0 k true bt183.1 bt183.2.1 bt183.2.2.1 bt183.2.2.2.1 bt183.2.2.2.2) else (cambiumref03_Flush.j0 k (bt183.2.2.2.2 == 0) bt183.1 bt183.2.1 bt183.2.2.1 bt183.2.2.2.1 bt183.2.2.2.2))) else (some (0, ([] : List (S39)), ([] : List (S39)), false, 0, 7))) = some (r1, r2, r3, r4, r5, r6) := H
  have A2 := Aside0.mk A20
  clear A20
  by_cases c3 : t182 = 0
  · rw [if_pos c3] at H
    have c3b0 : (t182 == 0) = true := beq_iff_eq.mpr c3
    have c3b1 : (t182 != 0) = false := bne_eq_false_iff_eq.mpr c3
    clear c3
    replace H := Option.bind_eq_some_iff.mp H
    obtain ⟨⟨t183, t184, t187, t190, t191⟩, A40, H⟩ := H
    replace H : (if t190 = true then (cambiumref03_Flush.j0 k true t183 t184 t187 t190 t191) else (cambiumref03_Flush.j0 k (t191 == 0) t183 t184 t187 t190 t191)) = some (r1, r2, r3, r4, r5, r6) := H
    have A4 := Aside0.mk A40
    clear A40
    have HC5 := Aside0.mk H
    clear H
    go_enter Tryd.func16, Tryd.ntmps16
    go_upto_region 4 with (first | ((with_reducible refine gate_dst (N := 1) rfl ?_); refine bx_ (N := 1) (cs := #[.int .u32 a0_0, .slice A0_1 l0_1.length c0_1, .slice A0_2 l0_2.length c0_2, .bool a0_3, .int .i64 a0_4]) (t := 25) ?_; intro gb180 hg w6 hbox hb; have n0_ := Aside0.mk (below_step bel_ hb); have n1_ := Aside0.mk (hbox); have n2_ := Aside0.mk ((by rw [hg]; exact (below_size bel_) : w.heap.size ≤ gb180)); have n3_ := Aside0.mk ((by rw [hg]; exact (below_size bel_) : w.heap.size ≤ gb180)); clear HB; have HB := n0_; have BK180 := n1_; have GW180 := n2_; have GE180 := n3_; clear n0_ n1_ n2_ n3_; clear hb hbox hg) | ((with_reducible refine gate_dst (N := 2) rfl ?_); refine bx_ (N := 2) (cs := #[.int .u32 0, .slice none 0 0, .slice none 0 0, .bool false, .int .i64 0]) (t := 25) ?_; intro gb181 hg w7 hbox hb; have n0_ := Aside0.mk (blk_below (bk_ BK180) hb); have n1_ := Aside0.mk (below_step bel_ hb); have n2_ := Aside0.mk (hbox); have n3_ := Aside0.mk ((by rw [hg]; exact (below_size bel_) : w.heap.size ≤ gb181)); have n4_ := Aside0.mk ((by rw [hg]; exact (below_size bel_) : w.heap.size ≤ gb181)); have n5_ := Aside0.mk ((by rw [hg]; exact Nat.ne_of_lt (blk_lt (bk_ BK180)) : gb180 ≠ gb181)); have n6_ := Aside0.mk ((by rw [hg]; exact Nat.ne_of_gt (blk_lt (bk_ BK180)) : gb181 ≠ gb180)); clear BK180; clear HB; have BK180 := n0_; have HB := n1_; have BK181 := n2_; have GW181 := n3_; have GE181 := n4_; have NB180_181 := n5_; have NB181_180 := n6_; clear n0_ n1_ n2_ n3_ n4_ n5_ n6_; clear hb hbox hg; have hnb8 := NB180_181.out; have hnc8 := NB181_180.out; have hcz9_0 : w7.cell? ⟨gb180, 0, none⟩ = some (.int .u32 a0_0) := (blk_cell BK180.out 0).trans rfl; have hcz9_1 : w7.cell? ⟨gb180, 1, none⟩ = some (.slice A0_1 l0_1.length c0_1) := (blk_cell BK180.out 1).trans rfl; have hcz9_2 : w7.cell? ⟨gb180, 2, none⟩ = some (.slice A0_2 l0_2.length c0_2) := (blk_cell BK180.out 2).trans rfl; have hcz9_3 : w7.cell? ⟨gb180, 3, none⟩ = some (.bool a0_3) := (blk_cell BK180.out 3).trans rfl; have hcz9_4 : w7.cell? ⟨gb180, 4, none⟩ = some (.int .i64 a0_4) := (blk_cell BK180.out 4).trans rfl; have hfz9_0 := blk_frozen BK180.out 0; have hfz9_1 := blk_frozen BK180.out 1; have hfz9_2 := blk_frozen BK180.out 2; have hfz9_3 := blk_frozen BK180.out 3; have hfz9_4 := blk_frozen BK180.out 4) | ((with_reducible refine gate_callee (f := 22) rfl ?_); refine gl_ (some 7) Tryd.func22 #[.agg #[.int .u32 a0_0, .slice A0_1 l0_1.length c0_1, .slice A0_2 l0_2.length c0_2, .bool a0_3, .int .i64 a0_4]] ?_; (with_reducible refine (cambiumref03_Check.calls k a0_0 _ _ l0_1 _ _ l0_2 a0_3 a0_4 t182 _ ?side1 ?side2 ?side3 ?side4 A2.out).mono ?_); (case side1 => exact cb_ HR0_1); (case side2 => exact HC0_1.out); (case side3 => exact cb_ HR0_2); (case side4 => exact HC0_2.out); rintro e w10 ⟨rfl, hb⟩; refine ⟨_, rfl, ?_⟩; have n0_ := Aside0.mk (blk_below (bk_ BK180) hb); have n1_ := Aside0.mk (blk_below (bk_ BK181) hb); have n2_ := Aside0.mk (below_step bel_ hb); clear BK180; clear BK181; clear HB; have BK180 := n0_; have BK181 := n1_; have HB := n2_; clear n0_ n1_ n2_; (try clear hb); (try clear hb2); (try clear hk); (try clear hi); have hcz11_0 : w10.cell? ⟨gb180, 0, none⟩ = some (.int .u32 a0_0) := (blk_cell BK180.out 0).trans rfl; have hcz11_1 : w10.cell? ⟨gb180, 1, none⟩ = some (.slice A0_1 l0_1.length c0_1) := (blk_cell BK180.out 1).trans rfl; have hcz11_2 : w10.cell? ⟨gb180, 2, none⟩ = some (.slice A0_2 l0_2.length c0_2) := (blk_cell BK180.out 2).trans rfl; have hcz11_3 : w10.cell? ⟨gb180, 3, none⟩ = some (.bool a0_3) := (blk_cell BK180.out 3).trans rfl; have hcz11_4 : w10.cell? ⟨gb180, 4, none⟩ = some (.int .i64 a0_4) := (blk_cell BK180.out 4).trans rfl; have hfz11_0 := blk_frozen BK180.out 0; have hfz11_1 := blk_frozen BK180.out 1; have hfz11_2 := blk_frozen BK180.out 2; have hfz11_3 := blk_frozen BK180.out 3; have hfz11_4 := blk_frozen BK180.out 4) | ((with_reducible refine gate_callee (f := 12) rfl ?_); refine gl_ (some 11) Tryd.func12 #[.agg #[.int .u32 a0_0, .slice A0_1 l0_1.length c0_1, .slice A0_2 l0_2.length c0_2, .bool a0_3, .int .i64 a0_4]] ?_; (with_reducible refine (cambiumref03_Copy.calls a0_0 _ _ l0_1 _ _ l0_2 a0_3 a0_4 t183 t184 t187 t190 t191 _ ?side1 ?side2 ?side3 ?side4 A4.out).mono ?_); (case side1 => exact cb_ HR0_1); (case side2 => exact HC0_1.out); (case side3 => exact cb_ HR0_2); (case side4 => exact HC0_2.out); rintro e w12 ⟨v185, v188, rfl, ho0, ho1, hb⟩; refine ⟨_, rfl, ?_⟩; have n0_ := Aside0.mk (Kd.R_lower ho0 (below_size bel_)); have n1_ := Aside0.mk (Kd.R_lower ho1 (below_size bel_)); have n2_ := Aside0.mk (blk_below (bk_ BK180) hb); have n3_ := Aside0.mk (blk_below (bk_ BK181) hb); have n4_ := Aside0.mk (below_step bel_ hb); clear BK180; clear BK181; clear HB; have HO186 := n0_; have HO189 := n1_; have BK180 := n2_; have BK181 := n3_; have HB := n4_; clear n0_ n1_ n2_ n3_ n4_; (try clear hb); (try clear hb2); (try clear hk); (try clear hi); (try clear ho0); (try clear ho1); have hcz13_0 : w12.cell? ⟨gb180, 0, none⟩ = some (.int .u32 a0_0) := (blk_cell BK180.out 0).trans rfl; have hcz13_1 : w12.cell? ⟨gb180, 1, none⟩ = some (.slice A0_1 l0_1.length c0_1) := (blk_cell BK180.out 1).trans rfl; have hcz13_2 : w12.cell? ⟨gb180, 2, none⟩ = some (.slice A0_2 l0_2.length c0_2) := (blk_cell BK180.out 2).trans rfl; have hcz13_3 : w12.cell? ⟨gb180, 3, none⟩ = some (.bool a0_3) := (blk_cell BK180.out 3).trans rfl; have hcz13_4 : w12.cell? ⟨gb180, 4, none⟩ = some (.int .i64 a0_4) := (blk_cell BK180.out 4).trans rfl; have hfz13_0 := blk_frozen BK180.out 0; have hfz13_1 := blk_frozen BK180.out 1; have hfz13_2 := blk_frozen BK180.out 2; have hfz13_3 := blk_frozen BK180.out 3; have hfz13_4 := blk_frozen BK180.out 4; obtain ⟨Ao14, co14, eo14⟩ := Kd.R_slice HO186.out; subst eo14; obtain ⟨Ao15, co15, eo15⟩ := Kd.R_slice HO189.out; subst eo15))
    (try simp only [Act.put, List.setIfInBounds_toArray, List.set_cons_zero, List.set_cons_succ])
    go_cut [18] (fun v18 wc => ∃ (kq : Nat) (x18_4 : Bool), v18 = .bool x18_4 ∧ Aside0 (cambiumref03_Flush.j0 kq x18_4 t183 t184 t187 t190 t191 = some (r1, r2, r3, r4, r5, r6)) ∧ Aside0 (kq ≤ k) ∧ Aside0 (Kd.R k39 39 wc w.heap.size (fun k_ => some k_ ≠ ((.slice Ao15 t187.length co15) : Value).ownBlock) (.slice Ao14 t184.length co14) t184) ∧ Aside0 (Kd.R k39 39 wc w.heap.size (fun k_ => some k_ ≠ ((.slice Ao14 t184.length co14) : Value).ownBlock) (.slice Ao15 t187.length co15) t187) ∧ Aside0 (wc.heap[gb180]? = some (.cells #[.int .u32 t183, (.slice Ao14 t184.length co14), (.slice Ao15 t187.length co15), .bool t190, .int .i64 t191] 25 (0, 0))) ∧ Aside0 (wc.heap[gb181]? = some (.cells #[.int .u32 0, (.slice none 0 0), (.slice none 0 0), .bool false, .int .i64 0] 25 (0, 0))) ∧ Aside0 (Below w.heap.size w wc))
    case first =>
      have H := HC5.out
      clear HC5
      by_cases c16 : t190 = true
      · subst c16
        have H1 : (cambiumref03_Flush.j0 k true t183 t184 t187 true t191) = some (r1, r2, r3, r4, r5, r6) := by rw [if_pos rfl] at H; exact H
        clear H
        have H := H1
        clear H1
        have H' := Aside0.mk H
        clear H
        have hnb17 := NB180_181.out
        have hnc17 := NB181_180.out
        obtain ⟨hcz18_0, hcz18_1, hcz18_2, hcz18_3, hcz18_4⟩ := cl5_ BK180
        obtain ⟨hfz18_0, hfz18_1, hfz18_2, hfz18_3, hfz18_4⟩ := fz5_ BK180
        go_wp2
        go_meet
        case rel => exact ⟨_, (true), (by first | rfl | (simp; done) | (simp [*]; done)), H', ⟨by first | omega | exact Nat.le_refl _⟩, ⟨rw_ HO186⟩, ⟨rw_ HO189⟩, ⟨bs_⟩, ⟨bs_⟩, ⟨bel_⟩⟩
      replace c16 := Bool.eq_false_iff.mpr c16
      subst c16
      have H1 : (cambiumref03_Flush.j0 k (t191 == 0) t183 t184 t187 false t191) = some (r1, r2, r3, r4, r5, r6) := by rw [if_neg (show ¬ (false = true) by decide)] at H; exact H
      clear H
      have H := H1
      clear H1
      have H' := Aside0.mk H
      clear H
      have hnb19 := NB180_181.out
      have hnc19 := NB181_180.out
      obtain ⟨hcz20_0, hcz20_1, hcz20_2, hcz20_3, hcz20_4⟩ := cl5_ BK180
      obtain ⟨hfz20_0, hfz20_1, hfz20_2, hfz20_3, hfz20_4⟩ := fz5_ BK180
      go_wp2
      go_meet
      case rel => exact ⟨_, ((t191 == 0)), (by first | rfl | (simp; done) | (simp [*]; done)), H', ⟨by first | omega | exact Nat.le_refl _⟩, ⟨rw_ HO186⟩, ⟨rw_ HO189⟩, ⟨bs_⟩, ⟨bs_⟩, ⟨bel_⟩⟩
    case rest =>
      clear HC5
      try clear c1
      try clear c2
      try clear p2
      try clear c3
      try clear c3b0
      try clear c3b1
      try clear c8
      try clear c12
      try clear c16
      try clear c17
      try clear c19
      try clear hcz11_0
      try clear hcz11_1
      try clear hcz11_2
      try clear hcz11_3
      try clear hcz11_4
      try clear hcz13_0
      try clear hcz13_1
      try clear hcz13_2
      try clear hcz13_3
      try clear hcz13_4
      try clear hcz18_0
      try clear hcz18_1
      try clear hcz18_2
      try clear hcz18_3
      try clear hcz18_4
      try clear hcz20_0
      try clear hcz20_1
      try clear hcz20_2
      try clear hcz20_3
      try clear hcz20_4
      try clear hcz9_0
      try clear hcz9_1
      try clear hcz9_2
      try clear hcz9_3
      try clear hcz9_4
      try clear hfz11_0
      try clear hfz11_1
      try clear hfz11_2
      try clear hfz11_3
      try clear hfz11_4
      try clear hfz13_0
      try clear hfz13_1
      try clear hfz13_2
      try clear hfz13_3
      try clear hfz13_4
      try clear hfz18_0
      try clear hfz18_1
      try clear hfz18_2
      try clear hfz18_3
      try clear hfz18_4
      try clear hfz20_0
      try clear hfz20_1
      try clear hfz20_2
      try clear hfz20_3
      try clear hfz20_4
      try clear hfz9_0
      try clear hfz9_1
      try clear hfz9_2
      try clear hfz9_3
      try clear hfz9_4
      obtain ⟨kq, x18_4, rfl, HA, HJ4, HO_181001, HO_181002, BK180, BK181, HB⟩ := hcut
      cases kq with
      | zero => exact absurd HA.out (by simp [cambiumref03_Flush.j0])
      | succ kj4 =>
        have H := HA.out
        clear HA
        simp only [cambiumref03_Flush.j0] at H
        by_cases c21 : x18_4 = true
        · subst c21
          have H1 : (some (t183, t184, t187, true, t191, 17)) = some (r1, r2, r3, r4, r5, r6) := by rw [if_pos rfl] at H; exact H
          clear H
          have H := H1
          clear H1
          simp only [Option.some.injEq, Prod.mk.injEq] at H
          obtain ⟨rfl, rfl, rfl, rfl, rfl, rfl⟩ := H
          have hnb22 := NB180_181.out
          have hnc22 := NB181_180.out
          obtain ⟨hcz23_0, hcz23_1, hcz23_2, hcz23_3, hcz23_4⟩ := cl5_ BK180
          obtain ⟨hfz23_0, hfz23_1, hfz23_2, hfz23_3, hfz23_4⟩ := fz5_ BK180
          obtain ⟨hcz24_0, hcz24_1, hcz24_2, hcz24_3, hcz24_4⟩ := cl5_ BK181
          obtain ⟨hfz24_0, hfz24_1, hfz24_2, hfz24_3, hfz24_4⟩ := fz5_ BK181
          go_wp2
          refine bodyPost_ret (results_ct rfl _ _ gb181 25 #[.int .u32 t183, .slice Ao14 t184.length co14, .slice Ao15 t187.length co15, .bool true, .int .i64 t191] (0, 0) _ rfl (bs_) Tryd.underlying25 rfl (by kernel_rfl)) rfl ?_
          exact ⟨_, _, by first | rfl | (simp [errW_none, errW_some] <;> rfl) | (simp [*, errW_none, errW_some] <;> rfl), rw_ HO_181001, rw_ HO_181002, bel_⟩
        replace c21 := Bool.eq_false_iff.mpr c21
        subst c21
        have H1 : (if t191 > 0 then (cambiumref03_Flush.j1 kj4 t183 t184 t187 t190 (wrap64 (t191 - 1))) else (cambiumref03_Flush.j1 kj4 t183 t184 t187 t190 t191)) = some (r1, r2, r3, r4, r5, r6) := by rw [if_neg (show ¬ (false = true) by decide)] at H; exact H
        clear H
        have H := H1
        clear H1
        have HC25 := Aside0.mk H
        clear H
        have hnb26 := NB180_181.out
        have hnc26 := NB181_180.out
        obtain ⟨hcz27_0, hcz27_1, hcz27_2, hcz27_3, hcz27_4⟩ := cl5_ BK180
        obtain ⟨hfz27_0, hfz27_1, hfz27_2, hfz27_3, hfz27_4⟩ := fz5_ BK180
        go_upto_if 23 with (fail)
        go_cut [] (fun wc => ∃ (kq : Nat) (x181004_24 : Int), Aside0 (cambiumref03_Flush.j1 kq t183 t184 t187 t190 x181004_24 = some (r1, r2, r3, r4, r5, r6)) ∧ Aside0 (kq ≤ kj4) ∧ Aside0 (Kd.R k39 39 wc w.heap.size (fun k_ => some k_ ≠ ((.slice Ao15 t187.length co15) : Value).ownBlock) (.slice Ao14 t184.length co14) t184) ∧ Aside0 (Kd.R k39 39 wc w.heap.size (fun k_ => some k_ ≠ ((.slice Ao14 t184.length co14) : Value).ownBlock) (.slice Ao15 t187.length co15) t187) ∧ Aside0 (wc.heap[gb180]? = some (.cells #[.int .u32 t183, (.slice Ao14 t184.length co14), (.slice Ao15 t187.length co15), .bool t190, .int .i64 x181004_24] 25 (0, 0))) ∧ Aside0 (wc.heap[gb181]? = some (.cells #[.int .u32 0, (.slice none 0 0), (.slice none 0 0), .bool false, .int .i64 0] 25 (0, 0))) ∧ Aside0 (Below w.heap.size w wc))
        case first =>
          have H := HC25.out
          clear HC25
          by_cases c28 : t191 > 0
          · rw [if_pos c28] at H
            have c28b0 : decide (0 < t191) = true := decide_eq_true c28
            clear c28
            (first | rw [c28b0] | (simp only [i64_w, i32_w]; rw [c28b0]) | skip)
            have H' := Aside0.mk H
            clear H
            have hnb29 := NB180_181.out
            have hnc29 := NB181_180.out
            obtain ⟨hcz30_0, hcz30_1, hcz30_2, hcz30_3, hcz30_4⟩ := cl5_ BK180
            obtain ⟨hfz30_0, hfz30_1, hfz30_2, hfz30_3, hfz30_4⟩ := fz5_ BK180
            go_wp2
            go_meet
            case rel => exact ⟨_, (wrap64 (t191 - 1)), H', ⟨by have := HJ4.out; first | omega | exact Nat.le_refl _⟩, ⟨rw_ HO_181001⟩, ⟨rw_ HO_181002⟩, ⟨bs_⟩, ⟨bs_⟩, ⟨bel_⟩⟩
          rw [if_neg c28] at H
          have c28b0 : decide (0 < t191) = false := decide_eq_false c28
          clear c28
          (first | rw [c28b0] | (simp only [i64_w, i32_w]; rw [c28b0]) | skip)
          have H' := Aside0.mk H
          clear H
          go_wp2
          go_meet
          case rel => exact ⟨_, (t191), H', ⟨by have := HJ4.out; first | omega | exact Nat.le_refl _⟩, ⟨ra_ HO_181001⟩, ⟨ra_ HO_181002⟩, ⟨bk_ BK180⟩, ⟨bk_ BK181⟩, ⟨bel_⟩⟩
        case rest =>
          clear HC25
          try clear c1
          try clear c2
          try clear p2
          try clear c3
          try clear c3b0
          try clear c3b1
          try clear p6
          try clear c8
          try clear c12
          try clear c16
          try clear c17
          try clear c19
          try clear c21
          try clear c22
          try clear c26
          try clear c28
          try clear c28b0
          try clear c29
          try clear hcz11_0
          try clear hcz11_1
          try clear hcz11_2
          try clear hcz11_3
          try clear hcz11_4
          try clear hcz13_0
          try clear hcz13_1
          try clear hcz13_2
          try clear hcz13_3
          try clear hcz13_4
          try clear hcz18_0
          try clear hcz18_1
          try clear hcz18_2
          try clear hcz18_3
          try clear hcz18_4
          try clear hcz20_0
          try clear hcz20_1
          try clear hcz20_2
          try clear hcz20_3
          try clear hcz20_4
          try clear hcz23_0
          try clear hcz23_1
          try clear hcz23_2
          try clear hcz23_3
          try clear hcz23_4
          try clear hcz24_0
          try clear hcz24_1
          try clear hcz24_2
          try clear hcz24_3
          try clear hcz24_4
          try clear hcz27_0
          try clear hcz27_1
          try clear hcz27_2
          try clear hcz27_3
          try clear hcz27_4
          try clear hcz30_0
          try clear hcz30_1
          try clear hcz30_2
          try clear hcz30_3
          try clear hcz30_4
          try clear hcz9_0
          try clear hcz9_1
          try clear hcz9_2
          try clear hcz9_3
          try clear hcz9_4
          try clear hfz11_0
          try clear hfz11_1
          try clear hfz11_2
          try clear hfz11_3
          try clear hfz11_4
          try clear hfz13_0
          try clear hfz13_1
          try clear hfz13_2
          try clear hfz13_3
          try clear hfz13_4
          try clear hfz18_0
          try clear hfz18_1
          try clear hfz18_2
          try clear hfz18_3
          try clear hfz18_4
          try clear hfz20_0
          try clear hfz20_1
          try clear hfz20_2
          try clear hfz20_3
          try clear hfz20_4
          try clear hfz23_0
          try clear hfz23_1
          try clear hfz23_2
          try clear hfz23_3
          try clear hfz23_4
          try clear hfz24_0
          try clear hfz24_1
          try clear hfz24_2
          try clear hfz24_3
          try clear hfz24_4
          try clear hfz27_0
          try clear hfz27_1
          try clear hfz27_2
          try clear hfz27_3
          try clear hfz27_4
          try clear hfz30_0
          try clear hfz30_1
          try clear hfz30_2
          try clear hfz30_3
          try clear hfz30_4
          try clear hfz9_0
          try clear hfz9_1
          try clear hfz9_2
          try clear hfz9_3
          try clear hfz9_4
          try clear p2
          obtain ⟨kq, x181004_24, HA, HJ24, HO_181001, HO_181002, BK180, BK181, HB⟩ := hcut
          cases kq with
          | zero => exact absurd HA.out (by simp [cambiumref03_Flush.j1])
          | succ kj24 =>
            have H := HA.out
            clear HA
            simp only [cambiumref03_Flush.j1] at H
            have H' := Aside0.mk H
            clear H
            have hnb31 := NB180_181.out
            have hnc31 := NB181_180.out
            obtain ⟨hcz32_0, hcz32_1, hcz32_2, hcz32_3, hcz32_4⟩ := cl5_ BK180
            obtain ⟨hfz32_0, hfz32_1, hfz32_2, hfz32_3, hfz32_4⟩ := fz5_ BK180
            go_wp2
            go_loopg [31] kj24 (fun kq v31 w' => ∃ (x31_3 : Int) (x181001_3 : List (S39)) (u181001 : Value), v31 = .int .i64 x31_3 ∧ Aside0 (cambiumref03_Flush.l0 kq t187 (t187.length : Int) x31_3 t183 x181001_3 t187 t190 x181004_24 = some (r1, r2, r3, r4, r5, r6)) ∧ Aside0 (kq ≤ kj24) ∧ Aside0 (Kd.R k39 39 w' w.heap.size (fun k_ => some k_ ≠ (u181001 : Value).ownBlock) (.slice Ao15 t187.length co15) t187) ∧ Aside0 (Kd.R k39 39 w' w.heap.size (fun k_ => some k_ ≠ ((.slice Ao15 t187.length co15) : Value).ownBlock ∧ some k_ ≠ ((.slice Ao15 t187.length co15) : Value).ownBlock) u181001 x181001_3) ∧ Aside0 (Kd.R k39 39 w' w.heap.size (fun k_ => some k_ ≠ (u181001 : Value).ownBlock) (.slice Ao15 t187.length co15) t187) ∧ Aside0 (w'.heap[gb180]? = some (.cells #[.int .u32 t183, u181001, (.slice Ao15 t187.length co15), .bool t190, .int .i64 x181004_24] 25 (0, 0))) ∧ Aside0 (w'.heap[gb181]? = some (.cells #[.int .u32 0, (.slice none 0 0), (.slice none 0 0), .bool false, .int .i64 0] 25 (0, 0))) ∧ Aside0 (Below w.heap.size w w'))
            case atStart => exact ⟨(0), (t184), (.slice Ao14 t184.length co14), (by first | rfl | (simp; done) | (simp [*]; done)), H', ⟨Nat.le_refl _⟩, ⟨ra_ HO_181002⟩, ⟨by (with_reducible repeat (first | apply Kd.R_alloc | apply Kd.R_drewN | apply Kd.R_drew)); exact Kd.R_mono HO_181001.out (fun _ hk => ⟨hk, hk⟩)⟩, ⟨ra_ HO_181002⟩, ⟨bk_ BK180⟩, ⟨bk_ BK181⟩, ⟨bel_⟩⟩
            case round =>
              clear H'
              try clear c1
              try clear c2
              try clear p2
              try clear c3
              try clear c3b0
              try clear c3b1
              try clear p6
              try clear c8
              try clear c12
              try clear c16
              try clear c17
              try clear c19
              try clear c21
              try clear c22
              try clear c26
              try clear c28
              try clear c28b0
              try clear c29
              try clear c31
              try clear hcz11_0
              try clear hcz11_1
              try clear hcz11_2
              try clear hcz11_3
              try clear hcz11_4
              try clear hcz13_0
              try clear hcz13_1
              try clear hcz13_2
              try clear hcz13_3
              try clear hcz13_4
              try clear hcz18_0
              try clear hcz18_1
              try clear hcz18_2
              try clear hcz18_3
              try clear hcz18_4
              try clear hcz20_0
              try clear hcz20_1
              try clear hcz20_2
              try clear hcz20_3
              try clear hcz20_4
              try clear hcz23_0
              try clear hcz23_1
              try clear hcz23_2
              try clear hcz23_3
              try clear hcz23_4
              try clear hcz24_0
              try clear hcz24_1
              try clear hcz24_2
              try clear hcz24_3
              try clear hcz24_4
              try clear hcz27_0
              try clear hcz27_1
              try clear hcz27_2
              try clear hcz27_3
              try clear hcz27_4
              try clear hcz30_0
              try clear hcz30_1
              try clear hcz30_2
              try clear hcz30_3
              try clear hcz30_4
              try clear hcz32_0
              try clear hcz32_1
              try clear hcz32_2
              try clear hcz32_3
              try clear hcz32_4
              try clear hcz9_0
              try clear hcz9_1
              try clear hcz9_2
              try clear hcz9_3
              try clear hcz9_4
              try clear hfz11_0
              try clear hfz11_1
              try clear hfz11_2
              try clear hfz11_3
              try clear hfz11_4
              try clear hfz13_0
              try clear hfz13_1
              try clear hfz13_2
              try clear hfz13_3
              try clear hfz13_4
              try clear hfz18_0
              try clear hfz18_1
              try clear hfz18_2
              try clear hfz18_3
              try clear hfz18_4
              try clear hfz20_0
              try clear hfz20_1
              try clear hfz20_2
              try clear hfz20_3
              try clear hfz20_4
              try clear hfz23_0
              try clear hfz23_1
              try clear hfz23_2
              try clear hfz23_3
              try clear hfz23_4
              try clear hfz24_0
              try clear hfz24_1
              try clear hfz24_2
              try clear hfz24_3
              try clear hfz24_4
              try clear hfz27_0
              try clear hfz27_1
              try clear hfz27_2
              try clear hfz27_3
              try clear hfz27_4
              try clear hfz30_0
              try clear hfz30_1
              try clear hfz30_2
              try clear hfz30_3
              try clear hfz30_4
              try clear hfz32_0
              try clear hfz32_1
              try clear hfz32_2
              try clear hfz32_3
              try clear hfz32_4
              try clear hfz9_0
              try clear hfz9_1
              try clear hfz9_2
              try clear hfz9_3
              try clear hfz9_4
              try clear p2
              try clear p6
              obtain ⟨x31_3, x181001_3, u181001, rfl, HA, HK3, HO_29, HO_181001, HO_181002, BK180, BK181, HB⟩ := hrel
              cases gk with
              | zero => exact absurd HA.out (by simp [cambiumref03_Flush.l0])
              | succ k3 =>
                have H := HA.out
                clear HA
                simp only [cambiumref03_Flush.l0] at H
                by_cases c33 : x31_3 < (t187.length : Int)
                · rw [if_pos c33] at H
                  have c33b0 : decide (x31_3 < (t187.length : Int)) = true := decide_eq_true c33
                  clear c33
                  by_cases c34 : 0 ≤ x31_3
                  · rw [if_pos c34] at H
                    have c34b0 : decide (0 ≤ x31_3) = true := decide_eq_true c34
                    clear c34
                    by_cases c35 : x31_3 < (t187.length : Int)
                    · rw [if_pos c35] at H
                      have c35b0 : decide (x31_3 < (t187.length : Int)) = true := decide_eq_true c35
                      clear c35
                      replace H := Option.bind_eq_some_iff.mp H
                      obtain ⟨t194, A360, H⟩ := H
                      replace H : (cambiumref03_Flush.l0 k3 t187 (t187.length : Int) (wrap64 (x31_3 + 1)) t183 t194 t187 t190 x181004_24) = some (r1, r2, r3, r4, r5, r6) := H
                      have A36 := Aside0.mk A360
                      clear A360
                      have H' := Aside0.mk H
                      clear H
                      have p192 : 0 ≤ (x31_3 : Int) := of_decide_eq_true (by first | (with_reducible assumption) | assumption)
                      have q192 : x31_3 < (t187.length : Int) := of_decide_eq_true (by first | (with_reducible assumption) | assumption)
                      obtain ⟨ad192, e192, hx192_0, hx192_1⟩ := at_T39 (Kd.R_reads' HO_29.out).2.2 x31_3 p192 q192
                      cases e192
                      replace p192 := eq_true p192
                      replace q192 := eq_true q192
                      go_wp2_with (first | ((with_reducible refine gate_dst (N := 5) rfl ?_); refine bx_ (N := 5) (cs := #[.int .u32 0, .string (⟨#[]⟩ : ByteArray)]) (t := 39) ?_; intro gb193 hg w37 hbox hb; have BK193 := Aside0.mk (hbox); have GW193 := ge_ hg; have GE193 := ge_ hg; have NB180_193 := nl_ BK180 hg; have NB193_180 := ng_ BK180 hg; have NB181_193 := nl_ BK181 hg; have NB193_181 := ng_ BK181 hg; replace HO_29 := Aside0.mk (Kd.R_below (Kd.R_elderB (ra_ HO_29) gb193 (Nat.le_of_eq hg.symm)) hb); replace HO_181001 := Aside0.mk (Kd.R_below (Kd.R_elderB (ra_ HO_181001) gb193 (Nat.le_of_eq hg.symm)) hb); replace HO_181002 := Aside0.mk (Kd.R_below (Kd.R_elderB (ra_ HO_181002) gb193 (Nat.le_of_eq hg.symm)) hb); replace BK180 := kb_ BK180 hb; replace BK181 := kb_ BK181 hb; replace HB := hb_ hb; clear hb hbox hg; have hnb38 := NB193_180.out; have hnc38 := NB180_193.out; have hnb39 := NB193_181.out; have hnc39 := NB181_193.out; obtain ⟨hcz40_0, hcz40_1⟩ := cl2_ BK193; obtain ⟨hfz40_0, hfz40_1⟩ := fz2_ BK193; have hnb41 := NB180_181.out; have hnc41 := NB181_180.out; obtain ⟨hcz42_0, hcz42_1, hcz42_2, hcz42_3, hcz42_4⟩ := cl5_ BK180; obtain ⟨hfz42_0, hfz42_1, hfz42_2, hfz42_3, hfz42_4⟩ := fz5_ BK180; obtain ⟨Ao43, co43, eo43⟩ := Kd.R_slice HO_181001.out; subst eo43) | ((with_reducible refine gate_callee (f := 32) rfl ?_); refine gl_ (some 38) Tryd.func32 #[.slice Ao43 x181001_3.length co43, .agg #[.int .u32 ((rd_T39 t187 x31_3).f0), .string ((rd_T39 t187 x31_3).f1)]] ?_; (with_reducible refine (cambiumref03_put.calls k3 _ _ x181001_3 ((rd_T39 t187 x31_3).f0) ((rd_T39 t187 x31_3).f1) t194 _ ?side1 ?side2 A36.out).mono ?_); (case side1 => refine (Kd.R_reads' (e := 39) (base := w.heap.size) (ok := fun k_ => ((some k_ ≠ (.slice (some ad192) t187.length co15 : Value).ownBlock ∧ some k_ ≠ (.slice (some ad192) t187.length co15 : Value).ownBlock) ∧ k_ ≠ gb193)) (n := x181001_3.length) (c := co43) ?_).2.2; exact (by (with_reducible repeat (first | apply Kd.R_alloc | apply Kd.R_drewN | apply Kd.R_drew)); exact (Kd.R_mono (Kd.R_far (p := ⟨gb193, 1, none⟩) (Kd.R_far (p := ⟨gb193, 0, none⟩) (Kd.R_mono HO_181001.out (fun k_ hk => (⟨hk, hk.2⟩ : _ ∧ k_ ≠ gb193))) (fun _ hk => hk.2) (.int .u32 ((rd_T39 t187 x31_3).f0))) (fun _ hk => hk.2) (.string ((rd_T39 t187 x31_3).f1))) (fun _ h_ => h_.1)))); (case side2 => exact (Kd.R_reads' HO_181001.out).2.1); rintro e w44 ⟨v195, rfl, ho0, hb⟩; refine ⟨_, rfl, ?_⟩; have HO196 := Aside0.mk (Kd.R_lower (Kd.R_newB (Kd.R_new' (Kd.R_new' (Kd.R_new' ho0 (Kd.R_lt (by (with_reducible repeat (first | apply Kd.R_alloc | apply Kd.R_drewN | apply Kd.R_drew)); exact (Kd.R_mono (Kd.R_far (p := ⟨gb193, 1, none⟩) (Kd.R_far (p := ⟨gb193, 0, none⟩) (Kd.R_mono HO_29.out (fun k_ hk => (⟨hk, hk.2⟩ : _ ∧ k_ ≠ gb193))) (fun _ hk => hk.2) (.int .u32 ((rd_T39 t187 x31_3).f0))) (fun _ hk => hk.2) (.string ((rd_T39 t187 x31_3).f1))) (fun _ h_ => h_.1))))) (Kd.R_lt (by (with_reducible repeat (first | apply Kd.R_alloc | apply Kd.R_drewN | apply Kd.R_drew)); exact (Kd.R_mono (Kd.R_far (p := ⟨gb193, 1, none⟩) (Kd.R_far (p := ⟨gb193, 0, none⟩) (Kd.R_mono HO_181001.out (fun k_ hk => (⟨hk, hk.2⟩ : _ ∧ k_ ≠ gb193))) (fun _ hk => hk.2) (.int .u32 ((rd_T39 t187 x31_3).f0))) (fun _ hk => hk.2) (.string ((rd_T39 t187 x31_3).f1))) (fun _ h_ => h_.1))))) (Kd.R_lt (by (with_reducible repeat (first | apply Kd.R_alloc | apply Kd.R_drewN | apply Kd.R_drew)); exact (Kd.R_mono (Kd.R_far (p := ⟨gb193, 1, none⟩) (Kd.R_far (p := ⟨gb193, 0, none⟩) (Kd.R_mono HO_181002.out (fun k_ hk => (⟨hk, hk.2⟩ : _ ∧ k_ ≠ gb193))) (fun _ hk => hk.2) (.int .u32 ((rd_T39 t187 x31_3).f0))) (fun _ hk => hk.2) (.string ((rd_T39 t187 x31_3).f1))) (fun _ h_ => h_.1))))) (g := gb193) (o := .cells #[.int .u32 ((rd_T39 t187 x31_3).f0), .string ((rd_T39 t187 x31_3).f1)] 39 (0, 0)) (bs_)) (below_size bel_)); replace HO_29 := Aside0.mk (Kd.R_elder' (by (with_reducible repeat (first | apply Kd.R_alloc | apply Kd.R_drewN | apply Kd.R_drew)); exact (Kd.R_mono (Kd.R_far (p := ⟨gb193, 1, none⟩) (Kd.R_far (p := ⟨gb193, 0, none⟩) (Kd.R_mono HO_29.out (fun k_ hk => (⟨hk, hk.2⟩ : _ ∧ k_ ≠ gb193))) (fun _ hk => hk.2) (.int .u32 ((rd_T39 t187 x31_3).f0))) (fun _ hk => hk.2) (.string ((rd_T39 t187 x31_3).f1))) (fun _ h_ => h_.1))) (Kd.R_base ho0) hb); replace HO_181001 := Aside0.mk (Kd.R_elder' (by (with_reducible repeat (first | apply Kd.R_alloc | apply Kd.R_drewN | apply Kd.R_drew)); exact (Kd.R_mono (Kd.R_far (p := ⟨gb193, 1, none⟩) (Kd.R_far (p := ⟨gb193, 0, none⟩) (Kd.R_mono HO_181001.out (fun k_ hk => (⟨hk, hk.2⟩ : _ ∧ k_ ≠ gb193))) (fun _ hk => hk.2) (.int .u32 ((rd_T39 t187 x31_3).f0))) (fun _ hk => hk.2) (.string ((rd_T39 t187 x31_3).f1))) (fun _ h_ => h_.1))) (Kd.R_base ho0) hb); replace HO_181002 := Aside0.mk (Kd.R_elder' (by (with_reducible repeat (first | apply Kd.R_alloc | apply Kd.R_drewN | apply Kd.R_drew)); exact (Kd.R_mono (Kd.R_far (p := ⟨gb193, 1, none⟩) (Kd.R_far (p := ⟨gb193, 0, none⟩) (Kd.R_mono HO_181002.out (fun k_ hk => (⟨hk, hk.2⟩ : _ ∧ k_ ≠ gb193))) (fun _ hk => hk.2) (.int .u32 ((rd_T39 t187 x31_3).f0))) (fun _ hk => hk.2) (.string ((rd_T39 t187 x31_3).f1))) (fun _ h_ => h_.1))) (Kd.R_base ho0) hb); replace BK180 := Aside0.mk (blk_below (g := gb180) (o := .cells #[.int .u32 t183, .slice Ao43 x181001_3.length co43, .slice (some ad192) t187.length co15, .bool t190, .int .i64 x181004_24] 25 (0, 0)) (bs_) hb); replace BK181 := Aside0.mk (blk_below (g := gb181) (o := .cells #[.int .u32 0, .slice none 0 0, .slice none 0 0, .bool false, .int .i64 0] 25 (0, 0)) (bs_) hb); replace BK193 := Aside0.mk (blk_below (g := gb193) (o := .cells #[.int .u32 ((rd_T39 t187 x31_3).f0), .string ((rd_T39 t187 x31_3).f1)] 39 (0, 0)) (bs_) hb); replace HB := hb_ hb; (try clear hb); (try clear hb2); (try clear hk); (try clear hi); (try clear ho0); obtain ⟨Ao45, co45, eo45⟩ := Kd.R_slice HO196.out; subst eo45; obtain ⟨hcz46_0, hcz46_1, hcz46_2, hcz46_3, hcz46_4⟩ := cl5_ BK180; obtain ⟨hfz46_0, hfz46_1, hfz46_2, hfz46_3, hfz46_4⟩ := fz5_ BK180))
                      go_roundg k3
                      case measure => have := HJ4.out; have := HJ24.out; have := HK3.out; omega
                      case rel => exact ⟨(wrap64 (x31_3 + 1)), (t194), (.slice Ao45 t194.length co45), (by first | rfl | (simp; done) | (simp [*]; done)), H', ⟨by have := HJ4.out; have := HJ24.out; have := HK3.out; omega⟩, ⟨by (with_reducible repeat (first | apply Kd.R_alloc | apply Kd.R_drewN | apply Kd.R_drew)); exact Kd.R_mono (Kd.R_far (p := ⟨gb180, 1, none⟩) (Kd.R_types HO_29.out BK180.out (by decide)) (fun _ hk => hk.2) (.slice Ao45 t194.length co45)) (fun _ hk => hk.1.2)⟩, ⟨by (with_reducible repeat (first | apply Kd.R_alloc | apply Kd.R_drewN | apply Kd.R_drew)); exact Kd.R_mono (Kd.R_far (p := ⟨gb180, 1, none⟩) (Kd.R_types HO196.out BK180.out (by decide)) (fun _ hk => hk.2) (.slice Ao45 t194.length co45)) (fun _ hk => ⟨hk.1.1.1.1.2, hk.1.1.2⟩)⟩, ⟨by (with_reducible repeat (first | apply Kd.R_alloc | apply Kd.R_drewN | apply Kd.R_drew)); exact Kd.R_mono (Kd.R_far (p := ⟨gb180, 1, none⟩) (Kd.R_types HO_181002.out BK180.out (by decide)) (fun _ hk => hk.2) (.slice Ao45 t194.length co45)) (fun _ hk => hk.1.2)⟩, ⟨bs_⟩, ⟨bs_⟩, ⟨bel_⟩⟩
                    rw [if_neg c35] at H
                    exact absurd H (by simp)
                  rw [if_neg c34] at H
                  exact absurd H (by simp)
                rw [if_neg c33] at H
                have c33b0 : decide (x31_3 < (t187.length : Int)) = false := decide_eq_false c33
                clear c33
                simp only [Option.some.injEq, Prod.mk.injEq] at H
                obtain ⟨rfl, rfl, rfl, rfl, rfl, rfl⟩ := H
                have hnb47 := NB180_181.out
                have hnc47 := NB181_180.out
                obtain ⟨hcz48_0, hcz48_1, hcz48_2, hcz48_3, hcz48_4⟩ := cl5_ BK180
                obtain ⟨hfz48_0, hfz48_1, hfz48_2, hfz48_3, hfz48_4⟩ := fz5_ BK180
                obtain ⟨hcz49_0, hcz49_1, hcz49_2, hcz49_3, hcz49_4⟩ := cl5_ BK181
                obtain ⟨hfz49_0, hfz49_1, hfz49_2, hfz49_3, hfz49_4⟩ := fz5_ BK181
                obtain ⟨Ao50, co50, eo50⟩ := Kd.R_slice HO_181001.out
                subst eo50
                go_wp2
                refine bodyPost_ret (results_ct rfl _ _ gb181 25 #[.int .u32 t183, .slice Ao50 x181001_3.length co50, .slice none 0 0, .bool t190, .int .i64 x181004_24] (0, 0) _ rfl (bs_) Tryd.underlying25 rfl (by kernel_rfl)) rfl ?_
                exact ⟨_, _, by first | rfl | (simp [errW_none, errW_some] <;> rfl) | (simp [*, errW_none, errW_some] <;> rfl), by (with_reducible repeat (first | apply Kd.R_alloc | apply Kd.R_drewN | apply Kd.R_drew)); exact Kd.R_mono (Kd.R_far (p := ⟨gb181, 4, none⟩) (Kd.R_far (p := ⟨gb181, 3, none⟩) (Kd.R_far (p := ⟨gb181, 2, none⟩) (Kd.R_far (p := ⟨gb181, 1, none⟩) (Kd.R_far (p := ⟨gb181, 0, none⟩) (Kd.R_far (p := ⟨gb180, 2, none⟩) (Kd.R_types (Kd.R_types HO_181001.out BK180.out (by decide)) BK181.out (by decide)) (fun _ hk => hk.1.2) (.slice none 0 0)) (fun _ hk => hk.2) (.int .u32 t183)) (fun _ hk => hk.2) (.slice Ao50 x181001_3.length co50)) (fun _ hk => hk.2) (.slice none 0 0)) (fun _ hk => hk.2) (.bool t190)) (fun _ hk => hk.2) (.int .i64 x181004_24)) (fun _ hk => (by simp [Value.ownBlock])), by first | exact Kd.R_nil _ _ _ _ _ | exact Kd.N_nil _ _ _ _ _ | exact Kd.V_nil _ _ _ _ _ | exact Kd.Q_nil _ _ _ _ _ | exact Kd.S_nil _ _ _ _ _, bel_⟩
  rw [if_neg c3] at H
  have c3b0 : (t182 == 0) = false := beq_eq_false_iff_ne.mpr c3
  have c3b1 : (t182 != 0) = true := bne_iff_ne.mpr c3
  simp only [Option.some.injEq, Prod.mk.injEq] at H
  obtain ⟨rfl, rfl, rfl, rfl, rfl, rfl⟩ := H
  go_enter Tryd.func16, Tryd.ntmps16
  go_wp2_with (first | ((with_reducible refine gate_dst (N := 1) rfl ?_); refine bx_ (N := 1) (cs := #[.int .u32 a0_0, .slice A0_1 l0_1.length c0_1, .slice A0_2 l0_2.length c0_2, .bool a0_3, .int .i64 a0_4]) (t := 25) ?_; intro gb180 hg w51 hbox hb; have BK180 := Aside0.mk (hbox); have GW180 := ge_ hg; have GE180 := ge_ hg; replace HB := hb_ hb; clear hb hbox hg) | ((with_reducible refine gate_dst (N := 2) rfl ?_); refine bx_ (N := 2) (cs := #[.int .u32 0, .slice none 0 0, .slice none 0 0, .bool false, .int .i64 0]) (t := 25) ?_; intro gb181 hg w52 hbox hb; have BK181 := Aside0.mk (hbox); have GW181 := ge_ hg; have GE181 := ge_ hg; have NB180_181 := nl_ BK180 hg; have NB181_180 := ng_ BK180 hg; replace BK180 := kb_ BK180 hb; replace HB := hb_ hb; clear hb hbox hg; have hnb53 := NB180_181.out; have hnc53 := NB181_180.out; obtain ⟨hcz54_0, hcz54_1, hcz54_2, hcz54_3, hcz54_4⟩ := cl5_ BK180; obtain ⟨hfz54_0, hfz54_1, hfz54_2, hfz54_3, hfz54_4⟩ := fz5_ BK180) | ((with_reducible refine gate_callee (f := 22) rfl ?_); refine gl_ (some 7) Tryd.func22 #[.agg #[.int .u32 a0_0, .slice A0_1 l0_1.length c0_1, .slice A0_2 l0_2.length c0_2, .bool a0_3, .int .i64 a0_4]] ?_; (with_reducible refine (cambiumref03_Check.calls k a0_0 _ _ l0_1 _ _ l0_2 a0_3 a0_4 t182 _ ?side1 ?side2 ?side3 ?side4 A2.out).mono ?_); (case side1 => exact cb_ HR0_1); (case side2 => exact HC0_1.out); (case side3 => exact cb_ HR0_2); (case side4 => exact HC0_2.out); rintro e w55 ⟨rfl, hb⟩; refine ⟨_, rfl, ?_⟩; replace BK180 := kb_ BK180 hb; replace BK181 := kb_ BK181 hb; replace HB := hb_ hb; (try clear hb); (try clear hb2); (try clear hk); (try clear hi); obtain ⟨hcz56_0, hcz56_1, hcz56_2, hcz56_3, hcz56_4⟩ := cl5_ BK181; obtain ⟨hfz56_0, hfz56_1, hfz56_2, hfz56_3, hfz56_4⟩ := fz5_ BK181))
  refine bodyPost_ret (results_ct rfl _ _ gb181 25 #[.int .u32 0, .slice none 0 0, .slice none 0 0, .bool false, .int .i64 0] (0, 0) _ rfl (bs_) Tryd.underlying25 rfl (by kernel_rfl)) rfl ?_
  exact ⟨_, _, by first | rfl | (simp [errW_none, errW_some] <;> rfl) | (simp [*, errW_none, errW_some] <;> rfl), by first | exact Kd.R_nil _ _ _ _ _ | exact Kd.N_nil _ _ _ _ _ | exact Kd.V_nil _ _ _ _ _ | exact Kd.Q_nil _ _ _ _ _ | exact Kd.S_nil _ _ _ _ _, by first | exact Kd.R_nil _ _ _ _ _ | exact Kd.N_nil _ _ _ _ _ | exact Kd.V_nil _ _ _ _ _ | exact Kd.Q_nil _ _ _ _ _ | exact Kd.S_nil _ _ _ _ _, bel_⟩

end Go.Proofs.YtcphflfjhkeooaaDoor.Z
end

section
-- Printed by a program of this session (mp.py) out of the translation.
namespace Go.Proofs.YtcphflfjhkeooaaDoor.Z
open Go.RowKit Go.Proofs.YtcphflfjhkeooaaDoorW.PrintWords Go.Proofs.YtcphflfjhkeooaaDoorW.PrintLast Go.Proofs.YtcphflfjhkeooaaDoorW.PrintMore
attribute [local go_sem] max2_int min2_int max_two min_two max_three min_three max_four min_four   -- for this text's walks alone
set_option linter.unusedVariables false
set_option linter.unusedSimpArgs false

/-! ### cambiumref03_Read: function 18 -/
def cambiumref03_Read.l0 : Nat → Int → ByteArray → List (S39) → Int → Int → Option (ByteArray × Int)
  | 0, _, _, _, _, _ => none
  | k + 1, x1, x6, x27, x28, x29 => if x29 < x28 then (if 0 ≤ x29 then (if x29 < (x27.length : Int) then (if ((rd_T39 x27 x29).f0) = x1 then (cambiumref03_Read.l0 k x1 ((rd_T39 x27 x29).f1) x27 x28 (wrap64 (x29 + 1))) else (cambiumref03_Read.l0 k x1 x6 x27 x28 (wrap64 (x29 + 1)))) else (none)) else (none)) else (some (x6, 0))
def cambiumref03_Read.f (k : Nat) (a0_0 : Int) (l0_1 : List (S39)) (l0_2 : List (S39)) (a0_3 : Bool) (a0_4 : Int) (a1 : Int) : Option (ByteArray × Int) := (cambiumref03_Check.f k a0_0 l0_1 l0_2 a0_3 a0_4).bind fun t198 => (if t198 = 0 then (if a0_3 = true then (some ((⟨#[]⟩ : ByteArray), 17)) else (if a1 ≥ a0_0 then (some ((⟨#[]⟩ : ByteArray), 1)) else ((some (([] : List (S39)) : List (S39))).bind fun y199 => (if y199.length + l0_1.length < 5864062014805 then ((some (y199 ++ l0_1 : List (S39))).bind fun y202 => (if y202.length + l0_2.length < 5864062014805 then ((some (y202 ++ l0_2 : List (S39))).bind fun y205 => (cambiumref03_Read.l0 k a1 (⟨#[]⟩ : ByteArray) y205 (y205.length : Int) 0)) else (none))) else (none))))) else (some ((⟨#[]⟩ : ByteArray), 7)))
theorem cambiumref03_Read.mono_l : ∀ k, (∀ y0 y1 y2 y3 y4, LeO (cambiumref03_Read.l0 k y0 y1 y2 y3 y4) (cambiumref03_Read.l0 (k + 1) y0 y1 y2 y3 y4))
  | 0 => fun _ _ _ _ _ r h => by simp [cambiumref03_Read.l0] at h
  | k + 1 => by
    have ih0 := cambiumref03_Read.mono_l k
    · intro y0 y1 y2 y3 y4
      unfold cambiumref03_Read.l0
      repeat' first
      | (with_reducible exact ih0 _ _ _ _ _)
      | (with_reducible exact cambiumref03_Check.mono _ _ _ _ _ _)
      | (with_reducible exact LeO.refl _)
      | (with_reducible exact LeO.none _)
      | (with_reducible refine LeO.ite ?_ ?_)
      | (with_reducible refine LeO.bind ?_ (fun _ => ?_))
      | exact ih0 _ _ _ _ _
      | exact cambiumref03_Check.mono _ _ _ _ _ _
      | exact LeO.none _
      | refine LeO.ite ?_ ?_
      | refine LeO.bind ?_ (fun _ => ?_)
theorem cambiumref03_Read.mono : ∀ a0 a1 a2 a3 a4 a5 k, LeO (cambiumref03_Read.f k a0 a1 a2 a3 a4 a5) (cambiumref03_Read.f (k + 1) a0 a1 a2 a3 a4 a5) := by
  intro a0 a1 a2 a3 a4 a5 k
  have ih0 := cambiumref03_Read.mono_l k
  unfold cambiumref03_Read.f
  repeat' first
      | (with_reducible exact ih0 _ _ _ _ _)
      | (with_reducible exact cambiumref03_Check.mono _ _ _ _ _ _)
      | (with_reducible exact LeO.refl _)
      | (with_reducible exact LeO.none _)
      | (with_reducible refine LeO.ite ?_ ?_)
      | (with_reducible refine LeO.bind ?_ (fun _ => ?_))
      | exact ih0 _ _ _ _ _
      | exact cambiumref03_Check.mono _ _ _ _ _ _
      | exact LeO.none _
      | refine LeO.ite ?_ ?_
      | refine LeO.bind ?_ (fun _ => ?_)
def cambiumref03_Read.T8 : Bool × List (List Nat × List Nat) := (true, [([], []), ([], []), ([1], [1]), ([0, 2], [0, 2]), ([], []), ([4], [4]), ([3, 5, 3], [3, 5]), ([6], [6]), ([], [])])
def cambiumref03_Read.B8 : List Nat := [0, 0, 2, 7, 0, 16, 63, 127, 0]
theorem cambiumref03_Read.tab8 : rtab .any (opsOf Tryd.f18 8) = cambiumref03_Read.T8 := by kernel_rfl
theorem cambiumref03_Read.bits8 : waitsOk cambiumref03_Read.T8.2 cambiumref03_Read.B8 = true := by kernel_rfl
set_option maxHeartbeats 8000000 in
set_option maxRecDepth 100000 in
theorem cambiumref03_Read.calls (k : Nat) (a0_0 : Int) (A0_1 : Option Addr) (c0_1 : Nat) (l0_1 : List (S39)) (A0_2 : Option Addr) (c0_2 : Nat) (l0_2 : List (S39)) (a0_3 : Bool) (a0_4 : Int) (a1 : Int) (r1 : ByteArray) (r2 : Int) (w : World) (hr0_1 : Kd.C k39 w A0_1 l0_1.length l0_1) (hc0_1 : l0_1.length ≤ c0_1) (hr0_2 : Kd.C k39 w A0_2 l0_2.length l0_2) (hc0_2 : l0_2.length ≤ c0_2) (h : cambiumref03_Read.f k a0_0 l0_1 l0_2 a0_3 a0_4 a1 = some (r1, r2)) :
    Calls Tryd.prog 18 #[.agg #[.int .u32 a0_0, .slice A0_1 l0_1.length c0_1, .slice A0_2 l0_2.length c0_2, .bool a0_3, .int .i64 a0_4], .int .u32 a1] w fun e w' => e = .returned (.tuple #[.string r1, .int .i64 r2]) ∧ Below w.heap.size w w' := by
  have hu25 := Tryd.underlying25
  have hu39 := Tryd.underlying39
  have HR0_1 := Aside0.mk hr0_1
  have HC0_1 := Aside0.mk hc0_1
  clear hr0_1 hc0_1
  have HR0_2 := Aside0.mk hr0_2
  have HC0_2 := Aside0.mk hc0_2
  clear hr0_2 hc0_2
  have HB := Aside0.mk (Below.refl w.heap.size w)
  have H : ((cambiumref03_Check.f k a0_0 l0_1 l0_2 a0_3 a0_4).bind fun t198 => (if t198 = 0 then (if a0_3 = true then (some ((⟨#[]⟩ : ByteArray), 17)) else (if a1 ≥ a0_0 then (some ((⟨#[]⟩ : ByteArray), 1)) else ((some (([] : List (S39)) : List (S39))).bind fun y199 => (if y199.length + l0_1.length < 5864062014805 then ((some (y199 ++ l0_1 : List (S39))).bind fun y202 => (if y202.length + l0_2.length < 5864062014805 then ((some (y202 ++ l0_2 : List (S39))).bind fun y205 => (cambiumref03_Read.l0 k a1 (⟨#[]⟩ : ByteArray) y205 (y205.length : Int) 0)) else (none))) else (none))))) else (some ((⟨#[]⟩ : ByteArray), 7)))) = some (r1, r2) := h
  clear h
  replace H := Option.bind_eq_some_iff.mp H
  obtain ⟨t198, A30, H⟩ := H
  replace H : (if t198 = 0 then (if a0_3 = true then (some ((⟨#[]⟩ : ByteArray), 17)) else (if a1 ≥ a0_0 then (some ((⟨#[]⟩ : ByteArray), 1)) else ((some (([] : List (S39)) : List (S39))).bind fun y199 => (if y199.length + l0_1.length < 5864062014805 then ((some (y199 ++ l0_1 : List (S39))).bind fun y202 => (if y202.length + l0_2.length < 5864062014805 then ((some (y202 ++ l0_2 : List (S39))).bind fun y205 => (cambiumref03_Read.l0 k a1 (⟨#[]⟩ : ByteArray) y205 (y205.length : Int) 0)) else (none))) else (none))))) else (some ((⟨#[]⟩ : ByteArray), 7))) = some (r1, r2) := H
  have A3 := Aside0.mk A30
  clear A30
  by_cases c4 : t198 = 0
  · rw [if_pos c4] at H
    have c4b0 : (t198 == 0) = true := beq_iff_eq.mpr c4
    have c4b1 : (t198 != 0) = false := bne_eq_false_iff_eq.mpr c4
    clear c4
    by_cases c5 : a0_3 = true
    · subst c5
      have H1 : (some ((⟨#[]⟩ : ByteArray), 17)) = some (r1, r2) := by rw [if_pos rfl] at H; exact H
      clear H
      have H := H1
      clear H1
      simp only [Option.some.injEq, Prod.mk.injEq] at H
      obtain ⟨rfl, rfl⟩ := H
      go_enter Tryd.func18, Tryd.ntmps18
      go_wp2_with (first | ((with_reducible refine gate_dst (N := 2) rfl ?_); refine bx_ (N := 2) (cs := #[.int .u32 a0_0, .slice A0_1 l0_1.length c0_1, .slice A0_2 l0_2.length c0_2, .bool true, .int .i64 a0_4]) (t := 25) ?_; intro gb197 hg w6 hbox hb; have BK197 := Aside0.mk (hbox); have GW197 := ge_ hg; have GE197 := ge_ hg; replace HB := hb_ hb; clear hb hbox hg; obtain ⟨hcz7_0, hcz7_1, hcz7_2, hcz7_3, hcz7_4⟩ := cl5_ BK197; obtain ⟨hfz7_0, hfz7_1, hfz7_2, hfz7_3, hfz7_4⟩ := fz5_ BK197) | ((with_reducible refine gate_callee (f := 22) rfl ?_); refine gl_ (some 11) Tryd.func22 #[.agg #[.int .u32 a0_0, .slice A0_1 l0_1.length c0_1, .slice A0_2 l0_2.length c0_2, .bool true, .int .i64 a0_4]] ?_; (with_reducible refine (cambiumref03_Check.calls k a0_0 _ _ l0_1 _ _ l0_2 true a0_4 t198 _ ?side1 ?side2 ?side3 ?side4 A3.out).mono ?_); (case side1 => exact cb_ HR0_1); (case side2 => exact HC0_1.out); (case side3 => exact cb_ HR0_2); (case side4 => exact HC0_2.out); rintro e w8 ⟨rfl, hb⟩; refine ⟨_, rfl, ?_⟩; replace BK197 := kb_ BK197 hb; replace HB := hb_ hb; (try clear hb); (try clear hb2); (try clear hk); (try clear hi); obtain ⟨hcz9_0, hcz9_1, hcz9_2, hcz9_3, hcz9_4⟩ := cl5_ BK197; obtain ⟨hfz9_0, hfz9_1, hfz9_2, hfz9_3, hfz9_4⟩ := fz5_ BK197))
      go_ret2
      exact ⟨by first | rfl | (simp [errW_none, errW_some] <;> rfl) | (simp [*, errW_none, errW_some] <;> rfl), bel_⟩
    replace c5 := Bool.eq_false_iff.mpr c5
    subst c5
    have H1 : (if a1 ≥ a0_0 then (some ((⟨#[]⟩ : ByteArray), 1)) else ((some (([] : List (S39)) : List (S39))).bind fun y199 => (if y199.length + l0_1.length < 5864062014805 then ((some (y199 ++ l0_1 : List (S39))).bind fun y202 => (if y202.length + l0_2.length < 5864062014805 then ((some (y202 ++ l0_2 : List (S39))).bind fun y205 => (cambiumref03_Read.l0 k a1 (⟨#[]⟩ : ByteArray) y205 (y205.length : Int) 0)) else (none))) else (none)))) = some (r1, r2) := by rw [if_neg (show ¬ (false = true) by decide)] at H; exact H
    clear H
    have H := H1
    clear H1
    by_cases c10 : a1 ≥ a0_0
    · rw [if_pos c10] at H
      have c10b0 : decide (a0_0 ≤ a1) = true := decide_eq_true c10
      clear c10
      simp only [Option.some.injEq, Prod.mk.injEq] at H
      obtain ⟨rfl, rfl⟩ := H
      go_enter Tryd.func18, Tryd.ntmps18
      go_wp2_with (first | ((with_reducible refine gate_dst (N := 2) rfl ?_); refine bx_ (N := 2) (cs := #[.int .u32 a0_0, .slice A0_1 l0_1.length c0_1, .slice A0_2 l0_2.length c0_2, .bool false, .int .i64 a0_4]) (t := 25) ?_; intro gb197 hg w11 hbox hb; have BK197 := Aside0.mk (hbox); have GW197 := ge_ hg; have GE197 := ge_ hg; replace HB := hb_ hb; clear hb hbox hg; obtain ⟨hcz12_0, hcz12_1, hcz12_2, hcz12_3, hcz12_4⟩ := cl5_ BK197; obtain ⟨hfz12_0, hfz12_1, hfz12_2, hfz12_3, hfz12_4⟩ := fz5_ BK197) | ((with_reducible refine gate_callee (f := 22) rfl ?_); refine gl_ (some 11) Tryd.func22 #[.agg #[.int .u32 a0_0, .slice A0_1 l0_1.length c0_1, .slice A0_2 l0_2.length c0_2, .bool false, .int .i64 a0_4]] ?_; (with_reducible refine (cambiumref03_Check.calls k a0_0 _ _ l0_1 _ _ l0_2 false a0_4 t198 _ ?side1 ?side2 ?side3 ?side4 A3.out).mono ?_); (case side1 => exact cb_ HR0_1); (case side2 => exact HC0_1.out); (case side3 => exact cb_ HR0_2); (case side4 => exact HC0_2.out); rintro e w13 ⟨rfl, hb⟩; refine ⟨_, rfl, ?_⟩; replace BK197 := kb_ BK197 hb; replace HB := hb_ hb; (try clear hb); (try clear hb2); (try clear hk); (try clear hi); obtain ⟨hcz14_0, hcz14_1, hcz14_2, hcz14_3, hcz14_4⟩ := cl5_ BK197; obtain ⟨hfz14_0, hfz14_1, hfz14_2, hfz14_3, hfz14_4⟩ := fz5_ BK197))
      go_ret2
      exact ⟨by first | rfl | (simp [errW_none, errW_some] <;> rfl) | (simp [*, errW_none, errW_some] <;> rfl), bel_⟩
    rw [if_neg c10] at H
    have c10b0 : decide (a0_0 ≤ a1) = false := decide_eq_false c10
    clear c10
    obtain ⟨y199, hy199⟩ : ∃ y_ : List (S39), y_ = (([] : List (S39))) := ⟨_, rfl⟩
    replace H : (if y199.length + l0_1.length < 5864062014805 then ((some (y199 ++ l0_1 : List (S39))).bind fun y202 => (if y202.length + l0_2.length < 5864062014805 then ((some (y202 ++ l0_2 : List (S39))).bind fun y205 => (cambiumref03_Read.l0 k a1 (⟨#[]⟩ : ByteArray) y205 (y205.length : Int) 0)) else (none))) else (none)) = some (r1, r2) := by first | (rw [hy199]; with_reducible exact H) | (have H2_ := (Option.bind_some _ _).symm.trans H; rw [hy199]; with_reducible exact H2_) | (have H2_ := (Option.bind_some _ _).symm.trans H; with_reducible exact H2_) | with_reducible exact H | (rw [hy199]; exact H) | exact H
    have Ny199 := Aside0.mk hy199
    clear hy199
    by_cases c15 : y199.length + l0_1.length < 5864062014805
    · rw [if_pos c15] at H
      have LMc15 := Aside0.mk c15
      clear c15
      obtain ⟨y202, hy202⟩ : ∃ y_ : List (S39), y_ = (y199 ++ l0_1) := ⟨_, rfl⟩
      replace H : (if y202.length + l0_2.length < 5864062014805 then ((some (y202 ++ l0_2 : List (S39))).bind fun y205 => (cambiumref03_Read.l0 k a1 (⟨#[]⟩ : ByteArray) y205 (y205.length : Int) 0)) else (none)) = some (r1, r2) := by first | (rw [hy202]; with_reducible exact H) | (have H2_ := (Option.bind_some _ _).symm.trans H; rw [hy202]; with_reducible exact H2_) | (have H2_ := (Option.bind_some _ _).symm.trans H; with_reducible exact H2_) | with_reducible exact H | (rw [hy202]; exact H) | exact H
      have Ny202 := Aside0.mk hy202
      clear hy202
      by_cases c16 : y202.length + l0_2.length < 5864062014805
      · rw [if_pos c16] at H
        have LMc16 := Aside0.mk c16
        clear c16
        obtain ⟨y205, hy205⟩ : ∃ y_ : List (S39), y_ = (y202 ++ l0_2) := ⟨_, rfl⟩
        replace H : (cambiumref03_Read.l0 k a1 (⟨#[]⟩ : ByteArray) y205 (y205.length : Int) 0) = some (r1, r2) := by first | (rw [hy205]; with_reducible exact H) | (have H2_ := (Option.bind_some _ _).symm.trans H; rw [hy205]; with_reducible exact H2_) | (have H2_ := (Option.bind_some _ _).symm.trans H; with_reducible exact H2_) | with_reducible exact H | (rw [hy205]; exact H) | exact H
        have Ny205 := Aside0.mk hy205
        clear hy205
        have H' := Aside0.mk H
        clear H
        go_enter Tryd.func18, Tryd.ntmps18
        try go_wp2_with (first | ((with_reducible refine gate_dst (N := 2) rfl ?_); refine bx_ (N := 2) (cs := #[.int .u32 a0_0, .slice A0_1 l0_1.length c0_1, .slice A0_2 l0_2.length c0_2, .bool false, .int .i64 a0_4]) (t := 25) ?_; intro gb197 hg w17 hbox hb; have BK197 := Aside0.mk (hbox); have GW197 := ge_ hg; have GE197 := ge_ hg; replace HB := hb_ hb; clear hb hbox hg; obtain ⟨hcz18_0, hcz18_1, hcz18_2, hcz18_3, hcz18_4⟩ := cl5_ BK197; obtain ⟨hfz18_0, hfz18_1, hfz18_2, hfz18_3, hfz18_4⟩ := fz5_ BK197) | ((with_reducible refine gate_callee (f := 22) rfl ?_); refine gl_ (some 11) Tryd.func22 #[.agg #[.int .u32 a0_0, .slice A0_1 l0_1.length c0_1, .slice A0_2 l0_2.length c0_2, .bool false, .int .i64 a0_4]] ?_; (with_reducible refine (cambiumref03_Check.calls k a0_0 _ _ l0_1 _ _ l0_2 false a0_4 t198 _ ?side1 ?side2 ?side3 ?side4 A3.out).mono ?_); (case side1 => exact cb_ HR0_1); (case side2 => exact HC0_1.out); (case side3 => exact cb_ HR0_2); (case side4 => exact HC0_2.out); rintro e w19 ⟨rfl, hb⟩; refine ⟨_, rfl, ?_⟩; replace BK197 := kb_ BK197 hb; replace HB := hb_ hb; (try clear hb); (try clear hb2); (try clear hk); (try clear hi); obtain ⟨hcz20_0, hcz20_1, hcz20_2, hcz20_3, hcz20_4⟩ := cl5_ BK197; obtain ⟨hfz20_0, hfz20_1, hfz20_2, hfz20_3, hfz20_4⟩ := fz5_ BK197))
        replace BK197 := Aside0.mk (blk_drew BK197.out)
        replace HB := Aside0.mk (below_drew1 HB.out)
        refine start_ (n := 9) (S := fun w' => w'.cell? ⟨gb197, 0, none⟩ = some (.int .u32 a0_0) ∧ w'.cell? ⟨gb197, 1, none⟩ = some (.slice A0_1 l0_1.length c0_1) ∧ w'.cell? ⟨gb197, 2, none⟩ = some (.slice A0_2 l0_2.length c0_2) ∧ w'.cell? ⟨gb197, 3, none⟩ = some (.bool false) ∧ w'.cell? ⟨gb197, 4, none⟩ = some (.int .i64 a0_4)) (ds := []) #[false, false, false, false, false, false, false, false, false] (by kernel_rfl) rfl rfl hc_ (fun hHeld => ?_); refine with_tabW cambiumref03_Read.tab8 cambiumref03_Read.bits8 (fun HT_ HW_ => ?_)
        generalize w19.drew = w21 at BK197 HB hHeld ⊢
        refine pu_ 1 22 ?_
        refine pu_ 4 25 ?_
        refine pu_ 8 29 ?_
        refine tk5_ 2 23 ?_
        refine tk5_ 5 26 ?_
        refine on_ 0 21 (fun K hK => ?_)
        refine Kd.R_lit_step k39 _ 39 ?hg (N := 21) ?hd (xs := ([] : List (S39))) (inner := []) (ok := fun _ => True) (okp := fun _ => True) ?hr ?hp (fun _ hk => hk) trivial (Below.refl _ _) (Nat.le_refl _) (by simp) ?_; (case hd => rfl); (case hg => rfl); (case hr => first | (go_simp; done) | (go_simp; rfl)); (case hp => exact (Reps.none _ _))
        intro v200 w22 ho23 hb hg_ hnew_
        clear hg_ hnew_
        (first | rw [← Ny199.out] at ho23 | (simp only [Int.reduceToNat] at ho23; rw [← Ny199.out] at ho23))
        have HO201 := rl_ ho23
        replace BK197 := kb_ BK197 hb
        replace HB := hb_ hb
        clear hb ho23
        refine hK.out _ _ hc_ (fun hHeld => ?_)
        clear hK K
        refine nm_ 21 ?_
        refine on_ 3 24 (fun K hK => ?_)
        refine Kd.R_append_rows_step k39 (w0 := w) w.heap.size (by rfl) (.tmp 21) (.tmp 23) 23 39 (.agg #[(.int .u32 0), (.string ⟨#[]⟩)]) 24 rfl Tryd.underlying23 info39 rfl (by decide) (by omega) v200 y199 l0_1 _ _ _ (fun _ => True) (fun _ => False) rfl rfl ?aO ?aR (fun _ _ h => h) (fun _ h => h.elim) ?aF ?aB ?aS ?aL ?_
        (case aR => repeat (first | exact (Kd.C_below HR0_1.out HB.out) | (with_reducible refine Kd.C_alloc ?_ _) | (with_reducible refine Kd.C_drewN ?_ _) | (with_reducible refine Kd.C_drew ?_)))
        (case aB => exact bel_)
        (case aF => exact (fun _ _ => trivial))
        (case aO => exact (ra_ HO201))
        (case aS => exact (below_size bel_))
        (case aL => have := LMc15.out; omega)
        intro v203 w24 ho hb hg hat
        rw [← Ny202.out] at ho
        have HO204 := Aside0.mk (ho)
        replace BK197 := Aside0.mk (blk_grown (bk_ BK197) hg (Kd.R_ne HO201.out BK197.out (by decide)))
        replace HB := Aside0.mk (hb)
        clear HO201
        clear ho hb hg hat
        refine hK.out _ _ hc_ (fun hHeld => ?_)
        clear hK K
        refine nm_ 24 ?_
        refine on_ 6 27 (fun K hK => ?_)
        refine Kd.R_append_rows_step k39 (w0 := w) w.heap.size (by rfl) (.tmp 24) (.tmp 26) 23 39 (.agg #[(.int .u32 0), (.string ⟨#[]⟩)]) 24 rfl Tryd.underlying23 info39 rfl (by decide) (by omega) v203 y202 l0_2 _ _ _ (fun _ => True) (fun _ => False) rfl rfl ?aO ?aR (fun _ _ h => h) (fun _ h => h.elim) ?aF ?aB ?aS ?aL ?_
        (case aR => repeat (first | exact (Kd.C_below HR0_2.out HB.out) | (with_reducible refine Kd.C_alloc ?_ _) | (with_reducible refine Kd.C_drewN ?_ _) | (with_reducible refine Kd.C_drew ?_)))
        (case aB => exact bel_)
        (case aF => exact (fun _ _ => trivial))
        (case aO => exact (ra_ HO204))
        (case aS => exact (below_size bel_))
        (case aL => have := LMc16.out; omega)
        intro v206 w25 ho hb hg hat
        rw [← Ny205.out] at ho
        have HO207 := Aside0.mk (ho)
        replace BK197 := Aside0.mk (blk_grown (bk_ BK197) hg (Kd.R_ne HO204.out BK197.out (by decide)))
        replace HB := Aside0.mk (hb)
        clear HO204
        clear ho hb hg hat
        obtain ⟨Ao26, co26, eo26⟩ := Kd.R_slice HO207.out
        (first | subst eo26 | (injection eo26 with f1_ f2_ f3_; have f4_ := f1_.symm; have f5_ := f3_.symm; clear f1_ f2_ f3_; subst f4_; subst f5_))
        refine hK.out _ _ hc_ (fun hHeld => ?_)
        clear hK K
        refine nm_ 27 ?_
        refine pu_ 7 28 ?_
        refine done_ (done_of HT_.out (by kernel_rfl)) ?_
        try go_wp2
        go_loopg [6, 29] k (fun kq v6 v29 w' => ∃ (x6_1 : ByteArray) (x29_1 : Int), v6 = .string x6_1 ∧ v29 = .int .i64 x29_1 ∧ Aside0 (cambiumref03_Read.l0 kq a1 x6_1 y205 (y205.length : Int) x29_1 = some (r1, r2)) ∧ Aside0 (kq ≤ k) ∧ Aside0 (Kd.R k39 39 w' w.heap.size (fun _ => True) (.slice Ao26 y205.length co26) y205) ∧ Aside0 (w'.heap[gb197]? = some (.cells #[.int .u32 a0_0, (.slice A0_1 l0_1.length c0_1), (.slice A0_2 l0_2.length c0_2), .bool false, .int .i64 a0_4] 25 (0, 0))) ∧ Aside0 (Below w.heap.size w w'))
        case atStart => exact ⟨((⟨#[]⟩ : ByteArray)), (0), (by first | rfl | (simp; done) | (simp [*]; done)), (by first | rfl | (simp; done) | (simp [*]; done)), H', ⟨Nat.le_refl _⟩, ⟨ra_ HO207⟩, ⟨bk_ BK197⟩, ⟨bel_⟩⟩
        case round =>
          clear H'
          try clear c1
          try clear c2
          try clear p2
          try clear c4
          try clear c4b0
          try clear c4b1
          try clear c5
          try clear c10
          try clear c10b0
          try clear c15
          try clear c16
          try clear c18
          try clear c22
          try clear hcz12_0
          try clear hcz12_1
          try clear hcz12_2
          try clear hcz12_3
          try clear hcz12_4
          try clear hcz14_0
          try clear hcz14_1
          try clear hcz14_2
          try clear hcz14_3
          try clear hcz14_4
          try clear hcz18_0
          try clear hcz18_1
          try clear hcz18_2
          try clear hcz18_3
          try clear hcz18_4
          try clear hcz20_0
          try clear hcz20_1
          try clear hcz20_2
          try clear hcz20_3
          try clear hcz20_4
          try clear hcz7_0
          try clear hcz7_1
          try clear hcz7_2
          try clear hcz7_3
          try clear hcz7_4
          try clear hcz9_0
          try clear hcz9_1
          try clear hcz9_2
          try clear hcz9_3
          try clear hcz9_4
          try clear hfz12_0
          try clear hfz12_1
          try clear hfz12_2
          try clear hfz12_3
          try clear hfz12_4
          try clear hfz14_0
          try clear hfz14_1
          try clear hfz14_2
          try clear hfz14_3
          try clear hfz14_4
          try clear hfz18_0
          try clear hfz18_1
          try clear hfz18_2
          try clear hfz18_3
          try clear hfz18_4
          try clear hfz20_0
          try clear hfz20_1
          try clear hfz20_2
          try clear hfz20_3
          try clear hfz20_4
          try clear hfz7_0
          try clear hfz7_1
          try clear hfz7_2
          try clear hfz7_3
          try clear hfz7_4
          try clear hfz9_0
          try clear hfz9_1
          try clear hfz9_2
          try clear hfz9_3
          try clear hfz9_4
          obtain ⟨x6_1, x29_1, rfl, rfl, HA, HK1, HO_27, BK197, HB⟩ := hrel
          cases gk with
          | zero => exact absurd HA.out (by simp [cambiumref03_Read.l0])
          | succ k1 =>
            have H := HA.out
            clear HA
            simp only [cambiumref03_Read.l0] at H
            by_cases c27 : x29_1 < (y205.length : Int)
            · rw [if_pos c27] at H
              have c27b0 : decide (x29_1 < (y205.length : Int)) = true := decide_eq_true c27
              clear c27
              by_cases c28 : 0 ≤ x29_1
              · rw [if_pos c28] at H
                have c28b0 : decide (0 ≤ x29_1) = true := decide_eq_true c28
                clear c28
                by_cases c29 : x29_1 < (y205.length : Int)
                · rw [if_pos c29] at H
                  have c29b0 : decide (x29_1 < (y205.length : Int)) = true := decide_eq_true c29
                  clear c29
                  by_cases c30 : ((rd_T39 y205 x29_1).f0) = a1
                  · rw [if_pos c30] at H
                    have c30b0 : (((rd_T39 y205 x29_1).f0) == a1) = true := beq_iff_eq.mpr c30
                    have c30b1 : (((rd_T39 y205 x29_1).f0) != a1) = false := bne_eq_false_iff_eq.mpr c30
                    clear c30
                    have H' := Aside0.mk H
                    clear H
                    have p208 : 0 ≤ (x29_1 : Int) := of_decide_eq_true (by first | (with_reducible assumption) | assumption)
                    have q208 : x29_1 < (y205.length : Int) := of_decide_eq_true (by first | (with_reducible assumption) | assumption)
                    obtain ⟨ad208, e208, hx208_0, hx208_1⟩ := at_T39 (Kd.R_reads' HO_27.out).2.2 x29_1 p208 q208
                    cases e208
                    replace p208 := eq_true p208
                    replace q208 := eq_true q208
                    go_wp2_with (first | ((with_reducible refine gate_dst (N := 8) rfl ?_); refine bx_ (N := 8) (cs := #[.int .u32 0, .string (⟨#[]⟩ : ByteArray)]) (t := 39) ?_; intro gb209 hg w31 hbox hb; have BK209 := Aside0.mk (hbox); have GW209 := ge_ hg; have GE209 := ge_ hg; have NB197_209 := nl_ BK197 hg; have NB209_197 := ng_ BK197 hg; replace HO_27 := Aside0.mk (Kd.R_below (Kd.R_elderB (ra_ HO_27) gb209 (Nat.le_of_eq hg.symm)) hb); replace BK197 := kb_ BK197 hb; replace HB := hb_ hb; clear hb hbox hg; have hnb32 := NB209_197.out; have hnc32 := NB197_209.out; obtain ⟨hcz33_0, hcz33_1⟩ := cl2_ BK209; obtain ⟨hfz33_0, hfz33_1⟩ := fz2_ BK209))
                    go_roundg k1
                    case measure => have := HK1.out; omega
                    case rel => exact ⟨((rd_T39 y205 x29_1).f1), (wrap64 (x29_1 + 1)), (by first | rfl | (simp; done) | (simp [*]; done)), (by first | rfl | (simp; done) | (simp [*]; done)), H', ⟨by have := HK1.out; omega⟩, ⟨by (with_reducible repeat (first | apply Kd.R_alloc | apply Kd.R_drewN | apply Kd.R_drew)); exact Kd.R_mono (Kd.R_far (p := ⟨gb209, 1, none⟩) (Kd.R_far (p := ⟨gb209, 0, none⟩) (Kd.R_mono HO_27.out (fun k_ hk => (⟨hk, hk.2⟩ : _ ∧ k_ ≠ gb209))) (fun _ hk => hk.2) (.int .u32 ((rd_T39 y205 x29_1).f0))) (fun _ hk => hk.2) (.string ((rd_T39 y205 x29_1).f1))) (fun _ hk => trivial)⟩, ⟨bs_⟩, ⟨bel_⟩⟩
                  rw [if_neg c30] at H
                  have c30b0 : (((rd_T39 y205 x29_1).f0) == a1) = false := beq_eq_false_iff_ne.mpr c30
                  have c30b1 : (((rd_T39 y205 x29_1).f0) != a1) = true := bne_iff_ne.mpr c30
                  have H' := Aside0.mk H
                  clear H
                  have p208 : 0 ≤ (x29_1 : Int) := of_decide_eq_true (by first | (with_reducible assumption) | assumption)
                  have q208 : x29_1 < (y205.length : Int) := of_decide_eq_true (by first | (with_reducible assumption) | assumption)
                  obtain ⟨ad208, e208, hx208_0, hx208_1⟩ := at_T39 (Kd.R_reads' HO_27.out).2.2 x29_1 p208 q208
                  cases e208
                  replace p208 := eq_true p208
                  replace q208 := eq_true q208
                  go_wp2_with (first | ((with_reducible refine gate_dst (N := 8) rfl ?_); refine bx_ (N := 8) (cs := #[.int .u32 0, .string (⟨#[]⟩ : ByteArray)]) (t := 39) ?_; intro gb209 hg w34 hbox hb; have BK209 := Aside0.mk (hbox); have GW209 := ge_ hg; have GE209 := ge_ hg; have NB197_209 := nl_ BK197 hg; have NB209_197 := ng_ BK197 hg; replace HO_27 := Aside0.mk (Kd.R_below (Kd.R_elderB (ra_ HO_27) gb209 (Nat.le_of_eq hg.symm)) hb); replace BK197 := kb_ BK197 hb; replace HB := hb_ hb; clear hb hbox hg; have hnb35 := NB209_197.out; have hnc35 := NB197_209.out; obtain ⟨hcz36_0, hcz36_1⟩ := cl2_ BK209; obtain ⟨hfz36_0, hfz36_1⟩ := fz2_ BK209))
                  go_roundg k1
                  case measure => have := HK1.out; omega
                  case rel => exact ⟨(x6_1), (wrap64 (x29_1 + 1)), (by first | rfl | (simp; done) | (simp [*]; done)), (by first | rfl | (simp; done) | (simp [*]; done)), H', ⟨by have := HK1.out; omega⟩, ⟨by (with_reducible repeat (first | apply Kd.R_alloc | apply Kd.R_drewN | apply Kd.R_drew)); exact Kd.R_mono (Kd.R_far (p := ⟨gb209, 1, none⟩) (Kd.R_far (p := ⟨gb209, 0, none⟩) (Kd.R_mono HO_27.out (fun k_ hk => (⟨hk, hk.2⟩ : _ ∧ k_ ≠ gb209))) (fun _ hk => hk.2) (.int .u32 ((rd_T39 y205 x29_1).f0))) (fun _ hk => hk.2) (.string ((rd_T39 y205 x29_1).f1))) (fun _ hk => trivial)⟩, ⟨bs_⟩, ⟨bel_⟩⟩
                rw [if_neg c29] at H
                exact absurd H (by simp)
              rw [if_neg c28] at H
              exact absurd H (by simp)
            rw [if_neg c27] at H
            have c27b0 : decide (x29_1 < (y205.length : Int)) = false := decide_eq_false c27
            clear c27
            simp only [Option.some.injEq, Prod.mk.injEq] at H
            obtain ⟨rfl, rfl⟩ := H
            go_wp2
            go_ret2
            exact ⟨by first | rfl | (simp [errW_none, errW_some] <;> rfl) | (simp [*, errW_none, errW_some] <;> rfl), bel_⟩
      rw [if_neg c16] at H
      exact absurd H (by simp)
    rw [if_neg c15] at H
    exact absurd H (by simp)
  rw [if_neg c4] at H
  have c4b0 : (t198 == 0) = false := beq_eq_false_iff_ne.mpr c4
  have c4b1 : (t198 != 0) = true := bne_iff_ne.mpr c4
  simp only [Option.some.injEq, Prod.mk.injEq] at H
  obtain ⟨rfl, rfl⟩ := H
  go_enter Tryd.func18, Tryd.ntmps18
  go_wp2_with (first | ((with_reducible refine gate_dst (N := 2) rfl ?_); refine bx_ (N := 2) (cs := #[.int .u32 a0_0, .slice A0_1 l0_1.length c0_1, .slice A0_2 l0_2.length c0_2, .bool a0_3, .int .i64 a0_4]) (t := 25) ?_; intro gb197 hg w37 hbox hb; have BK197 := Aside0.mk (hbox); have GW197 := ge_ hg; have GE197 := ge_ hg; replace HB := hb_ hb; clear hb hbox hg; obtain ⟨hcz38_0, hcz38_1, hcz38_2, hcz38_3, hcz38_4⟩ := cl5_ BK197; obtain ⟨hfz38_0, hfz38_1, hfz38_2, hfz38_3, hfz38_4⟩ := fz5_ BK197) | ((with_reducible refine gate_callee (f := 22) rfl ?_); refine gl_ (some 11) Tryd.func22 #[.agg #[.int .u32 a0_0, .slice A0_1 l0_1.length c0_1, .slice A0_2 l0_2.length c0_2, .bool a0_3, .int .i64 a0_4]] ?_; (with_reducible refine (cambiumref03_Check.calls k a0_0 _ _ l0_1 _ _ l0_2 a0_3 a0_4 t198 _ ?side1 ?side2 ?side3 ?side4 A3.out).mono ?_); (case side1 => exact cb_ HR0_1); (case side2 => exact HC0_1.out); (case side3 => exact cb_ HR0_2); (case side4 => exact HC0_2.out); rintro e w39 ⟨rfl, hb⟩; refine ⟨_, rfl, ?_⟩; replace BK197 := kb_ BK197 hb; replace HB := hb_ hb; (try clear hb); (try clear hb2); (try clear hk); (try clear hi)))
  go_ret2
  exact ⟨by first | rfl | (simp [errW_none, errW_some] <;> rfl) | (simp [*, errW_none, errW_some] <;> rfl), bel_⟩

end Go.Proofs.YtcphflfjhkeooaaDoor.Z
end

section
/- What the reference's functions on devices come to. -/
namespace Go.Proofs.YtcphflfjhkeooaaDoor.Z
open Go.RowKit Go.Proofs.YtcphflfjhkeooaaDoorW.PrintWords Go.Proofs.YtcphflfjhkeooaaDoorW.PrintLast
set_option linter.unusedVariables false
theorem succ64 {i : Nat} (h : i < 9223372036854775807) : wrap64 ((i : Int) + 1) = ((i + 1 : Nat) : Int) := by rw [w64 (by omega) (by omega)]; omega
theorem refRight (a : ByteArray) : ∃ b, cambiumref03_right.f a = some b ∧ (b = true ↔ a.size ≤ 512 ∧ trimB a = a) := by
  unfold cambiumref03_right.f
  by_cases h1 : (a.size : Int) ≤ 512
  · rw [if_pos h1]
    by_cases h2 : a.toList = []
    · rw [if_pos h2]
      rw [toList_nil] at h2
      refine ⟨true, rfl, ?_⟩
      simp only [true_iff]
      exact ⟨by omega, by rw [size_zero h2]; rfl⟩
    · rw [if_neg h2]
      rw [toList_nil] at h2
      have e : wrap64 ((a.size : Int) - 1) = ((a.size - 1 : Nat) : Int) := by rw [w64 (by omega) (by omega)]; omega
      rw [e, if_pos (by omega), if_pos (by omega)]
      refine ⟨_, rfl, ?_⟩
      have hl : a.data.toList.length = a.size := by simp
      obtain ⟨m, b, hmb⟩ : ∃ m b, a.data.toList = m ++ [b] := by
        rcases List.eq_nil_or_concat a.data.toList with e | ⟨m, b, e⟩
        · rw [e] at hl; simp at hl; omega
        · exact ⟨m, b, by rw [e, List.concat_eq_append]⟩
      have hml : m.length = a.size - 1 := by rw [hmb] at hl; simp at hl; omega
      have hb : bt a ((a.size - 1 : Nat) : Int) = (b.toNat : Int) := by
        rw [bt_get a _ (by omega)]
        congr 2
        simp only [hmb]
        rw [List.getElem_append_right (by omega)]
        simp [hml]
      rw [hb, bne_iff_ne, ne_eq, byte_zero]
      constructor
      · intro hz
        refine ⟨by omega, ?_⟩
        unfold trimB
        rw [hmb, trimL_snoc, if_neg hz, ← hmb]
      · rintro ⟨_, ht⟩ hz
        unfold trimB at ht
        rw [hmb, trimL_snoc, if_pos hz] at ht
        have h3 := congrArg ByteArray.size ht
        have h4 := trimL_length m
        simp only [ByteArray.size, List.size_toArray] at h3
        have h5 : a.data.size = a.size := rfl
        omega
  · rw [if_neg h1]
    exact ⟨false, rfl, by simp; omega⟩
theorem rCheck_l1 (s : Int) (bl wl : List Bk) (d : Bool) (f : Int) (hw : Num0 wl) (hl : wl.length ≤ maxLen) : ∀ dd i : Nat, wl.length = i + dd →
    ∃ b, Ev (fun k => cambiumref03_Check.l1 k wl (wl.length : Int) (i : Int) s bl wl d f) (ckC b) ∧ (b = true ↔ ∀ x ∈ wl.drop i, okB s x)
  | 0, i, hi => by
    refine ⟨true, Ev.step (fun k => by rw [cambiumref03_Check.l1]) ?_, ?_⟩
    · exact Ev.ifn (by omega) (Ev.const rfl)
    · rw [List.drop_of_length_le (by omega)]; simp
  | dd + 1, i, hi => by
    have hlt : i < wl.length := by omega
    unfold maxLen at hl
    obtain ⟨b, h1, h2⟩ := rCheck_l1 s bl wl d f hw (by unfold maxLen; omega) dd (i + 1) (by omega)
    rw [List.drop_eq_getElem_cons hlt]
    by_cases c1 : wl[i].f0 ≥ s
    · refine ⟨false, Ev.step (fun k => by rw [cambiumref03_Check.l1]) ?_, ?_⟩
      · exact Ev.ifp (by omega) (Ev.ifp (by omega) (Ev.ifp (by omega) (Ev.ifp (by rw [rd_get wl i hlt]; exact c1) (Ev.const rfl))))
      · constructor
        · intro e; cases e
        · intro e; have := (e wl[i] List.mem_cons_self).2.1; omega
    · obtain ⟨r, hr, hri⟩ := refRight wl[i].f1
      cases r with
      | false =>
        refine ⟨false, Ev.step (fun k => by rw [cambiumref03_Check.l1]) ?_, ?_⟩
        · refine Ev.ifp (by omega) (Ev.ifp (by omega) (Ev.ifp (by omega) (Ev.ifn (by rw [rd_get wl i hlt]; exact c1) ?_)))
          rw [rd_get wl i hlt]
          exact Ev.bindc hr (Ev.ifn (by simp) (Ev.const rfl))
        · constructor
          · intro e; cases e
          · intro e
            have := hri.2 (e wl[i] List.mem_cons_self).2.2
            cases this
      | true =>
        refine ⟨b, Ev.step (fun k => by rw [cambiumref03_Check.l1]) ?_, ?_⟩
        · refine Ev.ifp (by omega) (Ev.ifp (by omega) (Ev.ifp (by omega) (Ev.ifn (by rw [rd_get wl i hlt]; exact c1) ?_)))
          rw [rd_get wl i hlt, succ64 (by omega)]
          exact Ev.bindc hr (Ev.ifp rfl h1)
        · rw [h2]
          constructor
          · intro e x hx
            rcases List.mem_cons.1 hx with rfl | hx
            · exact ⟨hw _ (List.getElem_mem hlt), by omega, hri.1 rfl⟩
            · exact e x hx
          · intro e x hx; exact e x (List.mem_cons_of_mem _ hx)
theorem rCheck_l0 (s : Int) (bl wl : List Bk) (d : Bool) (f : Int) (hb : Num0 bl) (hw : Num0 wl) (hl : bl.length ≤ maxLen) (hl2 : wl.length ≤ maxLen) : ∀ dd i : Nat, bl.length = i + dd →
    ∃ b, Ev (fun k => cambiumref03_Check.l0 k bl (bl.length : Int) (i : Int) s bl wl d f) (ckC b) ∧ (b = true ↔ OkFrom s bl i ∧ ∀ x ∈ wl, okB s x)
  | 0, i, hi => by
    obtain ⟨b, h1, h2⟩ := rCheck_l1 s bl wl d f hw hl2 wl.length 0 (by omega)
    refine ⟨b, Ev.step (fun k => by rw [cambiumref03_Check.l0]) ?_, ?_⟩
    · exact Ev.ifn (by omega) h1
    · rw [h2, List.drop_zero]
      exact ⟨fun h => ⟨okFrom_end (by omega), h⟩, fun h => h.2⟩
  | dd + 1, i, hi => by
    have hlt : i < bl.length := by omega
    have hmax : bl.length ≤ 9223372036854775807 := hl
    obtain ⟨b, h1, h2⟩ := rCheck_l0 s bl wl d f hb hw hl hl2 dd (i + 1) (by omega)
    rw [okFrom_succ hlt]
    have bad : ¬ (okB s bl[i] ∧ bl[i].f1.size ≠ 0 ∧ ∀ q (e : i = q + 1), (bl[q]'(by omega)).f0 < bl[i].f0) → (false = true ↔ ((okB s bl[i] ∧ bl[i].f1.size ≠ 0 ∧ ∀ q (e : i = q + 1), (bl[q]'(by omega)).f0 < bl[i].f0) ∧ OkFrom s bl (i + 1)) ∧ ∀ x ∈ wl, okB s x) :=
      fun hn => ⟨fun e => (by cases e), fun e => absurd e.1.1 hn⟩
    by_cases c1 : bl[i].f0 ≥ s
    · refine ⟨false, Ev.step (fun k => by rw [cambiumref03_Check.l0]) ?_, bad (fun e => by have := e.1.2.1; omega)⟩
      exact Ev.ifp (by omega) (Ev.ifp (by omega) (Ev.ifp (by omega) (Ev.ifp (by rw [rd_get bl i hlt]; exact c1) (Ev.const rfl))))
    · obtain ⟨r, hr, hri⟩ := refRight bl[i].f1
      cases r with
      | false =>
        refine ⟨false, Ev.step (fun k => by rw [cambiumref03_Check.l0]) ?_, bad (fun e => by cases hri.2 e.1.2.2)⟩
        refine Ev.ifp (by omega) (Ev.ifp (by omega) (Ev.ifp (by omega) (Ev.ifn (by rw [rd_get bl i hlt]; exact c1) ?_)))
        rw [rd_get bl i hlt]
        exact Ev.bindc hr (Ev.ifn (by simp) (Ev.const rfl))
      | true =>
        have hok : okB s bl[i] := ⟨hb _ (List.getElem_mem hlt), by omega, hri.1 rfl⟩
        by_cases hz : bl[i].f1.size = 0
        · refine ⟨false, Ev.step (fun k => by rw [cambiumref03_Check.l0]) ?_, bad (fun e => e.2.1 hz)⟩
          refine Ev.ifp (by omega) (Ev.ifp (by omega) (Ev.ifp (by omega) (Ev.ifn (by rw [rd_get bl i hlt]; exact c1) ?_)))
          rw [rd_get bl i hlt]
          exact Ev.bindc hr (Ev.ifp rfl (Ev.ifp (toList_nil.2 hz) (Ev.const rfl)))
        · have hz2 : ¬ bl[i].f1.toList = [] := by rw [toList_nil]; exact hz
          cases i with
          | zero =>
            refine ⟨b, Ev.step (fun k => by rw [cambiumref03_Check.l0]) ?_, ?_⟩
            · refine Ev.ifp (by omega) (Ev.ifp (by omega) (Ev.ifp (by omega) (Ev.ifn (by rw [rd_get bl 0 hlt]; exact c1) ?_)))
              rw [rd_get bl 0 hlt, succ64 (by omega)]
              exact Ev.bindc hr (Ev.ifp rfl (Ev.ifn hz2 (Ev.ifn (by omega) h1)))
            · rw [h2]
              exact ⟨fun e => ⟨⟨⟨hok, hz, fun q e => by omega⟩, e.1⟩, e.2⟩, fun e => ⟨e.1.2, e.2⟩⟩
          | succ j =>
            have e : wrap64 (((j + 1 : Nat) : Int) - 1) = (j : Int) := by rw [w64 (by omega) (by omega)]; omega
            by_cases c2 : bl[j].f0 ≥ bl[j + 1].f0
            · refine ⟨false, Ev.step (fun k => by rw [cambiumref03_Check.l0]) ?_, bad (fun e => by have := e.2.2 j rfl; omega)⟩
              refine Ev.ifp (by omega) (Ev.ifp (by omega) (Ev.ifp (by omega) (Ev.ifn (by rw [rd_get bl (j + 1) hlt]; exact c1) ?_)))
              rw [rd_get bl (j + 1) hlt, e]
              exact Ev.bindc hr (Ev.ifp rfl (Ev.ifn hz2 (Ev.ifp (by omega) (Ev.ifp (by omega) (Ev.ifp (by omega) (Ev.ifp (by rw [rd_get bl j (by omega)]; exact c2) (Ev.const rfl)))))))
            · refine ⟨b, Ev.step (fun k => by rw [cambiumref03_Check.l0]) ?_, ?_⟩
              · refine Ev.ifp (by omega) (Ev.ifp (by omega) (Ev.ifp (by omega) (Ev.ifn (by rw [rd_get bl (j + 1) hlt]; exact c1) ?_)))
                rw [rd_get bl (j + 1) hlt, e, succ64 (by omega)]
                exact Ev.bindc hr (Ev.ifp rfl (Ev.ifn hz2 (Ev.ifp (by omega) (Ev.ifp (by omega) (Ev.ifp (by omega) (Ev.ifn (by rw [rd_get bl j (by omega)]; exact c2) h1))))))
              · rw [h2]
                exact ⟨fun e => ⟨⟨⟨hok, hz, fun q hq => by (obtain rfl : j = q := by omega); omega⟩, e.1⟩, e.2⟩, fun e => ⟨e.1.2, e.2⟩⟩
theorem rCheck (s : Int) (bl wl : List Bk) (d : Bool) (f : Int) (hb : Num0 bl) (hw : Num0 wl) (hl : bl.length ≤ maxLen) (hl2 : wl.length ≤ maxLen) :
    ∃ b, Ev (fun k => cambiumref03_Check.f k s bl wl d f) (ckC b) ∧ (b = true ↔ okDev s bl wl) := by
  have bad : Ev (fun k => cambiumref03_Check.j0 k true s bl wl d f) 7 := by
    refine Ev.step (fun k => by rw [cambiumref03_Check.j0]) ?_
    exact Ev.ifp rfl (Ev.const rfl)
  unfold cambiumref03_Check.f okDev
  by_cases h1 : s < 16
  · refine ⟨false, Ev.ifp h1 bad, ?_⟩
    simp; omega
  · by_cases h2 : s > 65536
    · refine ⟨false, Ev.ifn h1 (Ev.ifp h2 bad), ?_⟩
      simp; omega
    · by_cases h3 : (wl.length : Int) > 16384
      · refine ⟨false, Ev.ifn h1 (Ev.ifn h2 ?_), ?_⟩
        · rw [decide_eq_true h3]; exact bad
        · simp; omega
      · obtain ⟨b, h4, h5⟩ := rCheck_l0 s bl wl d f hb hw hl hl2 bl.length 0 (by omega)
        refine ⟨b, Ev.ifn h1 (Ev.ifn h2 (Ev.step (fun k => by rw [cambiumref03_Check.j0]) ?_)), ?_⟩
        · rw [decide_eq_false h3]
          exact Ev.ifn (by simp) h4
        · rw [h5, okFrom_zero]
          exact ⟨fun e => ⟨by omega, by omega, by omega, e.1, e.2⟩, fun e => ⟨e.2.2.2.1, e.2.2.2.2⟩⟩
variable {s : Int} {bl wl : List Bk}
theorem rCheck_ok (h : okDev s bl wl) (d : Bool) (f : Int) : Ev (fun k => cambiumref03_Check.f k s bl wl d f) 0 := by
  obtain ⟨b, h1, h2⟩ := rCheck s bl wl d f (fun x hx => (h.2.2.2.1.2 x hx).1.1) (fun x hx => (h.2.2.2.2 x hx).1) (by have := okDev_len h; unfold maxLen; omega) (by have := h.2.2.1; unfold maxLen; omega)
  rw [h2.2 h] at h1
  exact h1
theorem rCheck_bad (h : ¬ okDev s bl wl) (hi : Inp s bl wl) (hl2 : wl.length ≤ maxLen) (d : Bool) (f : Int) : Ev (fun k => cambiumref03_Check.f k s bl wl d f) 7 := by
  obtain ⟨b, h1, h2⟩ := rCheck s bl wl d f hi.n1 hi.n2 hi.l1 hl2
  cases b with
  | false => exact h1
  | true => exact absurd (h2.1 rfl) h
theorem copy_f (d : Bool) (f : Int) (h1 : bl.length < 5864062014805) (h2 : wl.length < 5864062014805) : cambiumref03_Copy.f s bl wl d f = some (s, bl, wl, d, f) := by
  unfold cambiumref03_Copy.f
  simp only [Option.bind_some, List.length_nil, Nat.zero_add, if_pos h1, if_pos h2, List.nil_append]
theorem rcopy_ok (h : okDev s bl wl) (d : Bool) (f : Int) : cambiumref03_Copy.f s bl wl d f = some (s, bl, wl, d, f) :=
  copy_f d f (by have := okDev_len h; omega) (by have := h.2.2.1; omega)
-- a block put
def finR (x : Bk) : Bool → List Bk → List Bk
  | done, [] => if done = true then [] else [x]
  | true, y :: r => (if y.f0 = x.f0 then [] else [y]) ++ finR x true r
  | false, y :: r => if y.f0 ≥ x.f0 then x :: ((if y.f0 = x.f0 then [] else [y]) ++ finR x true r) else (if y.f0 = x.f0 then [] else [y]) ++ finR x false r
theorem eta_b (y : Bk) : (⟨y.f0, y.f1⟩ : Bk) = y := rfl
theorem rPut_l0 (l : List Bk) (x : Bk) (hl : l.length ≤ 65536) : ∀ dd i : Nat, l.length = i + dd → ∀ (out : List Bk) (done : Bool), out.length ≤ 2 * i →
    Ev (fun k => cambiumref03_put.l0 k out done l (l.length : Int) (i : Int) x.f0 x.f1) (out ++ finR x done (l.drop i))
  | 0, i, hi, out, done, ho => by
    refine Ev.step (fun k => by rw [cambiumref03_put.l0]) ?_
    rw [List.drop_of_length_le (by omega)]
    cases done with
    | true => exact Ev.ifn (by omega) (Ev.ifp rfl (Ev.const (by simp [finR])))
    | false => exact Ev.ifn (by omega) (Ev.ifn (by simp) (Ev.ifp (by omega) (Ev.const (by simp [finR]))))
  | dd + 1, i, hi, out, done, ho => by
    have hlt : i < l.length := by omega
    rw [List.drop_eq_getElem_cons hlt]
    refine Ev.step (fun k => by rw [cambiumref03_put.l0]) ?_
    refine Ev.ifp (by omega) (Ev.ifp (by omega) (Ev.ifp (by omega) ?_))
    rw [rd_get l i hlt]
    have ih := rPut_l0 l x hl dd (i + 1) (by omega)
    have keep : ∀ dn, Ev (fun k => cambiumref03_put.j1 k out dn l (l.length : Int) (i : Int) false x.f0 x.f1 (l[i]).f0 (l[i]).f1) (out ++ ((if (l[i]).f0 = x.f0 then [] else [l[i]]) ++ finR x dn (l.drop (i + 1)))) := by
      intro dn
      refine Ev.step (fun k => by rw [cambiumref03_put.j1]) ?_
      rw [succ64 (by omega), eta_b]
      refine Ev.ifn (by simp) (Ev.ite (fun hc => ?_) (fun hc => ?_))
      · rw [if_pos hc, List.nil_append]
        exact ih out dn (by omega)
      · rw [if_neg hc]
        refine Ev.ifp (by omega) (Ev.val (ih (out ++ [l[i]]) dn (by simp; omega)) ?_)
        simp
    cases done with
    | true => exact Ev.ifp rfl (keep true)
    | false =>
      refine Ev.ifn (by simp) ?_
      by_cases hc : (l[i]).f0 ≥ x.f0
      · rw [decide_eq_true hc]
        show Ev _ (out ++ (if (l[i]).f0 ≥ x.f0 then _ else _))
        rw [if_pos hc]
        refine Ev.step (fun k => by rw [cambiumref03_put.j1]) ?_
        rw [succ64 (by omega), eta_b, eta_b]
        refine Ev.ifp rfl (Ev.ifp (by omega) (Ev.bindc rfl (Ev.ite (fun hq => ?_) (fun hq => ?_))))
        · rw [if_pos hq]
          refine Ev.val (ih (out ++ [x]) true (by simp; omega)) ?_
          simp
        · rw [if_neg hq]
          refine Ev.ifp (by simp; omega) (Ev.val (ih (out ++ [x] ++ [l[i]]) true (by simp; omega)) ?_)
          simp
      · rw [decide_eq_false hc]
        show Ev _ (out ++ (if (l[i]).f0 ≥ x.f0 then _ else _))
        rw [if_neg hc]
        exact keep false
theorem finR_true (x : Bk) : ∀ r : List Bk, finR x true r = r.filter (fun y => decide (y.f0 ≠ x.f0))
  | [] => rfl
  | y :: r => by
    unfold finR
    rw [finR_true x r, List.filter_cons]
    by_cases h : y.f0 = x.f0 <;> simp [h]
theorem filter_none {r : List Bk} {p : Bk → Bool} (h : ∀ y ∈ r, p y = false) : r.filter p = [] := by
  rw [List.filter_eq_nil_iff]; intro y hy; simp [h y hy]
theorem filter_all {r : List Bk} {p : Bk → Bool} (h : ∀ y ∈ r, p y = true) : r.filter p = r := by
  rw [List.filter_eq_self]; exact h
theorem finR_none {x : Bk} : ∀ {r : List Bk}, Asc r → finR x true r = r.filter (fun y => decide (y.f0 < x.f0)) ++ r.filter (fun y => decide (x.f0 < y.f0))
  | [], _ => rfl
  | y :: r, h => by
    unfold Asc at h
    rw [List.pairwise_cons] at h
    have ih := finR_none (x := x) h.2
    rw [finR_true] at ih ⊢
    rw [List.filter_cons, List.filter_cons, List.filter_cons]
    rcases Int.lt_trichotomy y.f0 x.f0 with hb | hb | hb
    · rw [if_pos (by simp; omega), if_pos (by simpa using hb), if_neg (by simp; omega), ih]; rfl
    · rw [if_neg (by simp; omega), if_neg (by simp; omega), if_neg (by simp; omega), ih]
    · rw [if_pos (by simp; omega), if_neg (by simp; omega), if_pos (by simpa using hb), ih]
      rw [filter_none (p := fun y => decide (y.f0 < x.f0)) (fun z hz => by have := h.1 z hz; simp; omega)]
      rfl
theorem finR_false {x : Bk} : ∀ {r : List Bk}, Asc r → finR x false r = r.filter (fun y => decide (y.f0 < x.f0)) ++ [x] ++ r.filter (fun y => decide (x.f0 < y.f0))
  | [], _ => rfl
  | y :: r, h => by
    unfold Asc at h
    rw [List.pairwise_cons] at h
    have ih := finR_false (x := x) h.2
    unfold finR
    rw [List.filter_cons, List.filter_cons]
    rcases Int.lt_trichotomy y.f0 x.f0 with hb | hb | hb
    · rw [if_neg (by omega), if_neg (by omega), if_pos (by simpa using hb), if_neg (by simp; omega), ih]; rfl
    · rw [if_pos (by omega), if_pos hb, if_neg (by simp; omega), if_neg (by simp; omega), finR_none h.2]
      rw [filter_none (p := fun y => decide (y.f0 < x.f0)) (fun z hz => by have := h.1 z hz; simp; omega)]
      rfl
    · rw [if_pos (by omega), if_neg (by omega), if_neg (by simp; omega), if_pos (by simpa using hb), finR_none h.2]
      rw [filter_none (p := fun y => decide (y.f0 < x.f0)) (fun z hz => by have := h.1 z hz; simp; omega)]
      rfl
theorem rPut (h : Asc bl) (hl : bl.length ≤ 65536) (x : Bk) : Ev (fun k => cambiumref03_put.f k bl x.f0 x.f1) (putL bl x) := by
  unfold cambiumref03_put.f
  refine Ev.val (rPut_l0 bl x hl bl.length 0 (by omega) [] _ (by simp)) ?_
  rw [List.nil_append, List.drop_zero]
  unfold putL cell
  by_cases hz : x.f1.size = 0
  · rw [show (x.f1.toList == []) = true by rw [toList_nil.2 hz]; rfl, finR_none h, if_pos hz, List.append_nil]
  · rw [show (x.f1.toList == []) = false by
      rw [beq_eq_false_iff_ne, ne_eq, toList_nil]; exact hz, finR_false h, if_neg hz]
-- the calls
theorem rWrite_ok (h : okDev s bl wl) (d : Bool) (f n : Int) (data : ByteArray) : Ev (fun k => cambiumref03_Write.f k s bl wl d f n data) (writeS s bl wl d f n data) := by
  unfold cambiumref03_Write.f writeS
  refine Ev.bind (rCheck_ok h d f) (Ev.ifp rfl (Ev.bindc (rcopy_ok h d f) ?_))
  dsimp only
  refine Ev.ite (fun hd => ?_) (fun hd => ?_)
  · rw [if_pos hd]; exact Ev.const rfl
  · rw [if_neg hd]
    refine Ev.ite (fun hn => ?_) (fun hn => ?_)
    · rw [if_pos hn]; exact Ev.const rfl
    · rw [if_neg hn]
      refine Ev.ite (fun hq => ?_) (fun hq => ?_)
      · rw [if_pos hq]; exact Ev.const rfl
      · rw [if_neg hq]
        refine Ev.ite (fun hw => ?_) (fun hw => ?_)
        · rw [if_pos hw]; exact Ev.const rfl
        · rw [if_neg hw]
          have hd2 : d = false := by cases d <;> simp_all
          subst hd2
          refine Ev.bind (refCut data (by omega)) (Ev.ifp (by omega) (Ev.bindc rfl ?_))
          unfold downOf fuseOf
          by_cases h0 : f = 0
          · subst h0
            exact Ev.ifp rfl (Ev.const rfl)
          · refine Ev.ifn h0 ?_
            have hz : (f == 0) = false := by simpa using h0
            rw [hz]
            by_cases h1 : f > 0
            · refine Ev.ifp h1 (Ev.const ?_)
              rw [if_pos h1]; rfl
            · refine Ev.ifn h1 (Ev.const ?_)
              rw [if_neg h1]; rfl
theorem rPuts (h0 : 0 ≤ s) (h1 : s ≤ 65536) (ws : List Bk) (hw : ∀ x ∈ ws, okB s x) (hl : ws.length ≤ 16384) (d : Bool) (f : Int) : ∀ dd i : Nat, ws.length = i + dd → ∀ b, okBl s b →
    Ev (fun k => cambiumref03_Flush.l0 k ws (ws.length : Int) (i : Int) s b ws d f) (s, putsL b (ws.drop i), [], d, f, 0)
  | 0, i, hi, b, hb => by
    refine Ev.step (fun k => by rw [cambiumref03_Flush.l0]) ?_
    rw [List.drop_of_length_le (by omega)]
    exact Ev.ifn (by omega) (Ev.const rfl)
  | dd + 1, i, hi, b, hb => by
    have hlt : i < ws.length := by omega
    refine Ev.step (fun k => by rw [cambiumref03_Flush.l0]) ?_
    rw [List.drop_eq_getElem_cons hlt, rd_get ws i hlt, succ64 (by omega)]
    refine Ev.ifp (by omega) (Ev.ifp (by omega) (Ev.ifp (by omega) (Ev.bind (rPut hb.1 (okBl_len hb h0 h1) ws[i]) ?_)))
    exact rPuts h0 h1 ws hw hl d f dd (i + 1) (by omega) _ (okBl_put hb (hw _ (List.getElem_mem hlt)))
theorem rFlush_ok (h : okDev s bl wl) (d : Bool) (f : Int) : Ev (fun k => cambiumref03_Flush.f k s bl wl d f) (flushS s bl wl d f) := by
  unfold cambiumref03_Flush.f flushS
  have hb : ∀ (d2 : Bool) (f2 : Int), Ev (fun k => cambiumref03_Flush.j1 k s bl wl d2 f2) (s, putsL bl wl, [], d2, f2, 0) := by
    intro d2 f2
    refine Ev.step (fun k => by rw [cambiumref03_Flush.j1]) ?_
    exact rPuts (by have := h.1; omega) h.2.1 wl h.2.2.2.2 h.2.2.1 d2 f2 wl.length 0 (by omega) bl h.2.2.2.1
  refine Ev.bind (rCheck_ok h d f) (Ev.ifp rfl (Ev.bindc (rcopy_ok h d f) ?_))
  dsimp only
  cases d with
  | true =>
    refine Ev.ifp rfl (Ev.step (fun k => by rw [cambiumref03_Flush.j0]) ?_)
    exact Ev.ifp rfl (Ev.const rfl)
  | false =>
    refine Ev.ifn (by simp) (Ev.step (fun k => by rw [cambiumref03_Flush.j0]) ?_)
    rw [if_neg (by simp)]
    unfold downOf fuseOf
    by_cases h0 : f = 0
    · subst h0
      exact Ev.ifp rfl (Ev.const rfl)
    · have hz : (f == 0) = false := by simpa using h0
      rw [hz]
      refine Ev.ifn (by simp) ?_
      rw [if_neg (by simp)]
      by_cases h1 : f > 0
      · refine Ev.ifp h1 ?_
        rw [if_pos h1]; exact hb _ _
      · refine Ev.ifn h1 ?_
        rw [if_neg h1]; exact hb _ _
theorem foldl_read (n : Int) (l : List Bk) : ∀ (v : ByteArray), l.foldl (fun v x => if x.f0 = n then x.f1 else v) v = (match l.reverse.find? (fun x => x.f0 == n) with | some x => x.f1 | none => v) := by
  induction l with
  | nil => intro v; rfl
  | cons x l ih =>
    intro v
    rw [List.foldl_cons, ih, List.reverse_cons, List.find?_append]
    cases l.reverse.find? (fun x => x.f0 == n) with
    | some y => rfl
    | none =>
      by_cases hx : x.f0 = n <;> simp [hx]
theorem asc_one {l : List Bk} (h : Asc l) (n : Int) : (match l.reverse.find? (fun x => x.f0 == n) with | some x => x.f1 | none => (⟨#[]⟩ : ByteArray)) = has l n := by
  cases hf : l.reverse.find? (fun x => x.f0 == n) with
  | some y =>
    have h1 := List.find?_some hf
    have h2 := List.mem_of_find?_eq_some hf
    rw [List.mem_reverse] at h2
    have h3 : y.f0 = n := by simpa using h1
    rw [← h3, has_mem h h2]
  | none =>
    rw [has_none]
    intro y hy
    rw [List.find?_eq_none] at hf
    simpa using hf y (by simpa using hy)
theorem rRead_l0 (n : Int) (l : List Bk) (hl : l.length ≤ 4398046511104) : ∀ dd i : Nat, l.length = i + dd → ∀ v, Ev (fun k => cambiumref03_Read.l0 k n v l (l.length : Int) (i : Int)) ((l.drop i).foldl (fun v x => if x.f0 = n then x.f1 else v) v, 0)
  | 0, i, hi, v => by
    refine Ev.step (fun k => by rw [cambiumref03_Read.l0]) ?_
    rw [List.drop_of_length_le (by omega)]
    exact Ev.ifn (by omega) (Ev.const rfl)
  | dd + 1, i, hi, v => by
    have hlt : i < l.length := by omega
    refine Ev.step (fun k => by rw [cambiumref03_Read.l0]) ?_
    rw [List.drop_eq_getElem_cons hlt, rd_get l i hlt, succ64 (by omega), List.foldl_cons]
    refine Ev.ifp (by omega) (Ev.ifp (by omega) (Ev.ifp (by omega) (Ev.ite (fun hc => ?_) (fun hc => ?_))))
    · rw [if_pos hc]; exact rRead_l0 n l hl dd (i + 1) (by omega) _
    · rw [if_neg hc]; exact rRead_l0 n l hl dd (i + 1) (by omega) _
theorem rRead_ok (h : okDev s bl wl) (d : Bool) (f n : Int) : Ev (fun k => cambiumref03_Read.f k s bl wl d f n) (readS s bl wl d n) := by
  unfold cambiumref03_Read.f readS
  have h1 := okDev_len h
  have h2 := h.2.2.1
  refine Ev.bind (rCheck_ok h d f) (Ev.ifp rfl (Ev.ite (fun hd => ?_) (fun hd => ?_)))
  · rw [if_pos hd]; exact Ev.const rfl
  · rw [if_neg hd]
    refine Ev.ite (fun hn => ?_) (fun hn => ?_)
    · rw [if_pos hn]; exact Ev.const rfl
    · rw [if_neg hn]
      refine Ev.bindc rfl (Ev.ifp (by simp; omega) (Ev.bindc rfl (Ev.ifp (by simp; omega) (Ev.bindc rfl ?_))))
      rw [List.nil_append]
      refine Ev.val (rRead_l0 n (bl ++ wl) (by simp; omega) (bl ++ wl).length 0 (by omega) _) ?_
      rw [List.drop_zero, List.foldl_append, foldl_read n wl, foldl_read n bl, asc_one h.2.2.2.1.1]
      rfl
theorem rCrash_l0 (h0 : 0 ≤ s) (h1 : s ≤ 65536) (ws : List Bk) (l : List Bool) (hw : ∀ x ∈ ws, okB s x) (hl : ws.length ≤ 16384) (d : Bool) (f : Int) : ∀ dd i : Nat, ws.length = i + dd → ∀ b, okBl s b →
    Ev (fun k => cambiumref03_Crash.l0 k l ws (ws.length : Int) (i : Int) s b ws d f) (s, putsL b (kept (ws.drop i) (l.drop i)), [], false, -1, 0)
  | 0, i, hi, b, hb => by
    refine Ev.step (fun k => by rw [cambiumref03_Crash.l0]) ?_
    rw [show ws.drop i = [] from List.drop_of_length_le (by omega)]
    exact Ev.ifn (by omega) (Ev.const (by unfold kept; rfl))
  | dd + 1, i, hi, b, hb => by
    have hlt : i < ws.length := by omega
    refine Ev.step (fun k => by rw [cambiumref03_Crash.l0]) ?_
    rw [List.drop_eq_getElem_cons hlt, rd_get ws i hlt, succ64 (by omega)]
    refine Ev.ifp (by omega) (Ev.ifp (by omega) (Ev.ifp (by omega) ?_))
    by_cases hk : i < l.length
    · refine Ev.ifp (by omega) ?_
      rw [List.drop_eq_getElem_cons hk]
      have hr : rdOf false l (i : Int) = l[i] := by
        unfold rdOf
        rw [Int.toNat_natCast, List.getD_eq_getElem?_getD, List.getElem?_eq_getElem hk]; rfl
      rw [hr]
      unfold kept
      refine Ev.ite (fun hc => ?_) (fun hc => ?_)
      · rw [if_pos hc]
        exact Ev.bind (rPut hb.1 (okBl_len hb h0 h1) ws[i]) (rCrash_l0 h0 h1 ws l hw hl d f dd (i + 1) (by omega) _ (okBl_put hb (hw _ (List.getElem_mem hlt))))
      · rw [if_neg hc]
        exact rCrash_l0 h0 h1 ws l hw hl d f dd (i + 1) (by omega) _ hb
    · refine Ev.ifn (by omega) (Ev.val (rCrash_l0 h0 h1 ws l hw hl d f dd (i + 1) (by omega) _ hb) ?_)
      rw [show l.drop i = [] from List.drop_of_length_le (by omega), show l.drop (i + 1) = [] from List.drop_of_length_le (by omega)]
      have e : ∀ m : List Bk, kept m [] = [] := fun m => by cases m <;> rfl
      rw [e, e]
theorem rCrash_ok (h : okDev s bl wl) (d : Bool) (f : Int) (l : List Bool) : Ev (fun k => cambiumref03_Crash.f k s bl wl d f l) (crashS s bl wl l) := by
  unfold cambiumref03_Crash.f crashS
  refine Ev.bind (rCheck_ok h d f) (Ev.ifp rfl (Ev.bindc (rcopy_ok h d f) ?_))
  exact rCrash_l0 (by have := h.1; omega) h.2.1 wl l h.2.2.2.2 h.2.2.1 d f wl.length 0 (by omega) bl h.2.2.2.1
theorem rSpoil_ok (h : okDev s bl wl) (d : Bool) (f n : Int) (data : ByteArray) : Ev (fun k => cambiumref03_Spoil.f k s bl wl d f n data) (spoilS s bl wl d f n data) := by
  unfold cambiumref03_Spoil.f spoilS
  refine Ev.bind (rCheck_ok h d f) (Ev.ifp rfl (Ev.bindc (rcopy_ok h d f) ?_))
  dsimp only
  refine Ev.ite (fun hn => ?_) (fun hn => ?_)
  · rw [if_pos hn]; exact Ev.const rfl
  · rw [if_neg hn]
    refine Ev.ite (fun hq => ?_) (fun hq => ?_)
    · rw [if_pos hq]; exact Ev.const rfl
    · rw [if_neg hq]
      exact Ev.bind (refCut data (by omega)) (Ev.bind (rPut h.2.2.2.1.1 (okDev_len h) ⟨n, trimB data⟩) (Ev.const rfl))
theorem rRead_bad (h : ¬ okDev s bl wl) (hi : Inp s bl wl) (hl2 : wl.length ≤ maxLen) (d : Bool) (f n : Int) : Ev (fun k => cambiumref03_Read.f k s bl wl d f n) (⟨#[]⟩, 7) :=
  Ev.bind (rCheck_bad h hi hl2 d f) (Ev.ifn (by decide) (Ev.const rfl))
theorem rWrite_bad (h : ¬ okDev s bl wl) (hi : Inp s bl wl) (hl2 : wl.length ≤ maxLen) (d : Bool) (f n : Int) (data : ByteArray) : Ev (fun k => cambiumref03_Write.f k s bl wl d f n data) badV :=
  Ev.bind (rCheck_bad h hi hl2 d f) (Ev.ifn (by decide) (Ev.const rfl))
theorem rFlush_bad (h : ¬ okDev s bl wl) (hi : Inp s bl wl) (hl2 : wl.length ≤ maxLen) (d : Bool) (f : Int) : Ev (fun k => cambiumref03_Flush.f k s bl wl d f) badV :=
  Ev.bind (rCheck_bad h hi hl2 d f) (Ev.ifn (by decide) (Ev.const rfl))
theorem rCrash_bad (h : ¬ okDev s bl wl) (hi : Inp s bl wl) (hl2 : wl.length ≤ maxLen) (d : Bool) (f : Int) (l : List Bool) : Ev (fun k => cambiumref03_Crash.f k s bl wl d f l) badV :=
  Ev.bind (rCheck_bad h hi hl2 d f) (Ev.ifn (by decide) (Ev.const rfl))
theorem rSpoil_bad (h : ¬ okDev s bl wl) (hi : Inp s bl wl) (hl2 : wl.length ≤ maxLen) (d : Bool) (f n : Int) (data : ByteArray) : Ev (fun k => cambiumref03_Spoil.f k s bl wl d f n data) badV :=
  Ev.bind (rCheck_bad h hi hl2 d f) (Ev.ifn (by decide) (Ev.const rfl))
theorem same_dv (t : Dv) (h : okDev t.1 t.2.1 t.2.2.1) : Ev (fun k => cambiumref03_Same.f k t.1 t.2.1 t.2.2.1 t.2.2.2.1 t.2.2.2.2.1 t.1 t.2.1 t.2.2.1 t.2.2.2.1 t.2.2.2.2.1) true :=
  same_self _ _ _ _ _ (by have := okDev_len h; omega) (by have := h.2.2.1; omega)
theorem same_bad : Ev (fun k => cambiumref03_Same.f k badV.1 badV.2.1 badV.2.2.1 badV.2.2.2.1 badV.2.2.2.2.1 badV.1 badV.2.1 badV.2.2.1 badV.2.2.2.1 badV.2.2.2.2.1) true :=
  same_self _ _ _ _ _ (by decide) (by decide)
end Go.Proofs.YtcphflfjhkeooaaDoor.Z
end

section
/- DevCrashes, over numbers and lists: the law's function answers true. -/
namespace Go.Proofs.YtcphflfjhkeooaaDoor.Pure
open Go.RowKit Go.Proofs.YtcphflfjhkeooaaDoor Go.Proofs.YtcphflfjhkeooaaDoor.Z Go.Proofs.YtcphflfjhkeooaaDoorW.PrintWords
set_option linter.unusedVariables false
theorem DevCrashes : ∀ (a0_0 : Int) (l0_1 : List (S39)) (l0_2 : List (S39)) (a0_3 : Bool) (a0_4 : Int) (l1 : List Bool) (a2 : Int) (a3 : ByteArray), (Lit.int .u32 a0_0).wf = true → l0_1.length ≤ maxLen → (∀ x ∈ l0_1, Z.G39 x) → l0_1.length * 24 ≤ 140737488351232 → l0_2.length ≤ maxLen → (∀ x ∈ l0_2, Z.G39 x) → l0_2.length * 24 ≤ 140737488351232 → (Lit.int .i64 a0_4).wf = true → l1.length ≤ maxLen → (∀ x ∈ l1, (fun _ : Bool => True) x) → l1.length * 1 ≤ 140737488351232 → (Lit.int .u32 a2).wf = true → a3.size ≤ 140737488351232 → ∃ k, Z.cambiumlaw03_DevCrashes.f k a0_0 l0_1 l0_2 a0_3 a0_4 l1 a2 a3 = some true := by
  intro s bl wl d f ke n data hs hl1 hg1 hz1 hl2 hg2 hz2 hf hkl hkg hkz hn hd
  refine Ev.rounds (g := fun r => Z.cambiumlaw03_DevCrashes.f r s bl wl d f ke n data) ?_
  have hn := (wf32 hn).1
  have hi : Inp s bl wl := inp hg1 hg2 hl1
  unfold cambiumlaw03_DevCrashes.f
  have same : Ev (fun k => cambiumref03_Same.f k s bl wl d f s bl wl d f) true := same_self _ _ _ _ _ (by omega) (by omega)
  refine Ev.bindc (copy_f d f (by omega) (by omega)) ?_
  dsimp only
  by_cases ok : okDev s bl wl
  · refine Ev.bind (crash_ok ok d f ke) (Ev.bind (rCrash_ok ok d f ke) (Ev.bind (spoil_ok ok d f n data) (Ev.bind (rSpoil_ok ok d f n data) (Ev.bind lives_f (Ev.ifp rfl ?_)))))
    exact Ev.bind (same_dv _ (okDev_crash ok ke)) (Ev.ifp rfl (Ev.ifp rfl (Ev.bind (same_dv _ (okDev_spoil ok hn d f data)) (Ev.ifp rfl (Ev.ifp rfl (Ev.bind same (Ev.const rfl)))))))
  · refine Ev.bind (crash_bad ok hi d f ke) (Ev.bind (rCrash_bad ok hi hl2 d f ke) (Ev.bind (spoil_bad ok hi d f n data) (Ev.bind (rSpoil_bad ok hi hl2 d f n data) (Ev.bind lives_f (Ev.ifp rfl ?_)))))
    exact Ev.bind same_bad (Ev.ifp rfl (Ev.ifp rfl (Ev.bind same_bad (Ev.ifp rfl (Ev.ifp rfl (Ev.bind same (Ev.const rfl)))))))
end Go.Proofs.YtcphflfjhkeooaaDoor.Pure
end

section
/- cambium/cambiumlaw03.DevCrashes: at every input the law's function returns true, and each argument reads afterwards as before. Conditions: none beyond the row's own. Printed by a program of this session (mp.py) over the pure statement in YtcphflfjhkeooaaDoorPureDevCrashes. -/
namespace Go.Proofs.YtcphflfjhkeooaaDoor.devCrashes
open Go.ChangeShapes Go.WideShapes Go.ChangeAt Go.RowKit
open Go.ChangeMaps (open_string shut_string)
set_option linter.unusedVariables false
set_option linter.unusedSimpArgs false
theorem own : ownKnob Tryd.prog.godebug = none := by kernel_rfl
theorem laidOut : laidOutB Tryd.prog = true := by kernel_rfl
theorem lstOf5 {α : Type} (l : List α) (h : l.length = 5) : ∃ z0 z1 z2 z3 z4, l = [z0, z1, z2, z3, z4] := by
  match l, h with
  | [z0, z1, z2, z3, z4], _ => exact ⟨z0, z1, z2, z3, z4, rfl⟩
theorem arrOf5 {α : Type} (a : Array α) (h : a.toList.length = 5) : ∃ z0 z1 z2 z3 z4, a = #[z0, z1, z2, z3, z4] := by
  obtain ⟨l⟩ := a
  obtain ⟨z0, z1, z2, z3, z4, rfl⟩ := lstOf5 l h
  exact ⟨z0, z1, z2, z3, z4, rfl⟩
def lay0 : Obj → Obj
  | .cells _ t frozen => .cells (((Pinned.numbers IntKind.u8 Pinned.utf8FirstZ : List (DataW Unit)).map (fun x => match x with | .lit (.int k v) => Value.int k v | _ => .int .u8 0)).toArray) t frozen
  | o => o
def lay1 : Obj → Obj
  | .cells _ t frozen => .cells #[.int .u8 128, .int .u8 191, .int .u8 160, .int .u8 191, .int .u8 128, .int .u8 159, .int .u8 144, .int .u8 191, .int .u8 128, .int .u8 143, .int .u8 0, .int .u8 0, .int .u8 0, .int .u8 0, .int .u8 0, .int .u8 0, .int .u8 0, .int .u8 0, .int .u8 0, .int .u8 0, .int .u8 0, .int .u8 0, .int .u8 0, .int .u8 0, .int .u8 0, .int .u8 0, .int .u8 0, .int .u8 0, .int .u8 0, .int .u8 0, .int .u8 0, .int .u8 0] t frozen
  | o => o
noncomputable def laidWorld (os : Os) : World :=
  { World.holding Tryd.prog os ⟨#[], #[], []⟩ with heap := ((World.holding Tryd.prog os ⟨#[], #[], []⟩).heap.modify 0 lay0).modify 1 lay1 }
theorem laid_met (os : Os) : laidMet Tryd.prog Rows.devCrashesRow.laid ((laidWorld os).forCall (fun _ _ => 0) ⟨#[], #[.agg #[.int .u32 0, .slice none 0 0, .slice none 0 0, .bool false, .int .i64 0], .slice none 0 0, .int .u32 0, .string ByteArray.empty], []⟩).memory :=
  laidMet_of_run' 8 (by kernel_rfl) (by kernel_rfl)
theorem reads (os : Os) {H : Type} (enc : TypeId × Value → H) : ∃ places, DataW.whole enc Tryd.prog ((laidWorld os).forCall (fun _ _ => 0) ⟨#[], #[.agg #[.int .u32 0, .slice none 0 0, .slice none 0 0, .bool false, .int .i64 0], .slice none 0 0, .int .u32 0, .string ByteArray.empty], []⟩).memory Tryd.f9.params.toList Rows.devCrashesSpec.vars false (#[.agg #[.int .u32 0, .slice none 0 0, .slice none 0 0, .bool false, .int .i64 0], .slice none 0 0, .int .u32 0, .string ByteArray.empty] : Array Value).toList 8 = some ([.agg [.lit (.int .u32 0), .nil, .nil, .lit (.bool false), .lit (.int .i64 0)], .nil, .lit (.int .u32 0), .lit (.string [])], [], places) :=
  ⟨[], by kernel_rfl⟩
set_option maxHeartbeats 1000000 in
set_option maxRecDepth 100000 in
theorem lifted (os : Os) (started : os.Started) (H : Type) (enc : TypeId × Value → H) (F : Stop.Interp) :
    ReturnsInHanded {} Tryd.checked os 9 .any ((OpenSpec.ofChange Rows.devCrashesSpec).preRow enc Tryd.prog Tryd.f9 Rows.devCrashesRow.domain false Rows.devCrashesRow.laid) (((OpenSpec.ofChange Rows.devCrashesSpec).at F).post enc Tryd.prog Tryd.f9 false true false false) := by
  obtain ⟨places, hx⟩ := reads os enc
  refine returnsInHanded_of_row (C := Tryd.checked) (s := OpenSpec.ofChange Rows.devCrashesSpec) own started (by kernel_rfl) Tryd.func9
    (witness_row_at (enc := enc) (C := Tryd.checked) false (laidWorld os) #[.agg #[.int .u32 0, .slice none 0 0, .slice none 0 0, .bool false, .int .i64 0], .slice none 0 0, .int .u32 0, .string ByteArray.empty] rfl (by kernel_rfl) (by kernel_rfl) (by kernel_rfl)
      (OpenSpec.preRow_of_cond 8 hx (by kernel_rfl) (fun k hk => by cases hk) (by kernel_rfl) (laid_met os))) ?_
  intro W base args ds gs before hval0 hW hcn0_ hcnd hwz_ _ _ _
  have hsz : (DataW.weightsEach Tryd.prog (Tryd.f9.params.toList ++ Rows.devCrashesSpec.plain.varTypes Tryd.prog) (ds ++ gs)).all (· ≤ reachBytes) = true := hwz_
  have hval : ∀ (j : Nat) t v, Tryd.f9.params[j]? = some t → args[j]? = some v → Value.okWide Tryd.prog W .any base t v := hval0
  have hW' := hW
  obtain ⟨p, q, hA0, hV, rfl, hfz, hnd⟩ := hW
  have hA : DataW.TrodAll enc Tryd.prog W 0 (fun _ => true) true Tryd.f9.params.toList args.toList ds p := hA0
  rw [Tryd.params9] at hA hval hsz
  obtain ⟨v0, vs0, d0, ds0, p0, q0, hargs, rfl, rfl, h0, r0⟩ := trodAll_cons hA
  obtain ⟨v1, vs1, d1, ds1, p1, q1, rfl, rfl, rfl, h1, r1⟩ := trodAll_cons r0
  obtain ⟨v2, vs2, d2, ds2, p2, q2, rfl, rfl, rfl, h2, r2⟩ := trodAll_cons r1
  obtain ⟨v3, vs3, d3, ds3, p3, q3, rfl, rfl, rfl, h3, r3⟩ := trodAll_cons r2
  obtain ⟨rfl, rfl, rfl⟩ := trodAll_nil r3
  obtain rfl : args = #[v0, v1, v2, v3] := by cases args; simp_all
  obtain ⟨rfl, rfl⟩ := trodVars_none hV
  have k0 := h0
  have lt0 : ∀ x ∈ p0, x.block < W.heap.size := by obtain ⟨m, hm⟩ := k0; exact DataW.trod_lt m _ _ _ hm
  obtain ⟨cs0, rfl, hsz_0⟩ := okWide_struct Tryd.underlying25 (hval 0 25 v0 rfl rfl)
  obtain ⟨fuel0, hf0⟩ := h0
  obtain ⟨ys0, n0, hl0, hy0, hx0, hfs0⟩ := Z.flat_fields Tryd.underlying25 (by kernel_rfl) (by kernel_rfl) hf0
  obtain ⟨q0_0, q0_1, q0_2, q0_3, q0_4, rfl⟩ := arrOf5 cs0 hl0
  obtain ⟨r0_0, r0_1, r0_2, r0_3, r0_4, rfl⟩ := lstOf5 ys0 hy0
  obtain ⟨a0_0, hk0_0, hG0_0, hB0_0⟩ := (Z.Opens.int Tryd.underlying22 (by kernel_rfl)).2 (hfs0 0 _ q0_0 rfl rfl)
  have hk0_0' : [q0_0] = [.int .u32 a0_0] := hk0_0
  simp only [List.cons.injEq, and_true] at hk0_0'
  subst hk0_0'
  clear hk0_0
  obtain ⟨A0_1, c0_1, l0_1, hcs0_1, hlc0_1, hcm0_1, hC0_1, hG0_1, hB0_1, hx0_1⟩ := Z.Opens.row Tryd.underlying23 Z.opens39 (of_decide_eq_true (by kernel_rfl)) (hfs0 1 _ q0_1 rfl rfl)
  simp only [List.cons.injEq, and_true] at hcs0_1
  subst hcs0_1
  have hlm0_1 : l0_1.length ≤ maxLen := Nat.le_trans hlc0_1 hcm0_1
  have hsz0_1 : l0_1.length * 24 ≤ 140737488351232 := Z.sized_field hsz (j := 0) (t := 25) (i := 1) (u := 23) rfl rfl hx0 Tryd.underlying25 rfl rfl Tryd.underlying23 (by kernel_rfl) hx0_1
  obtain ⟨A0_2, c0_2, l0_2, hcs0_2, hlc0_2, hcm0_2, hC0_2, hG0_2, hB0_2, hx0_2⟩ := Z.Opens.row Tryd.underlying23 Z.opens39 (of_decide_eq_true (by kernel_rfl)) (hfs0 2 _ q0_2 rfl rfl)
  simp only [List.cons.injEq, and_true] at hcs0_2
  subst hcs0_2
  have hlm0_2 : l0_2.length ≤ maxLen := Nat.le_trans hlc0_2 hcm0_2
  have hsz0_2 : l0_2.length * 24 ≤ 140737488351232 := Z.sized_field hsz (j := 0) (t := 25) (i := 2) (u := 23) rfl rfl hx0 Tryd.underlying25 rfl rfl Tryd.underlying23 (by kernel_rfl) hx0_2
  obtain ⟨a0_3, hk0_3, hG0_3, hB0_3⟩ := (Z.Opens.bool Tryd.underlying4 (by kernel_rfl)).2 (hfs0 3 _ q0_3 rfl rfl)
  have hk0_3' : [q0_3] = [.bool a0_3] := hk0_3
  simp only [List.cons.injEq, and_true] at hk0_3'
  subst hk0_3'
  clear hk0_3
  obtain ⟨a0_4, hk0_4, hG0_4, hB0_4⟩ := (Z.Opens.int Tryd.underlying3 (by kernel_rfl)).2 (hfs0 4 _ q0_4 rfl rfl)
  have hk0_4' : [q0_4] = [.int .i64 a0_4] := hk0_4
  simp only [List.cons.injEq, and_true] at hk0_4'
  subst hk0_4'
  clear hk0_4
  have k1 := h1
  have lt1 : ∀ x ∈ p1, x.block < W.heap.size := by obtain ⟨m, hm⟩ := k1; exact DataW.trod_lt m _ _ _ hm
  obtain ⟨a1, len1, cap1, rfl⟩ := okWide_slice Tryd.underlying37 (hval 1 37 v1 rfl rfl)
  obtain ⟨fuel1, hf1⟩ := h1
  obtain ⟨A1, c1, l1, hcs1, hlc1, hcm1, hC1, hG1, hB1, hx1⟩ := Z.Opens.row Tryd.underlying37 (Z.Opens.bool Tryd.underlying4 (by kernel_rfl)) (of_decide_eq_true (by kernel_rfl)) hf1
  simp only [Value.cells, List.cons.injEq, Value.slice.injEq, and_true] at hcs1
  obtain ⟨rfl, rfl, rfl⟩ := hcs1
  have hlm1 : l1.length ≤ maxLen := Nat.le_trans hlc1 hcm1
  have hsz1 : l1.length * 1 ≤ 140737488351232 := Z.sized_row hsz (j := 1) (t := 37) rfl rfl Tryd.underlying37 (by kernel_rfl) hx1
  have k2 := h2
  have lt2 : ∀ x ∈ p2, x.block < W.heap.size := by obtain ⟨m, hm⟩ := k2; exact DataW.trod_lt m _ _ _ hm
  obtain ⟨a2, rfl, rfl, rfl, w2⟩ := open_int Tryd.underlying22 (hval 2 22 v2 rfl rfl) h2
  have k3 := h3
  have lt3 : ∀ x ∈ p3, x.block < W.heap.size := by obtain ⟨m, hm⟩ := k3; exact DataW.trod_lt m _ _ _ hm
  obtain ⟨a3, rfl, rfl, rfl, y3⟩ := open_string Tryd.underlying9 (hval 3 9 v3 rfl rfl) h3
  have w3 : a3.size ≤ 140737488351232 := by
    have z := sized_string hsz (j := 3) (t := 9) rfl rfl
    rw [Array.length_toList] at z
    exact z
  have hP := Pure.DevCrashes a0_0 l0_1 l0_2 a0_3 a0_4 l1 a2 a3 hG0_0 hlm0_1 hG0_1 hsz0_1 hlm0_2 hG0_2 hsz0_2 hG0_4 hlm1 hG1 hsz1 w2 w3
  obtain ⟨k, hk⟩ := hP
  refine (Z.cambiumlaw03_DevCrashes.calls k a0_0 _ _ l0_1 _ _ l0_2 a0_3 a0_4 _ _ l1 a2 a3 true W hC0_1 hlc0_1 hC0_2 hlc0_2 hC1 hlc1 hk).mono fun e W' ⟨he, bel0⟩ => ?_
  have bel : Below W.heap.size W W' := bel0
  subst he
  exact ⟨_, rfl, _, _, _, [], _, [], hW', trodAll_mk1 (shut_bool Tryd.underlying4 _), (trodAll_cons_mk (Below.trod laidOut (by kernel_rfl) (of_decide_eq_true (by kernel_rfl)) k0 bel lt0) (trodAll_cons_mk (Below.trod laidOut (by kernel_rfl) (of_decide_eq_true (by kernel_rfl)) k1 bel lt1) (trodAll_cons_mk (Below.trod laidOut (by kernel_rfl) (of_decide_eq_true (by kernel_rfl)) k2 bel lt2) (trodAll_cons_mk (Below.trod laidOut (by kernel_rfl) (of_decide_eq_true (by kernel_rfl)) k3 bel lt3) trodAll_mk0)))), rfl, bel.frame _, fun h => by cases h⟩
theorem over : Rows.DevCrashesSaid :=
  OpenClaim.holds_of_cond 9 Tryd.f9 rfl rfl rfl rfl rfl rfl rfl ⟨rfl, rfl, rfl, rfl, rfl⟩ rfl rfl rfl rfl rfl (by kernel_rfl) Tryd.func9 (by kernel_rfl)
    (of_decide_eq_true (by kernel_rfl)) (by unfold Func.isWrapper; first | (rw [if_pos (by decide +kernel)]; kernel_rfl) | (rw [if_neg (by decide +kernel)]; exact ⟨rfl, rfl⟩))
    (fun os started H enc _ F => by rw [OpenClaim.pre_eq_preRow]; exact lifted os started H enc F)
theorem plain (f : FuncId) (fn : Func) (hf : Tryd.pinned.checked.prog.funcNamed "cambium/cambiumlaw03.DevCrashes" = some f) (hfn : Tryd.pinned.checked.prog.funcs[f]? = some fn) :
    false = Tryd.pinned.checked.prog.looks [] ∧ ∀ (j : Nat) t, fn.params[j]? = some t → Tryd.pinned.checked.prog.wantsStandIn t = false := by
  obtain rfl : f = 9 := Option.some.inj ((show Tryd.prog.funcNamed "cambium/cambiumlaw03.DevCrashes" = some 9 by kernel_rfl).symm.trans hf) |>.symm
  obtain rfl : fn = Tryd.f9 := (Option.some.inj (Tryd.func9.symm.trans hfn)).symm
  refine ⟨by kernel_rfl, fun j t ht => ?_⟩
  rw [Tryd.params9] at ht
  have hm := Array.mem_of_getElem? ht
  simp only [List.mem_toArray, List.mem_cons, List.not_mem_nil, or_false] at hm
  rcases hm with rfl | rfl | rfl | rfl <;> exact (show Tryd.prog.wantsStandIn _ = false by kernel_rfl)
theorem card : Rows.DevCrashesCardSaid :=
  Claim7.holds_tied_plain_at .later [] _ _ _ _ over (fun _ h => by cases h) (by kernel_rfl) (fun _ h => by cases h) devCrashes_row_tie rfl ⟨rfl, rfl⟩ (by kernel_rfl) rfl plain (by kernel_rfl)
end Go.Proofs.YtcphflfjhkeooaaDoor.devCrashes
namespace Go.Proofs.YtcphflfjhkeooaaDoor
theorem devCrashes_holds : Rows.DevCrashesCardSaid := devCrashes.card
#print axioms devCrashes_holds
end Go.Proofs.YtcphflfjhkeooaaDoor
end
