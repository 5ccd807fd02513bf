/- DevKept: at every input the law's function returns true and leaves its arguments as they were; no condition beyond the row's own. Part 3 of 3: this session's own texts, laid together. -/
import Derived.Test.YtcphflfjhkeooaaDoorMB1
import Derived.Test.YtcphflfjhkeooaaDoorMB2
import Derived.Test.YtcphflfjhkeooaaDoorCards
import Derived.Test.YtcphflfjhkeooaaDoorTie
import Derived.Deep.DeepHandedRow
import Derived.WalkKit
import Derived.ProofKit
import Derived.OpenShut
import Derived.ShutString
import Derived.ChangeOld
import Derived.Below
import Derived.SizedLaws
import Derived.Carry
section
-- Printed by a program of this session (mp.py) out of the translation.
namespace Go.Proofs.YtcphflfjhkeooaaDoor.Z
open Go.RowKit Go.Proofs.YtcphflfjhkeooaaDoorW.PrintWords Go.Proofs.YtcphflfjhkeooaaDoorW.PrintLast Go.Proofs.YtcphflfjhkeooaaDoorW.PrintMore
attribute [local go_sem] max2_int min2_int max_two min_two max_three min_three max_four min_four   -- for this text's walks alone
set_option linter.unusedVariables false
set_option linter.unusedSimpArgs false

/-! ### cambiumlaw03_DevKept: function 8 -/
def cambiumlaw03_DevKept.l0 : Nat → List Bool → Int → Int → Int → List (S39) → List (S39) → Bool → Int → Option (Bool)
  | 0, _, _, _, _, _, _, _, _ => none
  | k + 1, x3, x16, x17, x654000, x654001, x654002, x654003, x654004 => if x17 < x16 then (if x3.length < 140737488355328 then (cambiumlaw03_DevKept.l0 k (x3 ++ [true]) x16 (wrap64 (x17 + 1)) x654000 x654001 x654002 x654003 x654004) else (none)) else ((dev_Crash.f k x654000 x654001 x654002 x654003 x654004 x3).bind fun bt658 => (if bt658.2.2.2.2.2 = 0 then ((dev_Crash.f k x654000 x654001 x654002 x654003 x654004 ([] : List Bool)).bind fun bt669 => ((dev_Flush.f k x654000 x654001 x654002 false (-1)).bind fun bt681 => (if bt669.2.2.2.2.2 = 0 then (if bt681.2.2.2.2.2 = 0 then ((cambiumref03_Same.f k bt658.1 bt658.2.1 bt658.2.2.1 bt658.2.2.2.1 bt658.2.2.2.2.1 bt681.1 bt681.2.1 bt681.2.2.1 bt681.2.2.2.1 bt681.2.2.2.2.1).bind fun t693 => (if t693 = true then ((cambiumref03_Same.f k bt669.1 bt669.2.1 bt669.2.2.1 bt669.2.2.2.1 bt669.2.2.2.2.1 x654000 x654001 ([] : List (S39)) false (-1)).bind fun t694 => (some t694)) else (some false))) else (some false)) else (some false)))) else (some true)))
def cambiumlaw03_DevKept.f (k : Nat) (a0_0 : Int) (l0_1 : List (S39)) (l0_2 : List (S39)) (a0_3 : Bool) (a0_4 : Int) : Option (Bool) := (cambiumlaw03_lives.f k).bind fun t654 => (if t654 = true then (cambiumlaw03_DevKept.l0 k ([] : List Bool) (l0_2.length : Int) 0 a0_0 l0_1 l0_2 a0_3 a0_4) else (some false))
theorem cambiumlaw03_DevKept.mono_l : ∀ k, (∀ y0 y1 y2 y3 y4 y5 y6 y7, LeO (cambiumlaw03_DevKept.l0 k y0 y1 y2 y3 y4 y5 y6 y7) (cambiumlaw03_DevKept.l0 (k + 1) y0 y1 y2 y3 y4 y5 y6 y7))
  | 0 => fun _ _ _ _ _ _ _ _ r h => by simp [cambiumlaw03_DevKept.l0] at h
  | k + 1 => by
    have ih0 := cambiumlaw03_DevKept.mono_l k
    · intro y0 y1 y2 y3 y4 y5 y6 y7
      unfold cambiumlaw03_DevKept.l0
      repeat' first
      | (with_reducible exact ih0 _ _ _ _ _ _ _ _)
      | (with_reducible exact cambiumlaw03_lives.mono _)
      | (with_reducible exact cambiumref03_Same.mono _ _ _ _ _ _ _ _ _ _ _)
      | (with_reducible exact dev_Crash.mono _ _ _ _ _ _ _)
      | (with_reducible exact dev_Flush.mono _ _ _ _ _ _)
      | (with_reducible exact LeO.refl _)
      | (with_reducible exact LeO.none _)
      | (with_reducible refine LeO.ite ?_ ?_)
      | (with_reducible refine LeO.bind ?_ (fun _ => ?_))
      | exact ih0 _ _ _ _ _ _ _ _
      | exact cambiumlaw03_lives.mono _
      | exact cambiumref03_Same.mono _ _ _ _ _ _ _ _ _ _ _
      | exact dev_Crash.mono _ _ _ _ _ _ _
      | exact dev_Flush.mono _ _ _ _ _ _
      | exact LeO.none _
      | refine LeO.ite ?_ ?_
      | refine LeO.bind ?_ (fun _ => ?_)
theorem cambiumlaw03_DevKept.mono : ∀ a0 a1 a2 a3 a4 k, LeO (cambiumlaw03_DevKept.f k a0 a1 a2 a3 a4) (cambiumlaw03_DevKept.f (k + 1) a0 a1 a2 a3 a4) := by
  intro a0 a1 a2 a3 a4 k
  have ih0 := cambiumlaw03_DevKept.mono_l k
  unfold cambiumlaw03_DevKept.f
  repeat' first
      | (with_reducible exact ih0 _ _ _ _ _ _ _ _)
      | (with_reducible exact cambiumlaw03_lives.mono _)
      | (with_reducible exact cambiumref03_Same.mono _ _ _ _ _ _ _ _ _ _ _)
      | (with_reducible exact dev_Crash.mono _ _ _ _ _ _ _)
      | (with_reducible exact dev_Flush.mono _ _ _ _ _ _)
      | (with_reducible exact LeO.refl _)
      | (with_reducible exact LeO.none _)
      | (with_reducible refine LeO.ite ?_ ?_)
      | (with_reducible refine LeO.bind ?_ (fun _ => ?_))
      | exact ih0 _ _ _ _ _ _ _ _
      | exact cambiumlaw03_lives.mono _
      | exact cambiumref03_Same.mono _ _ _ _ _ _ _ _ _ _ _
      | exact dev_Crash.mono _ _ _ _ _ _ _
      | exact dev_Flush.mono _ _ _ _ _ _
      | exact LeO.none _
      | refine LeO.ite ?_ ?_
      | refine LeO.bind ?_ (fun _ => ?_)
set_option maxHeartbeats 64000000 in
set_option maxRecDepth 100000 in
theorem cambiumlaw03_DevKept.calls (k : Nat) (a0_0 : Int) (A0_1 : Option Addr) (c0_1 : Nat) (l0_1 : List (S39)) (A0_2 : Option Addr) (c0_2 : Nat) (l0_2 : List (S39)) (a0_3 : Bool) (a0_4 : Int) (r : Bool) (w : World) (hr0_1 : Kd.C k39 w A0_1 l0_1.length l0_1) (hc0_1 : l0_1.length ≤ c0_1) (hr0_2 : Kd.C k39 w A0_2 l0_2.length l0_2) (hc0_2 : l0_2.length ≤ c0_2) (h : cambiumlaw03_DevKept.f k a0_0 l0_1 l0_2 a0_3 a0_4 = some r) (hT_ : r = true := by rfl) :
    Calls Tryd.prog 8 #[.agg #[.int .u32 a0_0, .slice A0_1 l0_1.length c0_1, .slice A0_2 l0_2.length c0_2, .bool a0_3, .int .i64 a0_4]] w fun e w' => e = .returned (.bool r) ∧ Below w.heap.size w w' := by
  have HT_ := Aside0.mk hT_
  clear hT_
  have hu25 := Tryd.underlying25
  have HR0_1 := Aside0.mk hr0_1
  have HC0_1 := Aside0.mk hc0_1
  clear hr0_1 hc0_1
  have HR0_2 := Aside0.mk hr0_2
  have HC0_2 := Aside0.mk hc0_2
  clear hr0_2 hc0_2
  have HB := Aside0.mk (Below.refl w.heap.size w)
  have H : ((cambiumlaw03_lives.f k).bind fun t654 => (if t654 = true then (cambiumlaw03_DevKept.l0 k ([] : List Bool) (l0_2.length : Int) 0 a0_0 l0_1 l0_2 a0_3 a0_4) else (some false))) = some r := h
  clear h
  replace H := Option.bind_eq_some_iff.mp H
  obtain ⟨t654, A20, H⟩ := H
  replace H : (if t654 = true then (cambiumlaw03_DevKept.l0 k ([] : List Bool) (l0_2.length : Int) 0 a0_0 l0_1 l0_2 a0_3 a0_4) else (some false)) = some r := H
  have A2 := Aside0.mk A20
  clear A20
  by_cases c3 : t654 = true
  · subst c3
    have H1 : (cambiumlaw03_DevKept.l0 k ([] : List Bool) (l0_2.length : Int) 0 a0_0 l0_1 l0_2 a0_3 a0_4) = some r := by rw [if_pos rfl] at H; exact H
    clear H
    have H := H1
    clear H1
    have H' := Aside0.mk H
    clear H
    go_enter Tryd.func8, Tryd.ntmps8
    go_wp2_with (first | ((with_reducible refine gate_dst (N := 1) rfl ?_); refine bx_ (N := 1) (cs := #[.int .u32 a0_0, .slice A0_1 l0_1.length c0_1, .slice A0_2 l0_2.length c0_2, .bool a0_3, .int .i64 a0_4]) (t := 25) ?_; intro gb653 hg w4 hbox hb; have BK653 := Aside0.mk (hbox); have GW653 := ge_ hg; have GE653 := ge_ hg; replace HB := hb_ hb; clear hb hbox hg) | ((with_reducible refine gate_callee (f := 19) rfl ?_); refine gl_ (some 12) Tryd.func19 #[] ?_; (with_reducible refine (cambiumlaw03_lives.calls k  true _ A2.out).mono ?_); rintro e w5 ⟨rfl, hb⟩; refine ⟨_, rfl, ?_⟩; replace BK653 := kb_ BK653 hb; replace HB := hb_ hb; (try clear hb); (try clear hb2); (try clear hk); (try clear hi); obtain ⟨hcz6_0, hcz6_1, hcz6_2, hcz6_3, hcz6_4⟩ := cl5_ BK653; obtain ⟨hfz6_0, hfz6_1, hfz6_2, hfz6_3, hfz6_4⟩ := fz5_ BK653))
    go_loopg [3, 17] k (fun kq v3 v17 w' => ∃ (x3_1 : List Bool) (x17_1 : Int), v17 = .int .i64 x17_1 ∧ Aside0 (cambiumlaw03_DevKept.l0 kq x3_1 (l0_2.length : Int) x17_1 a0_0 l0_1 l0_2 a0_3 a0_4 = some r) ∧ Aside0 (kq ≤ k) ∧ Aside0 (Kd.R Kd.bool 4 w' w.heap.size (fun _ => True) v3 x3_1) ∧ Aside0 (w'.heap[gb653]? = some (.cells #[.int .u32 a0_0, (.slice A0_1 l0_1.length c0_1), (.slice A0_2 l0_2.length c0_2), .bool a0_3, .int .i64 a0_4] 25 (0, 0))) ∧ Aside0 (Below w.heap.size w w'))
    case atStart => exact ⟨(([] : List Bool)), (0), (by first | rfl | (simp; done) | (simp [*]; done)), H', ⟨Nat.le_refl _⟩, ⟨by first | exact Kd.R_nil _ _ _ _ _ | exact Kd.N_nil _ _ _ _ _ | exact Kd.V_nil _ _ _ _ _ | exact Kd.Q_nil _ _ _ _ _ | exact Kd.S_nil _ _ _ _ _⟩, ⟨bk_ BK653⟩, ⟨bel_⟩⟩
    case round =>
      clear H'
      try clear c1
      try clear p2
      try clear c3
      try clear hcz6_0
      try clear hcz6_1
      try clear hcz6_2
      try clear hcz6_3
      try clear hcz6_4
      try clear hfz6_0
      try clear hfz6_1
      try clear hfz6_2
      try clear hfz6_3
      try clear hfz6_4
      obtain ⟨x3_1, x17_1, rfl, HA, HK1, HO_3, BK653, HB⟩ := hrel
      cases gk with
      | zero => exact absurd HA.out (by simp [cambiumlaw03_DevKept.l0])
      | succ k1 =>
        have H := HA.out
        clear HA
        simp only [cambiumlaw03_DevKept.l0] at H
        by_cases c7 : x17_1 < (l0_2.length : Int)
        · rw [if_pos c7] at H
          have c7b0 : decide (x17_1 < (l0_2.length : Int)) = true := decide_eq_true c7
          clear c7
          by_cases c8 : x3_1.length < 140737488355328
          · rw [if_pos c8] at H
            have LMc8 := Aside0.mk c8
            clear c8
            obtain ⟨y655, hy655⟩ : ∃ y_ : List Bool, y_ = (x3_1 ++ [true]) := ⟨_, rfl⟩
            replace H : (cambiumlaw03_DevKept.l0 k1 y655 (l0_2.length : Int) (wrap64 (x17_1 + 1)) a0_0 l0_1 l0_2 a0_3 a0_4) = some r := by first | (rw [hy655]; with_reducible exact H) | (have H2_ := (Option.bind_some _ _).symm.trans H; rw [hy655]; with_reducible exact H2_) | (have H2_ := (Option.bind_some _ _).symm.trans H; with_reducible exact H2_) | with_reducible exact H | (rw [hy655]; exact H) | exact H
            have Ny655 := Aside0.mk hy655
            clear hy655
            have H' := Aside0.mk H
            clear H
            go_wp2_with (first | ((with_reducible refine gate_builtin (b := .append) (xs := #[.tmp 19, .tmp 20]) rfl ?_); at_builtin; refine Kd.R_append Kd.bool (w0 := w) w.heap.size rfl (.tmp 19) (.tmp 20) 37 4 (.bool false) 1 rfl Tryd.underlying37 info4 rfl (by decide) (by omega) u3 x3_1 true [.bool true] (fun _ => True) (fun _ => False) rfl rfl ?aP (fun _ hk => hk.elim) ?aF ?aO ?aB ?aS ?aL ?_; (case aP => exact rfl); (case aB => exact bel_); (case aF => exact (fun _ _ => trivial)); (case aO => exact (ra_ HO_3)); (case aS => exact (below_size bel_)); (case aL => have := LMc8.out; omega); intro v656 w9 ho hb hg hat; rw [← Ny655.out] at ho; have HO657 := Aside0.mk (ho); replace BK653 := Aside0.mk (blk_grown (bk_ BK653) hg (Kd.R_ne HO_3.out BK653.out (by decide))); replace HB := Aside0.mk (hb); clear HO_3; clear ho hb hg hat))
            go_roundg k1
            case measure => have := HK1.out; omega
            case rel => exact ⟨(y655), (wrap64 (x17_1 + 1)), (by first | rfl | (simp; done) | (simp [*]; done)), H', ⟨by have := HK1.out; omega⟩, ⟨ra_ HO657⟩, ⟨bk_ BK653⟩, ⟨bel_⟩⟩
          · rw [if_neg c8] at H
            exact absurd H (by simp)
        · rw [if_neg c7] at H
          have c7b0 : decide (x17_1 < (l0_2.length : Int)) = false := decide_eq_false c7
          clear c7
          replace H := Option.bind_eq_some_iff.mp H
          obtain ⟨⟨t658, t659, t662, t665, t666, t667⟩, A100, H⟩ := H
          replace H : (if t667 = 0 then ((dev_Crash.f k1 a0_0 l0_1 l0_2 a0_3 a0_4 ([] : List Bool)).bind fun bt669 => ((dev_Flush.f k1 a0_0 l0_1 l0_2 false (-1)).bind fun bt681 => (if bt669.2.2.2.2.2 = 0 then (if bt681.2.2.2.2.2 = 0 then ((cambiumref03_Same.f k1 t658 t659 t662 t665 t666 bt681.1 bt681.2.1 bt681.2.2.1 bt681.2.2.2.1 bt681.2.2.2.2.1).bind fun t693 => (if t693 = true then ((cambiumref03_Same.f k1 bt669.1 bt669.2.1 bt669.2.2.1 bt669.2.2.2.1 bt669.2.2.2.2.1 a0_0 l0_1 ([] : List (S39)) false (-1)).bind fun t694 => (some t694)) else (some false))) else (some false)) else (some false)))) else (some true)) = some r := H
          have A10 := Aside0.mk A100
          clear A100
          by_cases c11 : t667 = 0
          · rw [if_pos c11] at H
            have c11b0 : (t667 == 0) = true := beq_iff_eq.mpr c11
            have c11b1 : (t667 != 0) = false := bne_eq_false_iff_eq.mpr c11
            clear c11
            replace H := Option.bind_eq_some_iff.mp H
            obtain ⟨⟨t669, t670, t673, t676, t677, t678⟩, A120, H⟩ := H
            replace H : ((dev_Flush.f k1 a0_0 l0_1 l0_2 false (-1)).bind fun bt681 => (if t678 = 0 then (if bt681.2.2.2.2.2 = 0 then ((cambiumref03_Same.f k1 t658 t659 t662 t665 t666 bt681.1 bt681.2.1 bt681.2.2.1 bt681.2.2.2.1 bt681.2.2.2.2.1).bind fun t693 => (if t693 = true then ((cambiumref03_Same.f k1 t669 t670 t673 t676 t677 a0_0 l0_1 ([] : List (S39)) false (-1)).bind fun t694 => (some t694)) else (some false))) else (some false)) else (some false))) = some r := H
            have A12 := Aside0.mk A120
            clear A120
            replace H := Option.bind_eq_some_iff.mp H
            obtain ⟨⟨t681, t682, t685, t688, t689, t690⟩, A130, H⟩ := H
            replace H : (if t678 = 0 then (if t690 = 0 then ((cambiumref03_Same.f k1 t658 t659 t662 t665 t666 t681 t682 t685 t688 t689).bind fun t693 => (if t693 = true then ((cambiumref03_Same.f k1 t669 t670 t673 t676 t677 a0_0 l0_1 ([] : List (S39)) false (-1)).bind fun t694 => (some t694)) else (some false))) else (some false)) else (some false)) = some r := H
            have A13 := Aside0.mk A130
            clear A130
            by_cases c14 : t678 = 0
            · rw [if_pos c14] at H
              have c14b0 : (t678 == 0) = true := beq_iff_eq.mpr c14
              have c14b1 : (t678 != 0) = false := bne_eq_false_iff_eq.mpr c14
              clear c14
              by_cases c15 : t690 = 0
              · rw [if_pos c15] at H
                have c15b0 : (t690 == 0) = true := beq_iff_eq.mpr c15
                have c15b1 : (t690 != 0) = false := bne_eq_false_iff_eq.mpr c15
                clear c15
                replace H := Option.bind_eq_some_iff.mp H
                obtain ⟨t693, A160, H⟩ := H
                replace H : (if t693 = true then ((cambiumref03_Same.f k1 t669 t670 t673 t676 t677 a0_0 l0_1 ([] : List (S39)) false (-1)).bind fun t694 => (some t694)) else (some false)) = some r := H
                have A16 := Aside0.mk A160
                clear A160
                by_cases c17 : t693 = true
                · subst c17
                  have H1 : ((cambiumref03_Same.f k1 t669 t670 t673 t676 t677 a0_0 l0_1 ([] : List (S39)) false (-1)).bind fun t694 => (some t694)) = some r := by rw [if_pos rfl] at H; exact H
                  clear H
                  have H := H1
                  clear H1
                  replace H := Option.bind_eq_some_iff.mp H
                  obtain ⟨t694, A180, H⟩ := H
                  replace H : (some t694) = some r := H
                  have A18 := Aside0.mk A180
                  clear A180
                  obtain rfl := Option.some.inj H
                  obtain ⟨hcz19_0, hcz19_1, hcz19_2, hcz19_3, hcz19_4⟩ := cl5_ BK653
                  obtain ⟨hfz19_0, hfz19_1, hfz19_2, hfz19_3, hfz19_4⟩ := fz5_ BK653
                  obtain ⟨Ao20, co20, eo20⟩ := Kd.R_slice HO_3.out
                  subst eo20
                  go_upto_region 14 with (first | ((with_reducible refine gate_callee (f := 23) rfl ?_); refine gl_ (some 26) Tryd.func23 #[.agg #[.int .u32 a0_0, .slice A0_1 l0_1.length c0_1, .slice A0_2 l0_2.length c0_2, .bool a0_3, .int .i64 a0_4], .slice Ao20 x3_1.length co20] ?_; (with_reducible refine (dev_Crash.calls k1 a0_0 _ _ l0_1 _ _ l0_2 a0_3 a0_4 _ _ x3_1 t658 t659 t662 t665 t666 t667 _ ?side1 ?side2 ?side3 ?side4 ?side5 ?side6 A10.out).mono ?_); (case side1 => exact cb_ HR0_1); (case side2 => exact HC0_1.out); (case side3 => exact cb_ HR0_2); (case side4 => exact HC0_2.out); (case side5 => exact cr_ HO_3); (case side6 => exact (Kd.R_reads' HO_3.out).2.1); rintro e w21 ⟨v660, v663, rfl, ho0, ho1, hb⟩; refine ⟨_, rfl, ?_⟩; have HO661 := rl_ ho0; have HO664 := rl_ ho1; replace HO_3 := rb_ HO_3 hb; replace BK653 := kb_ BK653 hb; replace HB := hb_ hb; (try clear hb); (try clear hb2); (try clear hk); (try clear hi); (try clear ho0); (try clear ho1)) | ((with_reducible refine gate_dst (N := 4) rfl ?_); refine bx_ (N := 4) (cs := #[.int .u32 0, .slice none 0 0, .slice none 0 0, .bool false, .int .i64 0]) (t := 25) ?_; intro gb668 hg w22 hbox hb; have BK668 := Aside0.mk (hbox); have GW668 := ge_ hg; have GE668 := ge_ hg; have NB653_668 := nl_ BK653 hg; have NB668_653 := ng_ BK653 hg; replace HO_3 := rb_ HO_3 hb; replace HO661 := rb_ HO661 hb; replace HO664 := rb_ HO664 hb; replace BK653 := kb_ BK653 hb; replace HB := hb_ hb; clear hb hbox hg; have hnb23 := NB668_653.out; have hnc23 := NB653_668.out; obtain ⟨hcz24_0, hcz24_1, hcz24_2, hcz24_3, hcz24_4⟩ := cl5_ BK668; obtain ⟨hfz24_0, hfz24_1, hfz24_2, hfz24_3, hfz24_4⟩ := fz5_ BK668; obtain ⟨Ao25, co25, eo25⟩ := Kd.R_slice HO661.out; subst eo25; obtain ⟨Ao26, co26, eo26⟩ := Kd.R_slice HO664.out; subst eo26; obtain ⟨hcz27_0, hcz27_1, hcz27_2, hcz27_3, hcz27_4⟩ := cl5_ BK653; obtain ⟨hfz27_0, hfz27_1, hfz27_2, hfz27_3, hfz27_4⟩ := fz5_ BK653) | ((with_reducible refine gate_callee (f := 23) rfl ?_); refine gl_ (some 33) Tryd.func23 #[.agg #[.int .u32 a0_0, .slice A0_1 l0_1.length c0_1, .slice A0_2 l0_2.length c0_2, .bool a0_3, .int .i64 a0_4], .slice none 0 0] ?_; (refine (dev_Crash.calls k1 a0_0 _ _ l0_1 _ _ l0_2 a0_3 a0_4 _ _ ([] : List Bool) t669 t670 t673 t676 t677 t678 _ ?side1 ?side2 ?side3 ?side4 ?side5 ?side6 A12.out).mono ?_); (case side1 => exact Kd.C_below HR0_1.out bel_); (case side2 => exact HC0_1.out); (case side3 => exact Kd.C_below HR0_2.out bel_); (case side4 => exact HC0_2.out); (case side5 => exact Kd.C_nil _ _); (case side6 => exact Nat.le_refl _); rintro e w28 ⟨v671, v674, rfl, ho0, ho1, hb⟩; refine ⟨_, rfl, ?_⟩; have HO672 := Aside0.mk (Kd.R_lower (Kd.R_new' (Kd.R_new' ho0 (Kd.R_lt (rw_ HO661))) (Kd.R_lt (rw_ HO664))) (below_size bel_)); have HO675 := Aside0.mk (Kd.R_lower (Kd.R_new' (Kd.R_new' ho1 (Kd.R_lt (rw_ HO661))) (Kd.R_lt (rw_ HO664))) (below_size bel_)); replace HO_3 := Aside0.mk (Kd.R_below (rw_ HO_3) hb); replace HO661 := Aside0.mk (Kd.R_mono (Kd.R_told (Kd.R_told (Kd.R_old (rw_ HO661) hb) (Kd.R_base ho0)) (Kd.R_base ho1)) (fun _ h_ => h_.1)); replace HO664 := Aside0.mk (Kd.R_mono (Kd.R_told (Kd.R_told (Kd.R_old (rw_ HO664) hb) (Kd.R_base ho0)) (Kd.R_base ho1)) (fun _ h_ => h_.1)); replace BK653 := Aside0.mk (blk_below (g := gb653) (o := .cells #[.int .u32 a0_0, .slice A0_1 l0_1.length c0_1, .slice A0_2 l0_2.length c0_2, .bool a0_3, .int .i64 a0_4] 25 (0, 0)) (bs_) hb); replace HB := hb_ hb; replace BK668 := Aside0.mk (blk_below (g := gb668) (o := .cells #[.int .u32 t658, .slice Ao25 t659.length co25, .slice Ao26 t662.length co26, .bool t665, .int .i64 t666] 25 (0, 0)) (bs_) hb); (try clear hb); (try clear hb2); (try clear hk); (try clear hi); (try clear ho0); (try clear ho1)) | ((with_reducible refine gate_dst (N := 6) rfl ?_); refine bx_ (N := 6) (cs := #[.int .u32 0, .slice none 0 0, .slice none 0 0, .bool false, .int .i64 0]) (t := 25) ?_; intro gb679 hg w29 hbox hb; have BK679 := Aside0.mk (hbox); have GW679 := ge_ hg; have GE679 := ge_ hg; have NB653_679 := nl_ BK653 hg; have NB679_653 := ng_ BK653 hg; have NB668_679 := nl_ BK668 hg; have NB679_668 := ng_ BK668 hg; replace HO_3 := rb_ HO_3 hb; replace HO661 := rb_ HO661 hb; replace HO664 := rb_ HO664 hb; replace HO672 := rb_ HO672 hb; replace HO675 := rb_ HO675 hb; replace BK653 := kb_ BK653 hb; replace BK668 := kb_ BK668 hb; replace HB := hb_ hb; clear hb hbox hg; have hnb30 := NB679_653.out; have hnc30 := NB653_679.out; have hnb31 := NB679_668.out; have hnc31 := NB668_679.out; obtain ⟨hcz32_0, hcz32_1, hcz32_2, hcz32_3, hcz32_4⟩ := cl5_ BK679; obtain ⟨hfz32_0, hfz32_1, hfz32_2, hfz32_3, hfz32_4⟩ := fz5_ BK679; obtain ⟨Ao33, co33, eo33⟩ := Kd.R_slice HO672.out; subst eo33; obtain ⟨Ao34, co34, eo34⟩ := Kd.R_slice HO675.out; subst eo34; obtain ⟨hcz35_0, hcz35_1, hcz35_2, hcz35_3, hcz35_4⟩ := cl5_ BK653; obtain ⟨hfz35_0, hfz35_1, hfz35_2, hfz35_3, hfz35_4⟩ := fz5_ BK653) | ((with_reducible refine gate_dst (N := 8) rfl ?_); refine bx_ (N := 8) (cs := #[.int .u32 0, .slice none 0 0, .slice none 0 0, .bool false, .int .i64 0]) (t := 25) ?_; intro gb680 hg w36 hbox hb; have BK680 := Aside0.mk (hbox); have GW680 := ge_ hg; have GE680 := ge_ hg; have NB653_680 := Aside0.mk ((by rw [hg]; exact Nat.ne_of_lt (blk_lt (g := gb653) (o := .cells #[.int .u32 a0_0, .slice A0_1 l0_1.length c0_1, .slice A0_2 l0_2.length c0_2, .bool a0_3, .int .i64 a0_4] 25 (0, 0)) (bs_)) : gb653 ≠ gb680)); have NB680_653 := Aside0.mk ((by rw [hg]; exact Nat.ne_of_gt (blk_lt (g := gb653) (o := .cells #[.int .u32 a0_0, .slice A0_1 l0_1.length c0_1, .slice A0_2 l0_2.length c0_2, .bool a0_3, .int .i64 a0_4] 25 (0, 0)) (bs_)) : gb680 ≠ gb653)); have NB668_680 := Aside0.mk ((by rw [hg]; exact Nat.ne_of_lt (blk_lt (g := gb668) (o := .cells #[.int .u32 t658, .slice Ao25 t659.length co25, .slice Ao26 t662.length co26, .bool t665, .int .i64 t666] 25 (0, 0)) (bs_)) : gb668 ≠ gb680)); have NB680_668 := Aside0.mk ((by rw [hg]; exact Nat.ne_of_gt (blk_lt (g := gb668) (o := .cells #[.int .u32 t658, .slice Ao25 t659.length co25, .slice Ao26 t662.length co26, .bool t665, .int .i64 t666] 25 (0, 0)) (bs_)) : gb680 ≠ gb668)); have NB679_680 := Aside0.mk ((by rw [hg]; exact Nat.ne_of_lt (blk_lt (g := gb679) (o := .cells #[.int .u32 t669, .slice Ao33 t670.length co33, .slice Ao34 t673.length co34, .bool t676, .int .i64 t677] 25 (0, 0)) (bs_)) : gb679 ≠ gb680)); have NB680_679 := Aside0.mk ((by rw [hg]; exact Nat.ne_of_gt (blk_lt (g := gb679) (o := .cells #[.int .u32 t669, .slice Ao33 t670.length co33, .slice Ao34 t673.length co34, .bool t676, .int .i64 t677] 25 (0, 0)) (bs_)) : gb680 ≠ gb679)); replace HO_3 := Aside0.mk (Kd.R_below (rw_ HO_3) hb); replace HO661 := Aside0.mk (Kd.R_below (rw_ HO661) hb); replace HO664 := Aside0.mk (Kd.R_below (rw_ HO664) hb); replace HO672 := Aside0.mk (Kd.R_below (rw_ HO672) hb); replace HO675 := Aside0.mk (Kd.R_below (rw_ HO675) hb); replace BK653 := Aside0.mk (blk_below (g := gb653) (o := .cells #[.int .u32 a0_0, .slice A0_1 l0_1.length c0_1, .slice A0_2 l0_2.length c0_2, .bool a0_3, .int .i64 a0_4] 25 (0, 0)) (bs_) hb); replace BK668 := Aside0.mk (blk_below (g := gb668) (o := .cells #[.int .u32 t658, .slice Ao25 t659.length co25, .slice Ao26 t662.length co26, .bool t665, .int .i64 t666] 25 (0, 0)) (bs_) hb); replace HB := hb_ hb; replace BK679 := Aside0.mk (blk_below (g := gb679) (o := .cells #[.int .u32 t669, .slice Ao33 t670.length co33, .slice Ao34 t673.length co34, .bool t676, .int .i64 t677] 25 (0, 0)) (bs_) hb); clear hb hbox hg; have hnb37 := NB680_653.out; have hnc37 := NB653_680.out; have hnb38 := NB680_668.out; have hnc38 := NB668_680.out; have hnb39 := NB680_679.out; have hnc39 := NB679_680.out; obtain ⟨hcz40_0, hcz40_1, hcz40_2, hcz40_3, hcz40_4⟩ := cl5_ BK680; obtain ⟨hfz40_0, hfz40_1, hfz40_2, hfz40_3, hfz40_4⟩ := fz5_ BK680))
                  have m_gb653 : Aside0 ((((((((w36.setCell ⟨gb680, 0, none⟩ (.int .u32 a0_0)).setCell ⟨gb680, 1, none⟩ (.slice A0_1 l0_1.length c0_1)).setCell ⟨gb680, 2, none⟩ (.slice A0_2 l0_2.length c0_2)).setCell ⟨gb680, 3, none⟩ (.bool a0_3)).setCell ⟨gb680, 4, none⟩ (.int .i64 a0_4)).setCell ⟨gb680, 3, none⟩ (.bool false)).setCell ⟨gb680, 4, none⟩ (.int .i64 (-1))).heap[gb653]? = some (.cells #[.int .u32 a0_0, .slice A0_1 l0_1.length c0_1, .slice A0_2 l0_2.length c0_2, .bool a0_3, .int .i64 a0_4] 25 (0, 0))) := ⟨bs_⟩
                  have m_gb668 : Aside0 ((((((((w36.setCell ⟨gb680, 0, none⟩ (.int .u32 a0_0)).setCell ⟨gb680, 1, none⟩ (.slice A0_1 l0_1.length c0_1)).setCell ⟨gb680, 2, none⟩ (.slice A0_2 l0_2.length c0_2)).setCell ⟨gb680, 3, none⟩ (.bool a0_3)).setCell ⟨gb680, 4, none⟩ (.int .i64 a0_4)).setCell ⟨gb680, 3, none⟩ (.bool false)).setCell ⟨gb680, 4, none⟩ (.int .i64 (-1))).heap[gb668]? = some (.cells #[.int .u32 t658, .slice Ao25 t659.length co25, .slice Ao26 t662.length co26, .bool t665, .int .i64 t666] 25 (0, 0))) := ⟨bs_⟩
                  have m_gb679 : Aside0 ((((((((w36.setCell ⟨gb680, 0, none⟩ (.int .u32 a0_0)).setCell ⟨gb680, 1, none⟩ (.slice A0_1 l0_1.length c0_1)).setCell ⟨gb680, 2, none⟩ (.slice A0_2 l0_2.length c0_2)).setCell ⟨gb680, 3, none⟩ (.bool a0_3)).setCell ⟨gb680, 4, none⟩ (.int .i64 a0_4)).setCell ⟨gb680, 3, none⟩ (.bool false)).setCell ⟨gb680, 4, none⟩ (.int .i64 (-1))).heap[gb679]? = some (.cells #[.int .u32 t669, .slice Ao33 t670.length co33, .slice Ao34 t673.length co34, .bool t676, .int .i64 t677] 25 (0, 0))) := ⟨bs_⟩
                  have m_gb680 : Aside0 ((((((((w36.setCell ⟨gb680, 0, none⟩ (.int .u32 a0_0)).setCell ⟨gb680, 1, none⟩ (.slice A0_1 l0_1.length c0_1)).setCell ⟨gb680, 2, none⟩ (.slice A0_2 l0_2.length c0_2)).setCell ⟨gb680, 3, none⟩ (.bool a0_3)).setCell ⟨gb680, 4, none⟩ (.int .i64 a0_4)).setCell ⟨gb680, 3, none⟩ (.bool false)).setCell ⟨gb680, 4, none⟩ (.int .i64 (-1))).heap[gb680]? = some (.cells #[.int .u32 a0_0, .slice A0_1 l0_1.length c0_1, .slice A0_2 l0_2.length c0_2, .bool false, .int .i64 (-1)] 25 (0, 0))) := ⟨bs_⟩
                  have m_HO661 := Aside0.mk (rw_ (W := (((((((w36.setCell ⟨gb680, 0, none⟩ (.int .u32 a0_0)).setCell ⟨gb680, 1, none⟩ (.slice A0_1 l0_1.length c0_1)).setCell ⟨gb680, 2, none⟩ (.slice A0_2 l0_2.length c0_2)).setCell ⟨gb680, 3, none⟩ (.bool a0_3)).setCell ⟨gb680, 4, none⟩ (.int .i64 a0_4)).setCell ⟨gb680, 3, none⟩ (.bool false)).setCell ⟨gb680, 4, none⟩ (.int .i64 (-1)))) HO661)
                  have m_HO664 := Aside0.mk (rw_ (W := (((((((w36.setCell ⟨gb680, 0, none⟩ (.int .u32 a0_0)).setCell ⟨gb680, 1, none⟩ (.slice A0_1 l0_1.length c0_1)).setCell ⟨gb680, 2, none⟩ (.slice A0_2 l0_2.length c0_2)).setCell ⟨gb680, 3, none⟩ (.bool a0_3)).setCell ⟨gb680, 4, none⟩ (.int .i64 a0_4)).setCell ⟨gb680, 3, none⟩ (.bool false)).setCell ⟨gb680, 4, none⟩ (.int .i64 (-1)))) HO664)
                  have m_HO672 := Aside0.mk (rw_ (W := (((((((w36.setCell ⟨gb680, 0, none⟩ (.int .u32 a0_0)).setCell ⟨gb680, 1, none⟩ (.slice A0_1 l0_1.length c0_1)).setCell ⟨gb680, 2, none⟩ (.slice A0_2 l0_2.length c0_2)).setCell ⟨gb680, 3, none⟩ (.bool a0_3)).setCell ⟨gb680, 4, none⟩ (.int .i64 a0_4)).setCell ⟨gb680, 3, none⟩ (.bool false)).setCell ⟨gb680, 4, none⟩ (.int .i64 (-1)))) HO672)
                  have m_HO675 := Aside0.mk (rw_ (W := (((((((w36.setCell ⟨gb680, 0, none⟩ (.int .u32 a0_0)).setCell ⟨gb680, 1, none⟩ (.slice A0_1 l0_1.length c0_1)).setCell ⟨gb680, 2, none⟩ (.slice A0_2 l0_2.length c0_2)).setCell ⟨gb680, 3, none⟩ (.bool a0_3)).setCell ⟨gb680, 4, none⟩ (.int .i64 a0_4)).setCell ⟨gb680, 3, none⟩ (.bool false)).setCell ⟨gb680, 4, none⟩ (.int .i64 (-1)))) HO675)
                  have m_HO_3 := Aside0.mk (rw_ (W := (((((((w36.setCell ⟨gb680, 0, none⟩ (.int .u32 a0_0)).setCell ⟨gb680, 1, none⟩ (.slice A0_1 l0_1.length c0_1)).setCell ⟨gb680, 2, none⟩ (.slice A0_2 l0_2.length c0_2)).setCell ⟨gb680, 3, none⟩ (.bool a0_3)).setCell ⟨gb680, 4, none⟩ (.int .i64 a0_4)).setCell ⟨gb680, 3, none⟩ (.bool false)).setCell ⟨gb680, 4, none⟩ (.int .i64 (-1)))) HO_3)
                  have m_HB : Aside0 (Below w.heap.size w (((((((w36.setCell ⟨gb680, 0, none⟩ (.int .u32 a0_0)).setCell ⟨gb680, 1, none⟩ (.slice A0_1 l0_1.length c0_1)).setCell ⟨gb680, 2, none⟩ (.slice A0_2 l0_2.length c0_2)).setCell ⟨gb680, 3, none⟩ (.bool a0_3)).setCell ⟨gb680, 4, none⟩ (.int .i64 a0_4)).setCell ⟨gb680, 3, none⟩ (.bool false)).setCell ⟨gb680, 4, none⟩ (.int .i64 (-1)))) := ⟨bel_⟩
                  clear HO661 HO664 HO672 HO675 HO_3 BK653 BK668 BK679 BK680 HB
                  generalize (((((((w36.setCell ⟨gb680, 0, none⟩ (.int .u32 a0_0)).setCell ⟨gb680, 1, none⟩ (.slice A0_1 l0_1.length c0_1)).setCell ⟨gb680, 2, none⟩ (.slice A0_2 l0_2.length c0_2)).setCell ⟨gb680, 3, none⟩ (.bool a0_3)).setCell ⟨gb680, 4, none⟩ (.int .i64 a0_4)).setCell ⟨gb680, 3, none⟩ (.bool false)).setCell ⟨gb680, 4, none⟩ (.int .i64 (-1))) = wX1 at m_gb653 m_gb668 m_gb679 m_gb680 m_HO661 m_HO664 m_HO672 m_HO675 m_HO_3 m_HB ⊢
                  have BK653 := m_gb653
                  have BK668 := m_gb668
                  have BK679 := m_gb679
                  have BK680 := m_gb680
                  have HO661 := m_HO661
                  have HO664 := m_HO664
                  have HO672 := m_HO672
                  have HO675 := m_HO675
                  have HO_3 := m_HO_3
                  have HB := m_HB
                  clear m_gb653 m_gb668 m_gb679 m_gb680 m_HO661 m_HO664 m_HO672 m_HO675 m_HO_3 m_HB
                  obtain ⟨hcp653_0, hcp653_1, hcp653_2, hcp653_3, hcp653_4⟩ := cl5_ BK653
                  obtain ⟨hfp653_0, hfp653_1, hfp653_2, hfp653_3, hfp653_4⟩ := fz5_ BK653
                  obtain ⟨hcp668_0, hcp668_1, hcp668_2, hcp668_3, hcp668_4⟩ := cl5_ BK668
                  obtain ⟨hfp668_0, hfp668_1, hfp668_2, hfp668_3, hfp668_4⟩ := fz5_ BK668
                  obtain ⟨hcp679_0, hcp679_1, hcp679_2, hcp679_3, hcp679_4⟩ := cl5_ BK679
                  obtain ⟨hfp679_0, hfp679_1, hfp679_2, hfp679_3, hfp679_4⟩ := fz5_ BK679
                  obtain ⟨hcp680_0, hcp680_1, hcp680_2, hcp680_3, hcp680_4⟩ := cl5_ BK680
                  obtain ⟨hfp680_0, hfp680_1, hfp680_2, hfp680_3, hfp680_4⟩ := fz5_ BK680
                  go_upto_region 17 with (first | ((with_reducible refine gate_callee (f := 15) rfl ?_); refine gl_ (some 41) Tryd.func15 #[.agg #[.int .u32 a0_0, .slice A0_1 l0_1.length c0_1, .slice A0_2 l0_2.length c0_2, .bool false, .int .i64 (-1)]] ?_; (with_reducible refine (dev_Flush.calls k1 a0_0 _ _ l0_1 _ _ l0_2 false (-1) t681 t682 t685 t688 t689 t690 _ ?side1 ?side2 ?side3 ?side4 A13.out).mono ?_); (case side1 => exact Kd.C_below HR0_1.out bel_); (case side2 => exact HC0_1.out); (case side3 => exact Kd.C_below HR0_2.out bel_); (case side4 => exact HC0_2.out); rintro e w41 ⟨v683, v686, rfl, ho0, ho1, hb⟩; refine ⟨_, rfl, ?_⟩; have HO684 := Aside0.mk (Kd.R_lower (Kd.R_new' (Kd.R_new' (Kd.R_new' (Kd.R_new' ho0 (Kd.R_lt (rw_ HO661))) (Kd.R_lt (rw_ HO664))) (Kd.R_lt (rw_ HO672))) (Kd.R_lt (rw_ HO675))) (below_size bel_)); have HO687 := Aside0.mk (Kd.R_lower (Kd.R_new' (Kd.R_new' (Kd.R_new' (Kd.R_new' ho1 (Kd.R_lt (rw_ HO661))) (Kd.R_lt (rw_ HO664))) (Kd.R_lt (rw_ HO672))) (Kd.R_lt (rw_ HO675))) (below_size bel_)); replace HO_3 := Aside0.mk (Kd.R_below (rw_ HO_3) hb); replace HO661 := Aside0.mk (Kd.R_mono (Kd.R_told (Kd.R_told (Kd.R_old (rw_ HO661) hb) (Kd.R_base ho0)) (Kd.R_base ho1)) (fun _ h_ => h_.1)); replace HO664 := Aside0.mk (Kd.R_mono (Kd.R_told (Kd.R_told (Kd.R_old (rw_ HO664) hb) (Kd.R_base ho0)) (Kd.R_base ho1)) (fun _ h_ => h_.1)); replace HO672 := Aside0.mk (Kd.R_mono (Kd.R_told (Kd.R_told (Kd.R_old (rw_ HO672) hb) (Kd.R_base ho0)) (Kd.R_base ho1)) (fun _ h_ => h_.1)); replace HO675 := Aside0.mk (Kd.R_mono (Kd.R_told (Kd.R_told (Kd.R_old (rw_ HO675) hb) (Kd.R_base ho0)) (Kd.R_base ho1)) (fun _ h_ => h_.1)); replace BK653 := Aside0.mk (blk_below (g := gb653) (o := .cells #[.int .u32 a0_0, .slice A0_1 l0_1.length c0_1, .slice A0_2 l0_2.length c0_2, .bool a0_3, .int .i64 a0_4] 25 (0, 0)) (bs_) hb); replace BK668 := Aside0.mk (blk_below (g := gb668) (o := .cells #[.int .u32 t658, .slice Ao25 t659.length co25, .slice Ao26 t662.length co26, .bool t665, .int .i64 t666] 25 (0, 0)) (bs_) hb); replace BK679 := Aside0.mk (blk_below (g := gb679) (o := .cells #[.int .u32 t669, .slice Ao33 t670.length co33, .slice Ao34 t673.length co34, .bool t676, .int .i64 t677] 25 (0, 0)) (bs_) hb); replace HB := hb_ hb; replace BK680 := Aside0.mk (blk_below (g := gb680) (o := .cells #[.int .u32 a0_0, .slice A0_1 l0_1.length c0_1, .slice A0_2 l0_2.length c0_2, .bool false, .int .i64 (-1)] 25 (0, 0)) (bs_) hb); (try clear hb); (try clear hb2); (try clear hk); (try clear hi); (try clear ho0); (try clear ho1)) | ((with_reducible refine gate_dst (N := 9) rfl ?_); refine bx_ (N := 9) (cs := #[.int .u32 0, .slice none 0 0, .slice none 0 0, .bool false, .int .i64 0]) (t := 25) ?_; intro gb691 hg w42 hbox hb; have BK691 := Aside0.mk (hbox); have GW691 := ge_ hg; have GE691 := ge_ hg; have NB653_691 := nl_ BK653 hg; have NB691_653 := ng_ BK653 hg; have NB668_691 := nl_ BK668 hg; have NB691_668 := ng_ BK668 hg; have NB679_691 := nl_ BK679 hg; have NB691_679 := ng_ BK679 hg; have NB680_691 := nl_ BK680 hg; have NB691_680 := ng_ BK680 hg; replace HO_3 := rb_ HO_3 hb; replace HO661 := rb_ HO661 hb; replace HO664 := rb_ HO664 hb; replace HO672 := rb_ HO672 hb; replace HO675 := rb_ HO675 hb; replace HO684 := rb_ HO684 hb; replace HO687 := rb_ HO687 hb; replace BK653 := kb_ BK653 hb; replace BK668 := kb_ BK668 hb; replace BK679 := kb_ BK679 hb; replace BK680 := kb_ BK680 hb; replace HB := hb_ hb; clear hb hbox hg; have hnb43 := NB691_653.out; have hnc43 := NB653_691.out; have hnb44 := NB691_668.out; have hnc44 := NB668_691.out; have hnb45 := NB691_679.out; have hnc45 := NB679_691.out; have hnb46 := NB691_680.out; have hnc46 := NB680_691.out; obtain ⟨hcz47_0, hcz47_1, hcz47_2, hcz47_3, hcz47_4⟩ := cl5_ BK691; obtain ⟨hfz47_0, hfz47_1, hfz47_2, hfz47_3, hfz47_4⟩ := fz5_ BK691; obtain ⟨Ao48, co48, eo48⟩ := Kd.R_slice HO684.out; subst eo48; obtain ⟨Ao49, co49, eo49⟩ := Kd.R_slice HO687.out; subst eo49; obtain ⟨hcz50_0, hcz50_1, hcz50_2, hcz50_3, hcz50_4⟩ := cl5_ BK680; obtain ⟨hfz50_0, hfz50_1, hfz50_2, hfz50_3, hfz50_4⟩ := fz5_ BK680) | ((with_reducible refine gate_dst (N := 11) rfl ?_); refine bx_ (N := 11) (cs := #[.int .u32 0, .slice none 0 0, .slice none 0 0, .bool false, .int .i64 0]) (t := 25) ?_; intro gb692 hg w51 hbox hb; have BK692 := Aside0.mk (hbox); have GW692 := ge_ hg; have GE692 := ge_ hg; have NB653_692 := Aside0.mk ((by rw [hg]; exact Nat.ne_of_lt (blk_lt (g := gb653) (o := .cells #[.int .u32 a0_0, .slice A0_1 l0_1.length c0_1, .slice A0_2 l0_2.length c0_2, .bool a0_3, .int .i64 a0_4] 25 (0, 0)) (bs_)) : gb653 ≠ gb692)); have NB692_653 := Aside0.mk ((by rw [hg]; exact Nat.ne_of_gt (blk_lt (g := gb653) (o := .cells #[.int .u32 a0_0, .slice A0_1 l0_1.length c0_1, .slice A0_2 l0_2.length c0_2, .bool a0_3, .int .i64 a0_4] 25 (0, 0)) (bs_)) : gb692 ≠ gb653)); have NB668_692 := Aside0.mk ((by rw [hg]; exact Nat.ne_of_lt (blk_lt (g := gb668) (o := .cells #[.int .u32 t658, .slice Ao25 t659.length co25, .slice Ao26 t662.length co26, .bool t665, .int .i64 t666] 25 (0, 0)) (bs_)) : gb668 ≠ gb692)); have NB692_668 := Aside0.mk ((by rw [hg]; exact Nat.ne_of_gt (blk_lt (g := gb668) (o := .cells #[.int .u32 t658, .slice Ao25 t659.length co25, .slice Ao26 t662.length co26, .bool t665, .int .i64 t666] 25 (0, 0)) (bs_)) : gb692 ≠ gb668)); have NB679_692 := Aside0.mk ((by rw [hg]; exact Nat.ne_of_lt (blk_lt (g := gb679) (o := .cells #[.int .u32 t669, .slice Ao33 t670.length co33, .slice Ao34 t673.length co34, .bool t676, .int .i64 t677] 25 (0, 0)) (bs_)) : gb679 ≠ gb692)); have NB692_679 := Aside0.mk ((by rw [hg]; exact Nat.ne_of_gt (blk_lt (g := gb679) (o := .cells #[.int .u32 t669, .slice Ao33 t670.length co33, .slice Ao34 t673.length co34, .bool t676, .int .i64 t677] 25 (0, 0)) (bs_)) : gb692 ≠ gb679)); have NB680_692 := Aside0.mk ((by rw [hg]; exact Nat.ne_of_lt (blk_lt (g := gb680) (o := .cells #[.int .u32 a0_0, .slice A0_1 l0_1.length c0_1, .slice A0_2 l0_2.length c0_2, .bool false, .int .i64 (-1)] 25 (0, 0)) (bs_)) : gb680 ≠ gb692)); have NB692_680 := Aside0.mk ((by rw [hg]; exact Nat.ne_of_gt (blk_lt (g := gb680) (o := .cells #[.int .u32 a0_0, .slice A0_1 l0_1.length c0_1, .slice A0_2 l0_2.length c0_2, .bool false, .int .i64 (-1)] 25 (0, 0)) (bs_)) : gb692 ≠ gb680)); have NB691_692 := Aside0.mk ((by rw [hg]; exact Nat.ne_of_lt (blk_lt (g := gb691) (o := .cells #[.int .u32 t681, .slice Ao48 t682.length co48, .slice Ao49 t685.length co49, .bool t688, .int .i64 t689] 25 (0, 0)) (bs_)) : gb691 ≠ gb692)); have NB692_691 := Aside0.mk ((by rw [hg]; exact Nat.ne_of_gt (blk_lt (g := gb691) (o := .cells #[.int .u32 t681, .slice Ao48 t682.length co48, .slice Ao49 t685.length co49, .bool t688, .int .i64 t689] 25 (0, 0)) (bs_)) : gb692 ≠ gb691)); replace HO_3 := Aside0.mk (Kd.R_below (rw_ HO_3) hb); replace HO661 := Aside0.mk (Kd.R_below (rw_ HO661) hb); replace HO664 := Aside0.mk (Kd.R_below (rw_ HO664) hb); replace HO672 := Aside0.mk (Kd.R_below (rw_ HO672) hb); replace HO675 := Aside0.mk (Kd.R_below (rw_ HO675) hb); replace HO684 := Aside0.mk (Kd.R_below (rw_ HO684) hb); replace HO687 := Aside0.mk (Kd.R_below (rw_ HO687) hb); replace BK653 := Aside0.mk (blk_below (g := gb653) (o := .cells #[.int .u32 a0_0, .slice A0_1 l0_1.length c0_1, .slice A0_2 l0_2.length c0_2, .bool a0_3, .int .i64 a0_4] 25 (0, 0)) (bs_) hb); replace BK668 := Aside0.mk (blk_below (g := gb668) (o := .cells #[.int .u32 t658, .slice Ao25 t659.length co25, .slice Ao26 t662.length co26, .bool t665, .int .i64 t666] 25 (0, 0)) (bs_) hb); replace BK679 := Aside0.mk (blk_below (g := gb679) (o := .cells #[.int .u32 t669, .slice Ao33 t670.length co33, .slice Ao34 t673.length co34, .bool t676, .int .i64 t677] 25 (0, 0)) (bs_) hb); replace BK680 := Aside0.mk (blk_below (g := gb680) (o := .cells #[.int .u32 a0_0, .slice A0_1 l0_1.length c0_1, .slice A0_2 l0_2.length c0_2, .bool false, .int .i64 (-1)] 25 (0, 0)) (bs_) hb); replace HB := hb_ hb; replace BK691 := Aside0.mk (blk_below (g := gb691) (o := .cells #[.int .u32 t681, .slice Ao48 t682.length co48, .slice Ao49 t685.length co49, .bool t688, .int .i64 t689] 25 (0, 0)) (bs_) hb); clear hb hbox hg; have hnb52 := NB692_653.out; have hnc52 := NB653_692.out; have hnb53 := NB692_668.out; have hnc53 := NB668_692.out; have hnb54 := NB692_679.out; have hnc54 := NB679_692.out; have hnb55 := NB692_680.out; have hnc55 := NB680_692.out; have hnb56 := NB692_691.out; have hnc56 := NB691_692.out; obtain ⟨hcz57_0, hcz57_1, hcz57_2, hcz57_3, hcz57_4⟩ := cl5_ BK692; obtain ⟨hfz57_0, hfz57_1, hfz57_2, hfz57_3, hfz57_4⟩ := fz5_ BK692; obtain ⟨hcz58_0, hcz58_1, hcz58_2, hcz58_3, hcz58_4⟩ := cl5_ BK668; obtain ⟨hfz58_0, hfz58_1, hfz58_2, hfz58_3, hfz58_4⟩ := fz5_ BK668; obtain ⟨hcz59_0, hcz59_1, hcz59_2, hcz59_3, hcz59_4⟩ := cl5_ BK691; obtain ⟨hfz59_0, hfz59_1, hfz59_2, hfz59_3, hfz59_4⟩ := fz5_ BK691))
                  have m_gb653 : Aside0 (((((((w51.setCell ⟨gb692, 0, none⟩ (.int .u32 a0_0)).setCell ⟨gb692, 1, none⟩ (.slice A0_1 l0_1.length c0_1)).setCell ⟨gb692, 2, none⟩ (.slice A0_2 l0_2.length c0_2)).setCell ⟨gb692, 3, none⟩ (.bool false)).setCell ⟨gb692, 4, none⟩ (.int .i64 (-1))).setCell ⟨gb692, 2, none⟩ (.slice none 0 0)).heap[gb653]? = some (.cells #[.int .u32 a0_0, .slice A0_1 l0_1.length c0_1, .slice A0_2 l0_2.length c0_2, .bool a0_3, .int .i64 a0_4] 25 (0, 0))) := ⟨bs_⟩
                  have m_gb668 : Aside0 (((((((w51.setCell ⟨gb692, 0, none⟩ (.int .u32 a0_0)).setCell ⟨gb692, 1, none⟩ (.slice A0_1 l0_1.length c0_1)).setCell ⟨gb692, 2, none⟩ (.slice A0_2 l0_2.length c0_2)).setCell ⟨gb692, 3, none⟩ (.bool false)).setCell ⟨gb692, 4, none⟩ (.int .i64 (-1))).setCell ⟨gb692, 2, none⟩ (.slice none 0 0)).heap[gb668]? = some (.cells #[.int .u32 t658, .slice Ao25 t659.length co25, .slice Ao26 t662.length co26, .bool t665, .int .i64 t666] 25 (0, 0))) := ⟨bs_⟩
                  have m_gb679 : Aside0 (((((((w51.setCell ⟨gb692, 0, none⟩ (.int .u32 a0_0)).setCell ⟨gb692, 1, none⟩ (.slice A0_1 l0_1.length c0_1)).setCell ⟨gb692, 2, none⟩ (.slice A0_2 l0_2.length c0_2)).setCell ⟨gb692, 3, none⟩ (.bool false)).setCell ⟨gb692, 4, none⟩ (.int .i64 (-1))).setCell ⟨gb692, 2, none⟩ (.slice none 0 0)).heap[gb679]? = some (.cells #[.int .u32 t669, .slice Ao33 t670.length co33, .slice Ao34 t673.length co34, .bool t676, .int .i64 t677] 25 (0, 0))) := ⟨bs_⟩
                  have m_gb680 : Aside0 (((((((w51.setCell ⟨gb692, 0, none⟩ (.int .u32 a0_0)).setCell ⟨gb692, 1, none⟩ (.slice A0_1 l0_1.length c0_1)).setCell ⟨gb692, 2, none⟩ (.slice A0_2 l0_2.length c0_2)).setCell ⟨gb692, 3, none⟩ (.bool false)).setCell ⟨gb692, 4, none⟩ (.int .i64 (-1))).setCell ⟨gb692, 2, none⟩ (.slice none 0 0)).heap[gb680]? = some (.cells #[.int .u32 a0_0, .slice A0_1 l0_1.length c0_1, .slice A0_2 l0_2.length c0_2, .bool false, .int .i64 (-1)] 25 (0, 0))) := ⟨bs_⟩
                  have m_gb691 : Aside0 (((((((w51.setCell ⟨gb692, 0, none⟩ (.int .u32 a0_0)).setCell ⟨gb692, 1, none⟩ (.slice A0_1 l0_1.length c0_1)).setCell ⟨gb692, 2, none⟩ (.slice A0_2 l0_2.length c0_2)).setCell ⟨gb692, 3, none⟩ (.bool false)).setCell ⟨gb692, 4, none⟩ (.int .i64 (-1))).setCell ⟨gb692, 2, none⟩ (.slice none 0 0)).heap[gb691]? = some (.cells #[.int .u32 t681, .slice Ao48 t682.length co48, .slice Ao49 t685.length co49, .bool t688, .int .i64 t689] 25 (0, 0))) := ⟨bs_⟩
                  have m_gb692 : Aside0 (((((((w51.setCell ⟨gb692, 0, none⟩ (.int .u32 a0_0)).setCell ⟨gb692, 1, none⟩ (.slice A0_1 l0_1.length c0_1)).setCell ⟨gb692, 2, none⟩ (.slice A0_2 l0_2.length c0_2)).setCell ⟨gb692, 3, none⟩ (.bool false)).setCell ⟨gb692, 4, none⟩ (.int .i64 (-1))).setCell ⟨gb692, 2, none⟩ (.slice none 0 0)).heap[gb692]? = some (.cells #[.int .u32 a0_0, .slice A0_1 l0_1.length c0_1, .slice none 0 0, .bool false, .int .i64 (-1)] 25 (0, 0))) := ⟨bs_⟩
                  have m_HO661 := Aside0.mk (rw_ (W := ((((((w51.setCell ⟨gb692, 0, none⟩ (.int .u32 a0_0)).setCell ⟨gb692, 1, none⟩ (.slice A0_1 l0_1.length c0_1)).setCell ⟨gb692, 2, none⟩ (.slice A0_2 l0_2.length c0_2)).setCell ⟨gb692, 3, none⟩ (.bool false)).setCell ⟨gb692, 4, none⟩ (.int .i64 (-1))).setCell ⟨gb692, 2, none⟩ (.slice none 0 0))) HO661)
                  have m_HO664 := Aside0.mk (rw_ (W := ((((((w51.setCell ⟨gb692, 0, none⟩ (.int .u32 a0_0)).setCell ⟨gb692, 1, none⟩ (.slice A0_1 l0_1.length c0_1)).setCell ⟨gb692, 2, none⟩ (.slice A0_2 l0_2.length c0_2)).setCell ⟨gb692, 3, none⟩ (.bool false)).setCell ⟨gb692, 4, none⟩ (.int .i64 (-1))).setCell ⟨gb692, 2, none⟩ (.slice none 0 0))) HO664)
                  have m_HO672 := Aside0.mk (rw_ (W := ((((((w51.setCell ⟨gb692, 0, none⟩ (.int .u32 a0_0)).setCell ⟨gb692, 1, none⟩ (.slice A0_1 l0_1.length c0_1)).setCell ⟨gb692, 2, none⟩ (.slice A0_2 l0_2.length c0_2)).setCell ⟨gb692, 3, none⟩ (.bool false)).setCell ⟨gb692, 4, none⟩ (.int .i64 (-1))).setCell ⟨gb692, 2, none⟩ (.slice none 0 0))) HO672)
                  have m_HO675 := Aside0.mk (rw_ (W := ((((((w51.setCell ⟨gb692, 0, none⟩ (.int .u32 a0_0)).setCell ⟨gb692, 1, none⟩ (.slice A0_1 l0_1.length c0_1)).setCell ⟨gb692, 2, none⟩ (.slice A0_2 l0_2.length c0_2)).setCell ⟨gb692, 3, none⟩ (.bool false)).setCell ⟨gb692, 4, none⟩ (.int .i64 (-1))).setCell ⟨gb692, 2, none⟩ (.slice none 0 0))) HO675)
                  have m_HO684 := Aside0.mk (rw_ (W := ((((((w51.setCell ⟨gb692, 0, none⟩ (.int .u32 a0_0)).setCell ⟨gb692, 1, none⟩ (.slice A0_1 l0_1.length c0_1)).setCell ⟨gb692, 2, none⟩ (.slice A0_2 l0_2.length c0_2)).setCell ⟨gb692, 3, none⟩ (.bool false)).setCell ⟨gb692, 4, none⟩ (.int .i64 (-1))).setCell ⟨gb692, 2, none⟩ (.slice none 0 0))) HO684)
                  have m_HO687 := Aside0.mk (rw_ (W := ((((((w51.setCell ⟨gb692, 0, none⟩ (.int .u32 a0_0)).setCell ⟨gb692, 1, none⟩ (.slice A0_1 l0_1.length c0_1)).setCell ⟨gb692, 2, none⟩ (.slice A0_2 l0_2.length c0_2)).setCell ⟨gb692, 3, none⟩ (.bool false)).setCell ⟨gb692, 4, none⟩ (.int .i64 (-1))).setCell ⟨gb692, 2, none⟩ (.slice none 0 0))) HO687)
                  have m_HO_3 := Aside0.mk (rw_ (W := ((((((w51.setCell ⟨gb692, 0, none⟩ (.int .u32 a0_0)).setCell ⟨gb692, 1, none⟩ (.slice A0_1 l0_1.length c0_1)).setCell ⟨gb692, 2, none⟩ (.slice A0_2 l0_2.length c0_2)).setCell ⟨gb692, 3, none⟩ (.bool false)).setCell ⟨gb692, 4, none⟩ (.int .i64 (-1))).setCell ⟨gb692, 2, none⟩ (.slice none 0 0))) HO_3)
                  have m_HB : Aside0 (Below w.heap.size w ((((((w51.setCell ⟨gb692, 0, none⟩ (.int .u32 a0_0)).setCell ⟨gb692, 1, none⟩ (.slice A0_1 l0_1.length c0_1)).setCell ⟨gb692, 2, none⟩ (.slice A0_2 l0_2.length c0_2)).setCell ⟨gb692, 3, none⟩ (.bool false)).setCell ⟨gb692, 4, none⟩ (.int .i64 (-1))).setCell ⟨gb692, 2, none⟩ (.slice none 0 0))) := ⟨bel_⟩
                  clear HO661 HO664 HO672 HO675 HO684 HO687 HO_3 BK653 BK668 BK679 BK680 BK691 BK692 HB
                  generalize ((((((w51.setCell ⟨gb692, 0, none⟩ (.int .u32 a0_0)).setCell ⟨gb692, 1, none⟩ (.slice A0_1 l0_1.length c0_1)).setCell ⟨gb692, 2, none⟩ (.slice A0_2 l0_2.length c0_2)).setCell ⟨gb692, 3, none⟩ (.bool false)).setCell ⟨gb692, 4, none⟩ (.int .i64 (-1))).setCell ⟨gb692, 2, none⟩ (.slice none 0 0)) = wX2 at m_gb653 m_gb668 m_gb679 m_gb680 m_gb691 m_gb692 m_HO661 m_HO664 m_HO672 m_HO675 m_HO684 m_HO687 m_HO_3 m_HB ⊢
                  have BK653 := m_gb653
                  have BK668 := m_gb668
                  have BK679 := m_gb679
                  have BK680 := m_gb680
                  have BK691 := m_gb691
                  have BK692 := m_gb692
                  have HO661 := m_HO661
                  have HO664 := m_HO664
                  have HO672 := m_HO672
                  have HO675 := m_HO675
                  have HO684 := m_HO684
                  have HO687 := m_HO687
                  have HO_3 := m_HO_3
                  have HB := m_HB
                  clear m_gb653 m_gb668 m_gb679 m_gb680 m_gb691 m_gb692 m_HO661 m_HO664 m_HO672 m_HO675 m_HO684 m_HO687 m_HO_3 m_HB
                  obtain ⟨hcq653_0, hcq653_1, hcq653_2, hcq653_3, hcq653_4⟩ := cl5_ BK653
                  obtain ⟨hfq653_0, hfq653_1, hfq653_2, hfq653_3, hfq653_4⟩ := fz5_ BK653
                  obtain ⟨hcq668_0, hcq668_1, hcq668_2, hcq668_3, hcq668_4⟩ := cl5_ BK668
                  obtain ⟨hfq668_0, hfq668_1, hfq668_2, hfq668_3, hfq668_4⟩ := fz5_ BK668
                  obtain ⟨hcq679_0, hcq679_1, hcq679_2, hcq679_3, hcq679_4⟩ := cl5_ BK679
                  obtain ⟨hfq679_0, hfq679_1, hfq679_2, hfq679_3, hfq679_4⟩ := fz5_ BK679
                  obtain ⟨hcq680_0, hcq680_1, hcq680_2, hcq680_3, hcq680_4⟩ := cl5_ BK680
                  obtain ⟨hfq680_0, hfq680_1, hfq680_2, hfq680_3, hfq680_4⟩ := fz5_ BK680
                  obtain ⟨hcq691_0, hcq691_1, hcq691_2, hcq691_3, hcq691_4⟩ := cl5_ BK691
                  obtain ⟨hfq691_0, hfq691_1, hfq691_2, hfq691_3, hfq691_4⟩ := fz5_ BK691
                  obtain ⟨hcq692_0, hcq692_1, hcq692_2, hcq692_3, hcq692_4⟩ := cl5_ BK692
                  obtain ⟨hfq692_0, hfq692_1, hfq692_2, hfq692_3, hfq692_4⟩ := fz5_ BK692
                  go_wp2_with (first | (go_at_call 20; (with_reducible refine (cambiumref03_Same.calls k1 t658 _ _ t659 _ _ t662 t665 t666 t681 _ _ t682 _ _ t685 t688 t689 true _ ?side1 ?side2 ?side3 ?side4 ?side5 ?side6 ?side7 ?side8 A16.out).mono ?_); (case side1 => exact (Kd.R_reads' (rw_ HO661)).2.2); (case side2 => exact (Kd.R_reads' HO661.out).2.1); (case side3 => exact (Kd.R_reads' (rw_ HO664)).2.2); (case side4 => exact (Kd.R_reads' HO664.out).2.1); (case side5 => exact (Kd.R_reads' (rw_ HO684)).2.2); (case side6 => exact (Kd.R_reads' HO684.out).2.1); (case side7 => exact (Kd.R_reads' (rw_ HO687)).2.2); (case side8 => exact (Kd.R_reads' HO687.out).2.1); rintro e w60 ⟨rfl, hb⟩; replace HO_3 := Aside0.mk (Kd.R_below (rw_ HO_3) hb); replace HO661 := Aside0.mk (Kd.R_below (rw_ HO661) hb); replace HO664 := Aside0.mk (Kd.R_below (rw_ HO664) hb); replace HO672 := Aside0.mk (Kd.R_below (rw_ HO672) hb); replace HO675 := Aside0.mk (Kd.R_below (rw_ HO675) hb); replace HO684 := Aside0.mk (Kd.R_below (rw_ HO684) hb); replace HO687 := Aside0.mk (Kd.R_below (rw_ HO687) hb); replace BK653 := Aside0.mk (blk_below (g := gb653) (o := .cells #[.int .u32 a0_0, .slice A0_1 l0_1.length c0_1, .slice A0_2 l0_2.length c0_2, .bool a0_3, .int .i64 a0_4] 25 (0, 0)) (bs_) hb); replace BK668 := Aside0.mk (blk_below (g := gb668) (o := .cells #[.int .u32 t658, .slice Ao25 t659.length co25, .slice Ao26 t662.length co26, .bool t665, .int .i64 t666] 25 (0, 0)) (bs_) hb); replace BK679 := Aside0.mk (blk_below (g := gb679) (o := .cells #[.int .u32 t669, .slice Ao33 t670.length co33, .slice Ao34 t673.length co34, .bool t676, .int .i64 t677] 25 (0, 0)) (bs_) hb); replace BK680 := Aside0.mk (blk_below (g := gb680) (o := .cells #[.int .u32 a0_0, .slice A0_1 l0_1.length c0_1, .slice A0_2 l0_2.length c0_2, .bool false, .int .i64 (-1)] 25 (0, 0)) (bs_) hb); replace BK691 := Aside0.mk (blk_below (g := gb691) (o := .cells #[.int .u32 t681, .slice Ao48 t682.length co48, .slice Ao49 t685.length co49, .bool t688, .int .i64 t689] 25 (0, 0)) (bs_) hb); replace HB := hb_ hb; replace BK692 := Aside0.mk (blk_below (g := gb692) (o := .cells #[.int .u32 a0_0, .slice A0_1 l0_1.length c0_1, .slice none 0 0, .bool false, .int .i64 (-1)] 25 (0, 0)) (bs_) hb); (try clear hb); (try clear hb2); (try clear hk); (try clear hi); obtain ⟨hcz61_0, hcz61_1, hcz61_2, hcz61_3, hcz61_4⟩ := cl5_ BK679; obtain ⟨hfz61_0, hfz61_1, hfz61_2, hfz61_3, hfz61_4⟩ := fz5_ BK679; obtain ⟨hcz62_0, hcz62_1, hcz62_2, hcz62_3, hcz62_4⟩ := cl5_ BK692; obtain ⟨hfz62_0, hfz62_1, hfz62_2, hfz62_3, hfz62_4⟩ := fz5_ BK692) | (go_at_call 20; (refine (cambiumref03_Same.calls k1 t669 _ _ t670 _ _ t673 t676 t677 a0_0 _ _ l0_1 _ _ ([] : List (S39)) false (-1) t694 _ ?side1 ?side2 ?side3 ?side4 ?side5 ?side6 ?side7 ?side8 A18.out).mono ?_); (case side1 => exact cr_ HO672); (case side2 => exact (Kd.R_reads' HO672.out).2.1); (case side3 => exact cr_ HO675); (case side4 => exact (Kd.R_reads' HO675.out).2.1); (case side5 => exact cb_ HR0_1); (case side6 => exact HC0_1.out); (case side7 => exact Kd.C_nil _ _); (case side8 => exact Nat.le_refl _); rintro e w63 ⟨rfl, hb⟩; replace HO_3 := rb_ HO_3 hb; replace HO661 := rb_ HO661 hb; replace HO664 := rb_ HO664 hb; replace HO672 := rb_ HO672 hb; replace HO675 := rb_ HO675 hb; replace HO684 := rb_ HO684 hb; replace HO687 := rb_ HO687 hb; replace BK653 := kb_ BK653 hb; replace BK668 := kb_ BK668 hb; replace BK679 := kb_ BK679 hb; replace BK680 := kb_ BK680 hb; replace BK691 := kb_ BK691 hb; replace BK692 := kb_ BK692 hb; replace HB := hb_ hb; (try clear hb); (try clear hb2); (try clear hk); (try clear hi)))
                  go_ret
                  exact ⟨by first | rfl | (simp [errW_none, errW_some] <;> rfl) | (simp [*, errW_none, errW_some] <;> rfl), bel_⟩
                · replace c17 := Bool.eq_false_iff.mpr c17
                  subst c17
                  have H1 : (some false) = some r := by rw [if_neg (show ¬ (false = true) by decide)] at H; exact H
                  clear H
                  have H := H1
                  clear H1
                  exact absurd ((Option.some.inj H).trans HT_.out) (by simp)
              · rw [if_neg c15] at H
                have c15b0 : (t690 == 0) = false := beq_eq_false_iff_ne.mpr c15
                have c15b1 : (t690 != 0) = true := bne_iff_ne.mpr c15
                exact absurd ((Option.some.inj H).trans HT_.out) (by simp)
            · rw [if_neg c14] at H
              have c14b0 : (t678 == 0) = false := beq_eq_false_iff_ne.mpr c14
              have c14b1 : (t678 != 0) = true := bne_iff_ne.mpr c14
              exact absurd ((Option.some.inj H).trans HT_.out) (by simp)
          · rw [if_neg c11] at H
            have c11b0 : (t667 == 0) = false := beq_eq_false_iff_ne.mpr c11
            have c11b1 : (t667 != 0) = true := bne_iff_ne.mpr c11
            obtain rfl := Option.some.inj H
            obtain ⟨hcz64_0, hcz64_1, hcz64_2, hcz64_3, hcz64_4⟩ := cl5_ BK653
            obtain ⟨hfz64_0, hfz64_1, hfz64_2, hfz64_3, hfz64_4⟩ := fz5_ BK653
            obtain ⟨Ao65, co65, eo65⟩ := Kd.R_slice HO_3.out
            subst eo65
            go_wp2_with (first | ((with_reducible refine gate_callee (f := 23) rfl ?_); refine gl_ (some 26) Tryd.func23 #[.agg #[.int .u32 a0_0, .slice A0_1 l0_1.length c0_1, .slice A0_2 l0_2.length c0_2, .bool a0_3, .int .i64 a0_4], .slice Ao65 x3_1.length co65] ?_; (with_reducible refine (dev_Crash.calls k1 a0_0 _ _ l0_1 _ _ l0_2 a0_3 a0_4 _ _ x3_1 t658 t659 t662 t665 t666 t667 _ ?side1 ?side2 ?side3 ?side4 ?side5 ?side6 A10.out).mono ?_); (case side1 => exact cb_ HR0_1); (case side2 => exact HC0_1.out); (case side3 => exact cb_ HR0_2); (case side4 => exact HC0_2.out); (case side5 => exact cr_ HO_3); (case side6 => exact (Kd.R_reads' HO_3.out).2.1); rintro e w66 ⟨v660, v663, rfl, ho0, ho1, hb⟩; refine ⟨_, rfl, ?_⟩; have HO661 := rl_ ho0; have HO664 := rl_ ho1; replace HO_3 := rb_ HO_3 hb; replace BK653 := kb_ BK653 hb; replace HB := hb_ hb; (try clear hb); (try clear hb2); (try clear hk); (try clear hi); (try clear ho0); (try clear ho1)) | ((with_reducible refine gate_dst (N := 4) rfl ?_); refine bx_ (N := 4) (cs := #[.int .u32 0, .slice none 0 0, .slice none 0 0, .bool false, .int .i64 0]) (t := 25) ?_; intro gb668 hg w67 hbox hb; have BK668 := Aside0.mk (hbox); have GW668 := ge_ hg; have GE668 := ge_ hg; have NB653_668 := nl_ BK653 hg; have NB668_653 := ng_ BK653 hg; replace HO_3 := rb_ HO_3 hb; replace HO661 := rb_ HO661 hb; replace HO664 := rb_ HO664 hb; replace BK653 := kb_ BK653 hb; replace HB := hb_ hb; clear hb hbox hg; have hnb68 := NB668_653.out; have hnc68 := NB653_668.out; obtain ⟨hcz69_0, hcz69_1, hcz69_2, hcz69_3, hcz69_4⟩ := cl5_ BK668; obtain ⟨hfz69_0, hfz69_1, hfz69_2, hfz69_3, hfz69_4⟩ := fz5_ BK668; obtain ⟨Ao70, co70, eo70⟩ := Kd.R_slice HO661.out; subst eo70; obtain ⟨Ao71, co71, eo71⟩ := Kd.R_slice HO664.out; subst eo71))
            go_ret
            exact ⟨by first | rfl | (simp [errW_none, errW_some] <;> rfl) | (simp [*, errW_none, errW_some] <;> rfl), bel_⟩
  · replace c3 := Bool.eq_false_iff.mpr c3
    subst c3
    have H1 : (some false) = some r := by rw [if_neg (show ¬ (false = true) by decide)] at H; exact H
    clear H
    have H := H1
    clear H1
    exact absurd ((Option.some.inj H).trans HT_.out) (by simp)

end Go.Proofs.YtcphflfjhkeooaaDoor.Z
end

section
/- DevKept, over numbers and lists: the law's function answers true. -/
namespace Go.Proofs.YtcphflfjhkeooaaDoor.Pure
open Go.RowKit Go.Proofs.YtcphflfjhkeooaaDoor Go.Proofs.YtcphflfjhkeooaaDoor.Z Go.Proofs.YtcphflfjhkeooaaDoorW.PrintWords
set_option linter.unusedVariables false
theorem DevKept : ∀ (a0_0 : Int) (l0_1 : List (S39)) (l0_2 : List (S39)) (a0_3 : Bool) (a0_4 : Int), (Lit.int .u32 a0_0).wf = true → l0_1.length ≤ maxLen → (∀ x ∈ l0_1, Z.G39 x) → l0_1.length * 24 ≤ 140737488351232 → l0_2.length ≤ maxLen → (∀ x ∈ l0_2, Z.G39 x) → l0_2.length * 24 ≤ 140737488351232 → (Lit.int .i64 a0_4).wf = true → ∃ k, Z.cambiumlaw03_DevKept.f k a0_0 l0_1 l0_2 a0_3 a0_4 = some true := by
  intro s bl wl d f hs hl1 hg1 hz1 hl2 hg2 hz2 hf
  refine Ev.rounds (g := fun r => Z.cambiumlaw03_DevKept.f r s bl wl d f) ?_
  have hi : Inp s bl wl := inp hg1 hg2 hl1
  unfold cambiumlaw03_DevKept.f
  refine Ev.bind lives_f (Ev.ifp rfl ?_)
  have lp : ∀ dd i : Nat, wl.length = i + dd → Ev (fun k => cambiumlaw03_DevKept.l0 k (List.replicate i true) (wl.length : Int) (i : Int) s bl wl d f) true := by
    intro dd
    induction dd with
    | zero =>
      intro i hi2
      have : i = wl.length := by omega
      subst this
      refine Ev.step (fun k => by rw [cambiumlaw03_DevKept.l0]) ?_
      refine Ev.ifn (by omega) ?_
      by_cases ok : okDev s bl wl
      · refine Ev.bind (crash_ok ok d f _) ?_
        unfold crashS
        rw [kept_all wl _ (Nat.le_refl _)]
        have e : flushS s bl wl false (-1) = (s, putsL bl wl, [], false, -1, 0) := by
          unfold flushS
          rw [if_neg (by simp), if_neg (by unfold downOf; simp)]
          rfl
        have e0 : kept wl [] = [] := by cases wl <;> rfl
        have okA := okDev_len (okDev_puts ok ok.2.2.2.2)
        have okB := okDev_len ok
        refine Ev.ifp rfl (Ev.bind (crash_ok ok d f []) (Ev.bind (flush_ok ok false (-1)) ?_))
        rw [e]
        unfold crashS
        rw [e0]
        exact Ev.ifp rfl (Ev.ifp rfl (Ev.bind (same_self _ _ _ _ _ (show (putsL bl wl).length ≤ _ by omega) (by simp)) (Ev.ifp rfl (Ev.bind (same_self _ _ _ _ _ (show (putsL bl []).length ≤ _ by unfold putsL; simp only [List.foldl_nil]; omega) (by simp)) (Ev.const rfl)))))
      · exact Ev.bind (crash_bad ok hi d f _) (Ev.ifn (by decide) (Ev.const rfl))
    | succ dd ih =>
      intro i hi2
      refine Ev.step (fun k => by rw [cambiumlaw03_DevKept.l0]) ?_
      refine Ev.ifp (by omega) ?_
      rw [show wrap64 ((i : Int) + 1) = ((i + 1 : Nat) : Int) by rw [w64 (by omega) (by unfold maxLen at hl2; omega)]; omega, show List.replicate i true ++ [true] = List.replicate (i + 1) true by rw [List.replicate_succ']]
      exact Ev.ifp (by rw [List.length_replicate]; omega) (ih (i + 1) (by omega))
  exact lp wl.length 0 (by omega)
end Go.Proofs.YtcphflfjhkeooaaDoor.Pure
end

section
/- cambium/cambiumlaw03.DevKept: at every input the law's function returns true, and each argument reads afterwards as before. Conditions: none beyond the row's own. Printed by a program of this session (mp.py) over the pure statement in YtcphflfjhkeooaaDoorPureDevKept. -/
namespace Go.Proofs.YtcphflfjhkeooaaDoor.devKept
open Go.ChangeShapes Go.WideShapes Go.ChangeAt Go.RowKit
open Go.ChangeMaps (open_string shut_string)
set_option linter.unusedVariables false
set_option linter.unusedSimpArgs false
theorem own : ownKnob Tryd.prog.godebug = none := by kernel_rfl
theorem laidOut : laidOutB Tryd.prog = true := by kernel_rfl
theorem lstOf5 {α : Type} (l : List α) (h : l.length = 5) : ∃ z0 z1 z2 z3 z4, l = [z0, z1, z2, z3, z4] := by
  match l, h with
  | [z0, z1, z2, z3, z4], _ => exact ⟨z0, z1, z2, z3, z4, rfl⟩
theorem arrOf5 {α : Type} (a : Array α) (h : a.toList.length = 5) : ∃ z0 z1 z2 z3 z4, a = #[z0, z1, z2, z3, z4] := by
  obtain ⟨l⟩ := a
  obtain ⟨z0, z1, z2, z3, z4, rfl⟩ := lstOf5 l h
  exact ⟨z0, z1, z2, z3, z4, rfl⟩
def lay0 : Obj → Obj
  | .cells _ t frozen => .cells (((Pinned.numbers IntKind.u8 Pinned.utf8FirstZ : List (DataW Unit)).map (fun x => match x with | .lit (.int k v) => Value.int k v | _ => .int .u8 0)).toArray) t frozen
  | o => o
def lay1 : Obj → Obj
  | .cells _ t frozen => .cells #[.int .u8 128, .int .u8 191, .int .u8 160, .int .u8 191, .int .u8 128, .int .u8 159, .int .u8 144, .int .u8 191, .int .u8 128, .int .u8 143, .int .u8 0, .int .u8 0, .int .u8 0, .int .u8 0, .int .u8 0, .int .u8 0, .int .u8 0, .int .u8 0, .int .u8 0, .int .u8 0, .int .u8 0, .int .u8 0, .int .u8 0, .int .u8 0, .int .u8 0, .int .u8 0, .int .u8 0, .int .u8 0, .int .u8 0, .int .u8 0, .int .u8 0, .int .u8 0] t frozen
  | o => o
noncomputable def laidWorld (os : Os) : World :=
  { World.holding Tryd.prog os ⟨#[], #[], []⟩ with heap := ((World.holding Tryd.prog os ⟨#[], #[], []⟩).heap.modify 0 lay0).modify 1 lay1 }
theorem laid_met (os : Os) : laidMet Tryd.prog Rows.devKeptRow.laid ((laidWorld os).forCall (fun _ _ => 0) ⟨#[], #[.agg #[.int .u32 0, .slice none 0 0, .slice none 0 0, .bool false, .int .i64 0]], []⟩).memory :=
  laidMet_of_run' 8 (by kernel_rfl) (by kernel_rfl)
theorem reads (os : Os) {H : Type} (enc : TypeId × Value → H) : ∃ places, DataW.whole enc Tryd.prog ((laidWorld os).forCall (fun _ _ => 0) ⟨#[], #[.agg #[.int .u32 0, .slice none 0 0, .slice none 0 0, .bool false, .int .i64 0]], []⟩).memory Tryd.f8.params.toList Rows.devKeptSpec.vars false (#[.agg #[.int .u32 0, .slice none 0 0, .slice none 0 0, .bool false, .int .i64 0]] : Array Value).toList 8 = some ([.agg [.lit (.int .u32 0), .nil, .nil, .lit (.bool false), .lit (.int .i64 0)]], [], places) :=
  ⟨[], by kernel_rfl⟩
set_option maxHeartbeats 1000000 in
set_option maxRecDepth 100000 in
theorem lifted (os : Os) (started : os.Started) (H : Type) (enc : TypeId × Value → H) (F : Stop.Interp) :
    ReturnsInHanded {} Tryd.checked os 8 .any ((OpenSpec.ofChange Rows.devKeptSpec).preRow enc Tryd.prog Tryd.f8 Rows.devKeptRow.domain false Rows.devKeptRow.laid) (((OpenSpec.ofChange Rows.devKeptSpec).at F).post enc Tryd.prog Tryd.f8 false true false false) := by
  obtain ⟨places, hx⟩ := reads os enc
  refine returnsInHanded_of_row (C := Tryd.checked) (s := OpenSpec.ofChange Rows.devKeptSpec) own started (by kernel_rfl) Tryd.func8
    (witness_row_at (enc := enc) (C := Tryd.checked) false (laidWorld os) #[.agg #[.int .u32 0, .slice none 0 0, .slice none 0 0, .bool false, .int .i64 0]] rfl (by kernel_rfl) (by kernel_rfl) (by kernel_rfl)
      (OpenSpec.preRow_of_cond 8 hx (by kernel_rfl) (fun k hk => by cases hk) (by kernel_rfl) (laid_met os))) ?_
  intro W base args ds gs before hval0 hW hcn0_ hcnd hwz_ _ _ _
  have hsz : (DataW.weightsEach Tryd.prog (Tryd.f8.params.toList ++ Rows.devKeptSpec.plain.varTypes Tryd.prog) (ds ++ gs)).all (· ≤ reachBytes) = true := hwz_
  have hval : ∀ (j : Nat) t v, Tryd.f8.params[j]? = some t → args[j]? = some v → Value.okWide Tryd.prog W .any base t v := hval0
  have hW' := hW
  obtain ⟨p, q, hA0, hV, rfl, hfz, hnd⟩ := hW
  have hA : DataW.TrodAll enc Tryd.prog W 0 (fun _ => true) true Tryd.f8.params.toList args.toList ds p := hA0
  rw [Tryd.params8] at hA hval hsz
  obtain ⟨v0, vs0, d0, ds0, p0, q0, hargs, rfl, rfl, h0, r0⟩ := trodAll_cons hA
  obtain ⟨rfl, rfl, rfl⟩ := trodAll_nil r0
  obtain rfl : args = #[v0] := by cases args; simp_all
  obtain ⟨rfl, rfl⟩ := trodVars_none hV
  have k0 := h0
  have lt0 : ∀ x ∈ p0, x.block < W.heap.size := by obtain ⟨m, hm⟩ := k0; exact DataW.trod_lt m _ _ _ hm
  obtain ⟨cs0, rfl, hsz_0⟩ := okWide_struct Tryd.underlying25 (hval 0 25 v0 rfl rfl)
  obtain ⟨fuel0, hf0⟩ := h0
  obtain ⟨ys0, n0, hl0, hy0, hx0, hfs0⟩ := Z.flat_fields Tryd.underlying25 (by kernel_rfl) (by kernel_rfl) hf0
  obtain ⟨q0_0, q0_1, q0_2, q0_3, q0_4, rfl⟩ := arrOf5 cs0 hl0
  obtain ⟨r0_0, r0_1, r0_2, r0_3, r0_4, rfl⟩ := lstOf5 ys0 hy0
  obtain ⟨a0_0, hk0_0, hG0_0, hB0_0⟩ := (Z.Opens.int Tryd.underlying22 (by kernel_rfl)).2 (hfs0 0 _ q0_0 rfl rfl)
  have hk0_0' : [q0_0] = [.int .u32 a0_0] := hk0_0
  simp only [List.cons.injEq, and_true] at hk0_0'
  subst hk0_0'
  clear hk0_0
  obtain ⟨A0_1, c0_1, l0_1, hcs0_1, hlc0_1, hcm0_1, hC0_1, hG0_1, hB0_1, hx0_1⟩ := Z.Opens.row Tryd.underlying23 Z.opens39 (of_decide_eq_true (by kernel_rfl)) (hfs0 1 _ q0_1 rfl rfl)
  simp only [List.cons.injEq, and_true] at hcs0_1
  subst hcs0_1
  have hlm0_1 : l0_1.length ≤ maxLen := Nat.le_trans hlc0_1 hcm0_1
  have hsz0_1 : l0_1.length * 24 ≤ 140737488351232 := Z.sized_field hsz (j := 0) (t := 25) (i := 1) (u := 23) rfl rfl hx0 Tryd.underlying25 rfl rfl Tryd.underlying23 (by kernel_rfl) hx0_1
  obtain ⟨A0_2, c0_2, l0_2, hcs0_2, hlc0_2, hcm0_2, hC0_2, hG0_2, hB0_2, hx0_2⟩ := Z.Opens.row Tryd.underlying23 Z.opens39 (of_decide_eq_true (by kernel_rfl)) (hfs0 2 _ q0_2 rfl rfl)
  simp only [List.cons.injEq, and_true] at hcs0_2
  subst hcs0_2
  have hlm0_2 : l0_2.length ≤ maxLen := Nat.le_trans hlc0_2 hcm0_2
  have hsz0_2 : l0_2.length * 24 ≤ 140737488351232 := Z.sized_field hsz (j := 0) (t := 25) (i := 2) (u := 23) rfl rfl hx0 Tryd.underlying25 rfl rfl Tryd.underlying23 (by kernel_rfl) hx0_2
  obtain ⟨a0_3, hk0_3, hG0_3, hB0_3⟩ := (Z.Opens.bool Tryd.underlying4 (by kernel_rfl)).2 (hfs0 3 _ q0_3 rfl rfl)
  have hk0_3' : [q0_3] = [.bool a0_3] := hk0_3
  simp only [List.cons.injEq, and_true] at hk0_3'
  subst hk0_3'
  clear hk0_3
  obtain ⟨a0_4, hk0_4, hG0_4, hB0_4⟩ := (Z.Opens.int Tryd.underlying3 (by kernel_rfl)).2 (hfs0 4 _ q0_4 rfl rfl)
  have hk0_4' : [q0_4] = [.int .i64 a0_4] := hk0_4
  simp only [List.cons.injEq, and_true] at hk0_4'
  subst hk0_4'
  clear hk0_4
  have hP := Pure.DevKept a0_0 l0_1 l0_2 a0_3 a0_4 hG0_0 hlm0_1 hG0_1 hsz0_1 hlm0_2 hG0_2 hsz0_2 hG0_4
  obtain ⟨k, hk⟩ := hP
  refine (Z.cambiumlaw03_DevKept.calls k a0_0 _ _ l0_1 _ _ l0_2 a0_3 a0_4 true W hC0_1 hlc0_1 hC0_2 hlc0_2 hk).mono fun e W' ⟨he, bel0⟩ => ?_
  have bel : Below W.heap.size W W' := bel0
  subst he
  exact ⟨_, rfl, _, _, _, [], _, [], hW', trodAll_mk1 (shut_bool Tryd.underlying4 _), (trodAll_cons_mk (Below.trod laidOut (by kernel_rfl) (of_decide_eq_true (by kernel_rfl)) k0 bel lt0) trodAll_mk0), rfl, bel.frame _, fun h => by cases h⟩
theorem over : Rows.DevKeptSaid :=
  OpenClaim.holds_of_cond 8 Tryd.f8 rfl rfl rfl rfl rfl rfl rfl ⟨rfl, rfl, rfl, rfl, rfl⟩ rfl rfl rfl rfl rfl (by kernel_rfl) Tryd.func8 (by kernel_rfl)
    (of_decide_eq_true (by kernel_rfl)) (by unfold Func.isWrapper; first | (rw [if_pos (by decide +kernel)]; kernel_rfl) | (rw [if_neg (by decide +kernel)]; exact ⟨rfl, rfl⟩))
    (fun os started H enc _ F => by rw [OpenClaim.pre_eq_preRow]; exact lifted os started H enc F)
theorem plain (f : FuncId) (fn : Func) (hf : Tryd.pinned.checked.prog.funcNamed "cambium/cambiumlaw03.DevKept" = some f) (hfn : Tryd.pinned.checked.prog.funcs[f]? = some fn) :
    false = Tryd.pinned.checked.prog.looks [] ∧ ∀ (j : Nat) t, fn.params[j]? = some t → Tryd.pinned.checked.prog.wantsStandIn t = false := by
  obtain rfl : f = 8 := Option.some.inj ((show Tryd.prog.funcNamed "cambium/cambiumlaw03.DevKept" = some 8 by kernel_rfl).symm.trans hf) |>.symm
  obtain rfl : fn = Tryd.f8 := (Option.some.inj (Tryd.func8.symm.trans hfn)).symm
  refine ⟨by kernel_rfl, fun j t ht => ?_⟩
  rw [Tryd.params8] at ht
  have hm := Array.mem_of_getElem? ht
  simp only [List.mem_toArray, List.mem_cons, List.not_mem_nil, or_false] at hm
  rcases hm with rfl <;> exact (show Tryd.prog.wantsStandIn _ = false by kernel_rfl)
theorem card : Rows.DevKeptCardSaid :=
  Claim7.holds_tied_plain_at .later [] _ _ _ _ over (fun _ h => by cases h) (by kernel_rfl) (fun _ h => by cases h) devKept_row_tie rfl ⟨rfl, rfl⟩ (by kernel_rfl) rfl plain (by kernel_rfl)
end Go.Proofs.YtcphflfjhkeooaaDoor.devKept
namespace Go.Proofs.YtcphflfjhkeooaaDoor
theorem devKept_holds : Rows.DevKeptCardSaid := devKept.card
#print axioms devKept_holds
end Go.Proofs.YtcphflfjhkeooaaDoor
end
