/- ItemLastUpto: at every input the law's function returns true and leaves its arguments as they were; condition: the arguments are of bulk at most 1048576. Part 5 of 5: this session's own texts, laid together. -/
import Derived.Test.YtdahmaepfmcpbaaMB1
import Derived.Test.YtdahmaepfmcpbaaMB2
import Derived.Test.YtdahmaepfmcpbaaMB4
import Derived.Test.YtdahmaepfmcpbaaRows
import Derived.WalkKit
import Derived.ProofKit
import Derived.OpenShut
import Derived.ShutString
import Derived.ChangeOld
import Derived.Below
import Derived.SizedLaws
import Derived.Carry
import Derived.JoinedCond
import Derived.Deep.CondSized
section
-- Printed by a program of this session (mp.py) out of the translation.
namespace Go.Proofs.Ytdahmaepfmcpbaa.Z
open Go.RowKit Go.Proofs.YtdahmaepfmcpbaaW.PrintWords Go.Proofs.YtdahmaepfmcpbaaW.PrintLast Go.Proofs.YtdahmaepfmcpbaaW.PrintMore
attribute [local go_sem] max2_int min2_int max_two min_two max_three min_three max_four min_four   -- for this text's walks alone
set_option linter.unusedVariables false
set_option linter.unusedSimpArgs false

/-! ### cambiumlaw04_ItemLast: function 6 -/
def cambiumlaw04_ItemLast.l0 : Nat → ByteArray → List (S43) → ByteArray → Int → List (S39) → Int → Int → Option (Bool)
  | 0, _, _, _, _, _, _, _ => none
  | k + 1, x2, x7, x9, x10, x34, x35, x36 => if x36 < x35 then (if 0 ≤ x36 then (if x36 < (x34.length : Int) then (if ((rd_T39 x34 x36).f0).toList = x2.toList then (if ((rd_T39 x34 x36).f1 = true) then (cambiumlaw04_ItemLast.l0 k x2 x7 ((rd_T39 x34 x36).f2) 0 x34 x35 (wrap64 (x36 + 1))) else (cambiumlaw04_ItemLast.l0 k x2 x7 ((rd_T39 x34 x36).f2) 5 x34 x35 (wrap64 (x36 + 1)))) else (cambiumlaw04_ItemLast.l0 k x2 x7 x9 x10 x34 x35 (wrap64 (x36 + 1)))) else (none)) else (none)) else ((item_Get.f k x7 x2).bind fun bt386 => (if x9.toList = bt386.1.toList then (if x10 = bt386.2 then ((item_Check.f k x7).bind fun t388 => (some (t388 == 0))) else (some false)) else (some false)))
def cambiumlaw04_ItemLast.f (k : Nat) (l0 : List (S43)) (l1 : List (S39)) (a2 : ByteArray) : Option (Bool) := (cambiumlaw04_lives.f k).bind fun t379 => (if t379 = true then ((item_Apply.f k l0 l1).bind fun bt380 => (if bt380.2 = 0 then ((item_Get.f k l0 a2).bind fun bt384 => (cambiumlaw04_ItemLast.l0 k a2 bt380.1 bt384.1 bt384.2 l1 (l1.length : Int) 0)) else (some ((bt380.1.length : Int) == 0)))) else (some false))
theorem cambiumlaw04_ItemLast.mono_l : ∀ k, (∀ y0 y1 y2 y3 y4 y5 y6, LeO (cambiumlaw04_ItemLast.l0 k y0 y1 y2 y3 y4 y5 y6) (cambiumlaw04_ItemLast.l0 (k + 1) y0 y1 y2 y3 y4 y5 y6))
  | 0 => fun _ _ _ _ _ _ _ r h => by simp [cambiumlaw04_ItemLast.l0] at h
  | k + 1 => by
    have ih0 := cambiumlaw04_ItemLast.mono_l k
    · intro y0 y1 y2 y3 y4 y5 y6
      unfold cambiumlaw04_ItemLast.l0
      repeat' first
      | (with_reducible exact ih0 _ _ _ _ _ _ _)
      | (with_reducible exact cambiumlaw04_lives.mono _)
      | (with_reducible exact item_Apply.mono _ _ _)
      | (with_reducible exact item_Check.mono _ _)
      | (with_reducible exact item_Get.mono _ _ _)
      | (with_reducible exact LeO.refl _)
      | (with_reducible exact LeO.none _)
      | (with_reducible refine LeO.ite ?_ ?_)
      | (with_reducible refine LeO.bind ?_ (fun _ => ?_))
      | exact ih0 _ _ _ _ _ _ _
      | exact cambiumlaw04_lives.mono _
      | exact item_Apply.mono _ _ _
      | exact item_Check.mono _ _
      | exact item_Get.mono _ _ _
      | exact LeO.none _
      | refine LeO.ite ?_ ?_
      | refine LeO.bind ?_ (fun _ => ?_)
theorem cambiumlaw04_ItemLast.mono : ∀ a0 a1 a2 k, LeO (cambiumlaw04_ItemLast.f k a0 a1 a2) (cambiumlaw04_ItemLast.f (k + 1) a0 a1 a2) := by
  intro a0 a1 a2 k
  have ih0 := cambiumlaw04_ItemLast.mono_l k
  unfold cambiumlaw04_ItemLast.f
  repeat' first
      | (with_reducible exact ih0 _ _ _ _ _ _ _)
      | (with_reducible exact cambiumlaw04_lives.mono _)
      | (with_reducible exact item_Apply.mono _ _ _)
      | (with_reducible exact item_Check.mono _ _)
      | (with_reducible exact item_Get.mono _ _ _)
      | (with_reducible exact LeO.refl _)
      | (with_reducible exact LeO.none _)
      | (with_reducible refine LeO.ite ?_ ?_)
      | (with_reducible refine LeO.bind ?_ (fun _ => ?_))
      | exact ih0 _ _ _ _ _ _ _
      | exact cambiumlaw04_lives.mono _
      | exact item_Apply.mono _ _ _
      | exact item_Check.mono _ _
      | exact item_Get.mono _ _ _
      | exact LeO.none _
      | refine LeO.ite ?_ ?_
      | refine LeO.bind ?_ (fun _ => ?_)
set_option maxHeartbeats 8000000 in
set_option maxRecDepth 100000 in
theorem cambiumlaw04_ItemLast.calls (k : Nat) (A0 : Option Addr) (c0 : Nat) (l0 : List (S43)) (A1 : Option Addr) (c1 : Nat) (l1 : List (S39)) (a2 : ByteArray) (r : Bool) (w : World) (hr0 : Kd.C k43 w A0 l0.length l0) (hc0 : l0.length ≤ c0) (hr1 : Kd.C k39 w A1 l1.length l1) (hc1 : l1.length ≤ c1) (h : cambiumlaw04_ItemLast.f k l0 l1 a2 = some r) (hT_ : r = true := by rfl) :
    Calls Try.prog 6 #[.slice A0 l0.length c0, .slice A1 l1.length c1, .string a2] w fun e w' => e = .returned (.bool r) ∧ Below w.heap.size w w' := by
  have HT_ := Aside0.mk hT_
  clear hT_
  have hu39 := Try.underlying39
  have HR0 := Aside0.mk hr0
  have HC0 := Aside0.mk hc0
  clear hr0 hc0
  have HR1 := Aside0.mk hr1
  have HC1 := Aside0.mk hc1
  clear hr1 hc1
  have HB := Aside0.mk (Below.refl w.heap.size w)
  have H : ((cambiumlaw04_lives.f k).bind fun t379 => (if t379 = true then ((item_Apply.f k l0 l1).bind fun bt380 => (if bt380.2 = 0 then ((item_Get.f k l0 a2).bind fun bt384 => (cambiumlaw04_ItemLast.l0 k a2 bt380.1 bt384.1 bt384.2 l1 (l1.length : Int) 0)) else (some ((bt380.1.length : Int) == 0)))) else (some false))) = some r := h
  clear h
  replace H := Option.bind_eq_some_iff.mp H
  obtain ⟨t379, A40, H⟩ := H
  replace H : (if t379 = true then ((item_Apply.f k l0 l1).bind fun bt380 => (if bt380.2 = 0 then ((item_Get.f k l0 a2).bind fun bt384 => (cambiumlaw04_ItemLast.l0 k a2 bt380.1 bt384.1 bt384.2 l1 (l1.length : Int) 0)) else (some ((bt380.1.length : Int) == 0)))) else (some false)) = some r := H
  have A4 := Aside0.mk A40
  clear A40
  by_cases c5 : t379 = true
  · subst c5
    have H1 : ((item_Apply.f k l0 l1).bind fun bt380 => (if bt380.2 = 0 then ((item_Get.f k l0 a2).bind fun bt384 => (cambiumlaw04_ItemLast.l0 k a2 bt380.1 bt384.1 bt384.2 l1 (l1.length : Int) 0)) else (some ((bt380.1.length : Int) == 0)))) = some r := by rw [if_pos rfl] at H; exact H
    clear H
    have H := H1
    clear H1
    replace H := Option.bind_eq_some_iff.mp H
    obtain ⟨⟨t380, t381⟩, A60, H⟩ := H
    replace H : (if t381 = 0 then ((item_Get.f k l0 a2).bind fun bt384 => (cambiumlaw04_ItemLast.l0 k a2 t380 bt384.1 bt384.2 l1 (l1.length : Int) 0)) else (some ((t380.length : Int) == 0))) = some r := H
    have A6 := Aside0.mk A60
    clear A60
    by_cases c7 : t381 = 0
    · rw [if_pos c7] at H
      have c7b0 : (t381 == 0) = true := beq_iff_eq.mpr c7
      have c7b1 : (t381 != 0) = false := bne_eq_false_iff_eq.mpr c7
      clear c7
      replace H := Option.bind_eq_some_iff.mp H
      obtain ⟨⟨t384, t385⟩, A80, H⟩ := H
      replace H : (cambiumlaw04_ItemLast.l0 k a2 t380 t384 t385 l1 (l1.length : Int) 0) = some r := H
      have A8 := Aside0.mk A80
      clear A80
      have H' := Aside0.mk H
      clear H
      go_enter Try.func6, Try.ntmps6
      go_wp2_with (first | ((with_reducible refine gate_callee (f := 16) rfl ?_); refine goesL_ (some 15) rfl rfl Try.func16 (by kernel_rfl) rfl #[] rfl (by (try simp only [List.map_toArray, List.map_cons, List.map_nil]); first | done | rfl | (simp only [List.length_drop, List.length_take]; rfl)) ?_; (with_reducible refine (cambiumlaw04_lives.calls k  true _ A4.out).mono ?_); rintro e w9 ⟨rfl, hb⟩; refine ⟨_, rfl, ?_⟩; have n0_ := Aside0.mk (below_step (by repeat (first | (with_reducible first | exact HB.out | apply below_alloc | apply pw_below_drewN | apply below_drew1) | exact HB.out)) hb); clear HB; have HB := n0_; clear n0_; (try clear hb); (try clear hb2); (try clear hk); (try clear hi)) | ((with_reducible refine gate_callee (f := 20) rfl ?_); refine goesL_ (some 20) rfl rfl Try.func20 (by kernel_rfl) rfl #[.slice A0 l0.length c0, .slice A1 l1.length c1] rfl (by (try simp only [List.map_toArray, List.map_cons, List.map_nil]); first | done | rfl | (simp only [List.length_drop, List.length_take]; rfl)) ?_; (with_reducible refine (item_Apply.calls k _ _ l0 _ _ l1 t380 t381 _ ?side1 ?side2 ?side3 ?side4 A6.out).mono ?_); (case side1 => repeat (first | exact (Kd.C_below HR0.out HB.out) | (with_reducible refine Kd.C_alloc ?_ _) | (with_reducible refine Kd.C_drewN ?_ _) | (with_reducible refine Kd.C_drew ?_))); (case side2 => exact HC0.out); (case side3 => repeat (first | exact (Kd.C_below HR1.out HB.out) | (with_reducible refine Kd.C_alloc ?_ _) | (with_reducible refine Kd.C_drewN ?_ _) | (with_reducible refine Kd.C_drew ?_))); (case side4 => exact HC1.out); rintro e w10 ⟨v382, rfl, ho0, hb⟩; refine ⟨_, rfl, ?_⟩; have n0_ := Aside0.mk (Kd.R_lower ho0 (below_size (by repeat (first | (with_reducible first | exact HB.out | apply below_alloc | apply pw_below_drewN | apply below_drew1) | exact HB.out)))); have n1_ := Aside0.mk (below_step (by repeat (first | (with_reducible first | exact HB.out | apply below_alloc | apply pw_below_drewN | apply below_drew1) | exact HB.out)) hb); clear HB; have HO383 := n0_; have HB := n1_; clear n0_ n1_; (try clear hb); (try clear hb2); (try clear hk); (try clear hi); (try clear ho0)) | ((with_reducible refine gate_callee (f := 12) rfl ?_); refine goesL_ (some 31) rfl rfl Try.func12 (by kernel_rfl) rfl #[.slice A0 l0.length c0, .string a2] rfl (by (try simp only [List.map_toArray, List.map_cons, List.map_nil]); first | done | rfl | (simp only [List.length_drop, List.length_take]; rfl)) ?_; (with_reducible refine (item_Get.calls k _ _ l0 a2 t384 t385 _ ?side1 ?side2 A8.out).mono ?_); (case side1 => repeat (first | exact (Kd.C_below HR0.out HB.out) | (with_reducible refine Kd.C_alloc ?_ _) | (with_reducible refine Kd.C_drewN ?_ _) | (with_reducible refine Kd.C_drew ?_))); (case side2 => exact HC0.out); rintro e w11 ⟨rfl, hb⟩; refine ⟨_, rfl, ?_⟩; have n0_ := Aside0.mk (Kd.R_below (by (with_reducible repeat (first | apply Kd.R_alloc | apply Kd.R_drewN | apply Kd.R_drew)); exact HO383.out) hb); have n1_ := Aside0.mk (below_step (by repeat (first | (with_reducible first | exact HB.out | apply below_alloc | apply pw_below_drewN | apply below_drew1) | exact HB.out)) hb); clear HO383; clear HB; have HO383 := n0_; have HB := n1_; clear n0_ n1_; (try clear hb); (try clear hb2); (try clear hk); (try clear hi)))
      go_loopg [9, 10, 36] k (fun kq v9 v10 v36 w' => ∃ (x9_1 : ByteArray) (x10_1 : Int) (x36_1 : Int), v9 = .string x9_1 ∧ v10 = .int .i64 x10_1 ∧ v36 = .int .i64 x36_1 ∧ Aside0 (cambiumlaw04_ItemLast.l0 kq a2 t380 x9_1 x10_1 l1 (l1.length : Int) x36_1 = some r) ∧ Aside0 (kq ≤ k) ∧ Aside0 (Kd.R k43 43 w' w.heap.size (fun _ => True) v382 t380) ∧ Aside0 (Below w.heap.size w w'))
      case atStart => exact ⟨(t384), (t385), (0), (by first | rfl | (simp; done) | (simp [*]; done)), (by first | rfl | (simp; done) | (simp [*]; done)), (by first | rfl | (simp; done) | (simp [*]; done)), H', ⟨Nat.le_refl _⟩, ⟨by (with_reducible repeat (first | apply Kd.R_alloc | apply Kd.R_drewN | apply Kd.R_drew)); exact HO383.out⟩, ⟨by repeat (first | (with_reducible first | exact HB.out | apply below_alloc | apply pw_below_drewN | apply below_drew1) | exact HB.out)⟩⟩
      case round =>
        clear H'
        try clear c1
        try clear c2
        try clear p2
        try clear c5
        try clear c6
        try clear c7
        try clear c7b0
        try clear c7b1
        obtain ⟨x9_1, x10_1, x36_1, rfl, rfl, rfl, HA, HK1, HO_7, HB⟩ := hrel
        cases gk with
        | zero => exact absurd HA.out (by simp [cambiumlaw04_ItemLast.l0])
        | succ k1 =>
          have H := HA.out
          clear HA
          simp only [cambiumlaw04_ItemLast.l0] at H
          by_cases c12 : x36_1 < (l1.length : Int)
          · rw [if_pos c12] at H
            have c12b0 : decide (x36_1 < (l1.length : Int)) = true := decide_eq_true c12
            clear c12
            by_cases c13 : 0 ≤ x36_1
            · rw [if_pos c13] at H
              have c13b0 : decide (0 ≤ x36_1) = true := decide_eq_true c13
              clear c13
              by_cases c14 : x36_1 < (l1.length : Int)
              · rw [if_pos c14] at H
                have c14b0 : decide (x36_1 < (l1.length : Int)) = true := decide_eq_true c14
                clear c14
                by_cases c15 : ((rd_T39 l1 x36_1).f0).toList = a2.toList
                · rw [if_pos c15] at H
                  have c15b0 : (((rd_T39 l1 x36_1).f0).toList == a2.toList) = true := beq_iff_eq.mpr c15
                  have c15b1 : (((rd_T39 l1 x36_1).f0).toList != a2.toList) = false := bne_eq_false_iff_eq.mpr c15
                  clear c15
                  obtain ⟨bq16, hbq16⟩ : ∃ b_ : Bool, b_ = ((rd_T39 l1 x36_1).f1) := ⟨_, rfl⟩
                  replace H : (if (bq16 = true) then (cambiumlaw04_ItemLast.l0 k1 a2 t380 ((rd_T39 l1 x36_1).f2) 0 l1 (l1.length : Int) (wrap64 (x36_1 + 1))) else (cambiumlaw04_ItemLast.l0 k1 a2 t380 ((rd_T39 l1 x36_1).f2) 5 l1 (l1.length : Int) (wrap64 (x36_1 + 1)))) = some r := by rw [← hbq16] at H; exact H
                  have Nbq16 := Aside0.mk hbq16
                  clear hbq16
                  by_cases c17 : (bq16 = true)
                  · subst c17
                    have H1 : (cambiumlaw04_ItemLast.l0 k1 a2 t380 ((rd_T39 l1 x36_1).f2) 0 l1 (l1.length : Int) (wrap64 (x36_1 + 1))) = some r := by rw [if_pos rfl] at H; exact H
                    clear H
                    have H := H1
                    clear H1
                    have H' := Aside0.mk H
                    clear H
                    have p389 : 0 ≤ (x36_1 : Int) := of_decide_eq_true (by first | (with_reducible assumption) | assumption)
                    have q389 : x36_1 < (l1.length : Int) := of_decide_eq_true (by first | (with_reducible assumption) | assumption)
                    obtain ⟨ad389, e389, hx389_0, hx389_1, hx389_2⟩ := at_T39 HR1.out x36_1 p389 q389
                    (try rw [← Nbq16.out] at hx389_1)
                    cases e389
                    replace hx389_0 := (HB.out.cell (World.block_lt_of_cell? w _ hx389_0)).trans hx389_0
                    replace hx389_1 := (HB.out.cell (World.block_lt_of_cell? w _ hx389_1)).trans hx389_1
                    replace hx389_2 := (HB.out.cell (World.block_lt_of_cell? w _ hx389_2)).trans hx389_2
                    replace p389 := eq_true p389
                    replace q389 := eq_true q389
                    go_wp2_with (first | ((with_reducible refine gate_dst (N := 12) rfl ?_); refine box_event ?hg (N := 12) ?hd (cs := #[.string (⟨#[]⟩ : ByteArray), .bool false, .string (⟨#[]⟩ : ByteArray)]) (t := 39) ?hr ?_; (case hd => rfl); (case hg => rfl); (case hr => first | (go_simp; done) | (go_simp; rfl)); intro gb390 hg w18 hbox hb; have n0_ := Aside0.mk (Kd.R_below (by (with_reducible repeat (first | apply Kd.R_alloc | apply Kd.R_drewN | apply Kd.R_drew)); exact HO_7.out) hb); have n1_ := Aside0.mk (below_step (by repeat (first | (with_reducible first | exact HB.out | apply below_alloc | apply pw_below_drewN | apply below_drew1) | exact HB.out)) hb); have n2_ := Aside0.mk (hbox); have n3_ := Aside0.mk ((by rw [hg]; exact (below_size (by repeat (first | (with_reducible first | exact HB.out | apply below_alloc | apply pw_below_drewN | apply below_drew1) | exact HB.out))) : w.heap.size ≤ gb390)); have n4_ := Aside0.mk ((by rw [hg]; exact (below_size (by repeat (first | (with_reducible first | exact HB.out | apply below_alloc | apply pw_below_drewN | apply below_drew1) | exact HB.out))) : w.heap.size ≤ gb390)); clear HO_7; clear HB; have HO_7 := n0_; have HB := n1_; have BK390 := n2_; have GW390 := n3_; have GE390 := n4_; clear n0_ n1_ n2_ n3_ n4_; clear hb hbox hg; have hcz19_0 : w18.cell? ⟨gb390, 0, none⟩ = some (.string (⟨#[]⟩ : ByteArray)) := (blk_cell BK390.out 0).trans rfl; have hcz19_1 : w18.cell? ⟨gb390, 1, none⟩ = some (.bool false) := (blk_cell BK390.out 1).trans rfl; have hcz19_2 : w18.cell? ⟨gb390, 2, none⟩ = some (.string (⟨#[]⟩ : ByteArray)) := (blk_cell BK390.out 2).trans rfl; have hfz19_0 := blk_frozen BK390.out 0; have hfz19_1 := blk_frozen BK390.out 1; have hfz19_2 := blk_frozen BK390.out 2))
                    go_roundg k1
                    case measure => have := HK1.out; omega
                    case rel => exact ⟨((rd_T39 l1 x36_1).f2), (0), (wrap64 (x36_1 + 1)), (by first | rfl | (simp; done) | (simp [*]; done)), (by first | rfl | (simp; done) | (simp [*]; done)), (by first | rfl | (simp; done) | (simp [*]; done)), H', ⟨by have := HK1.out; omega⟩, ⟨by (with_reducible repeat (first | apply Kd.R_alloc | apply Kd.R_drewN | apply Kd.R_drew)); exact Kd.R_mono (Kd.R_far (p := ⟨gb390, 2, none⟩) (Kd.R_far (p := ⟨gb390, 1, none⟩) (Kd.R_far (p := ⟨gb390, 0, none⟩) (Kd.R_types HO_7.out BK390.out (by decide)) (fun _ hk => hk.2) (.string ((rd_T39 l1 x36_1).f0))) (fun _ hk => hk.2) (.bool true)) (fun _ hk => hk.2) (.string ((rd_T39 l1 x36_1).f2))) (fun _ hk => trivial)⟩, ⟨by repeat (first | (with_reducible first | exact HB.out | apply below_alloc | apply pw_below_drewN | apply below_drew1 | refine below_set ?_ GE390.out) | exact HB.out)⟩⟩
                  · replace c17 := Bool.eq_false_iff.mpr c17
                    subst c17
                    have H1 : (cambiumlaw04_ItemLast.l0 k1 a2 t380 ((rd_T39 l1 x36_1).f2) 5 l1 (l1.length : Int) (wrap64 (x36_1 + 1))) = some r := by rw [if_neg (show ¬ (false = true) by decide)] at H; exact H
                    clear H
                    have H := H1
                    clear H1
                    have H' := Aside0.mk H
                    clear H
                    have p389 : 0 ≤ (x36_1 : Int) := of_decide_eq_true (by first | (with_reducible assumption) | assumption)
                    have q389 : x36_1 < (l1.length : Int) := of_decide_eq_true (by first | (with_reducible assumption) | assumption)
                    obtain ⟨ad389, e389, hx389_0, hx389_1, hx389_2⟩ := at_T39 HR1.out x36_1 p389 q389
                    (try rw [← Nbq16.out] at hx389_1)
                    cases e389
                    replace hx389_0 := (HB.out.cell (World.block_lt_of_cell? w _ hx389_0)).trans hx389_0
                    replace hx389_1 := (HB.out.cell (World.block_lt_of_cell? w _ hx389_1)).trans hx389_1
                    replace hx389_2 := (HB.out.cell (World.block_lt_of_cell? w _ hx389_2)).trans hx389_2
                    replace p389 := eq_true p389
                    replace q389 := eq_true q389
                    go_wp2_with (first | ((with_reducible refine gate_dst (N := 12) rfl ?_); refine box_event ?hg (N := 12) ?hd (cs := #[.string (⟨#[]⟩ : ByteArray), .bool false, .string (⟨#[]⟩ : ByteArray)]) (t := 39) ?hr ?_; (case hd => rfl); (case hg => rfl); (case hr => first | (go_simp; done) | (go_simp; rfl)); intro gb390 hg w20 hbox hb; have n0_ := Aside0.mk (Kd.R_below (by (with_reducible repeat (first | apply Kd.R_alloc | apply Kd.R_drewN | apply Kd.R_drew)); exact HO_7.out) hb); have n1_ := Aside0.mk (below_step (by repeat (first | (with_reducible first | exact HB.out | apply below_alloc | apply pw_below_drewN | apply below_drew1) | exact HB.out)) hb); have n2_ := Aside0.mk (hbox); have n3_ := Aside0.mk ((by rw [hg]; exact (below_size (by repeat (first | (with_reducible first | exact HB.out | apply below_alloc | apply pw_below_drewN | apply below_drew1) | exact HB.out))) : w.heap.size ≤ gb390)); have n4_ := Aside0.mk ((by rw [hg]; exact (below_size (by repeat (first | (with_reducible first | exact HB.out | apply below_alloc | apply pw_below_drewN | apply below_drew1) | exact HB.out))) : w.heap.size ≤ gb390)); clear HO_7; clear HB; have HO_7 := n0_; have HB := n1_; have BK390 := n2_; have GW390 := n3_; have GE390 := n4_; clear n0_ n1_ n2_ n3_ n4_; clear hb hbox hg; have hcz21_0 : w20.cell? ⟨gb390, 0, none⟩ = some (.string (⟨#[]⟩ : ByteArray)) := (blk_cell BK390.out 0).trans rfl; have hcz21_1 : w20.cell? ⟨gb390, 1, none⟩ = some (.bool false) := (blk_cell BK390.out 1).trans rfl; have hcz21_2 : w20.cell? ⟨gb390, 2, none⟩ = some (.string (⟨#[]⟩ : ByteArray)) := (blk_cell BK390.out 2).trans rfl; have hfz21_0 := blk_frozen BK390.out 0; have hfz21_1 := blk_frozen BK390.out 1; have hfz21_2 := blk_frozen BK390.out 2))
                    go_roundg k1
                    case measure => have := HK1.out; omega
                    case rel => exact ⟨((rd_T39 l1 x36_1).f2), (5), (wrap64 (x36_1 + 1)), (by first | rfl | (simp; done) | (simp [*]; done)), (by first | rfl | (simp; done) | (simp [*]; done)), (by first | rfl | (simp; done) | (simp [*]; done)), H', ⟨by have := HK1.out; omega⟩, ⟨by (with_reducible repeat (first | apply Kd.R_alloc | apply Kd.R_drewN | apply Kd.R_drew)); exact Kd.R_mono (Kd.R_far (p := ⟨gb390, 2, none⟩) (Kd.R_far (p := ⟨gb390, 1, none⟩) (Kd.R_far (p := ⟨gb390, 0, none⟩) (Kd.R_types HO_7.out BK390.out (by decide)) (fun _ hk => hk.2) (.string ((rd_T39 l1 x36_1).f0))) (fun _ hk => hk.2) (.bool false)) (fun _ hk => hk.2) (.string ((rd_T39 l1 x36_1).f2))) (fun _ hk => trivial)⟩, ⟨by repeat (first | (with_reducible first | exact HB.out | apply below_alloc | apply pw_below_drewN | apply below_drew1 | refine below_set ?_ GE390.out) | exact HB.out)⟩⟩
                · rw [if_neg c15] at H
                  have c15b0 : (((rd_T39 l1 x36_1).f0).toList == a2.toList) = false := beq_eq_false_iff_ne.mpr c15
                  have c15b1 : (((rd_T39 l1 x36_1).f0).toList != a2.toList) = true := bne_iff_ne.mpr c15
                  have H' := Aside0.mk H
                  clear H
                  have p389 : 0 ≤ (x36_1 : Int) := of_decide_eq_true (by first | (with_reducible assumption) | assumption)
                  have q389 : x36_1 < (l1.length : Int) := of_decide_eq_true (by first | (with_reducible assumption) | assumption)
                  obtain ⟨ad389, e389, hx389_0, hx389_1, hx389_2⟩ := at_T39 HR1.out x36_1 p389 q389
                  cases e389
                  replace hx389_0 := (HB.out.cell (World.block_lt_of_cell? w _ hx389_0)).trans hx389_0
                  replace hx389_1 := (HB.out.cell (World.block_lt_of_cell? w _ hx389_1)).trans hx389_1
                  replace hx389_2 := (HB.out.cell (World.block_lt_of_cell? w _ hx389_2)).trans hx389_2
                  replace p389 := eq_true p389
                  replace q389 := eq_true q389
                  go_wp2_with (first | ((with_reducible refine gate_dst (N := 12) rfl ?_); refine box_event ?hg (N := 12) ?hd (cs := #[.string (⟨#[]⟩ : ByteArray), .bool false, .string (⟨#[]⟩ : ByteArray)]) (t := 39) ?hr ?_; (case hd => rfl); (case hg => rfl); (case hr => first | (go_simp; done) | (go_simp; rfl)); intro gb390 hg w22 hbox hb; have n0_ := Aside0.mk (Kd.R_below (by (with_reducible repeat (first | apply Kd.R_alloc | apply Kd.R_drewN | apply Kd.R_drew)); exact HO_7.out) hb); have n1_ := Aside0.mk (below_step (by repeat (first | (with_reducible first | exact HB.out | apply below_alloc | apply pw_below_drewN | apply below_drew1) | exact HB.out)) hb); have n2_ := Aside0.mk (hbox); have n3_ := Aside0.mk ((by rw [hg]; exact (below_size (by repeat (first | (with_reducible first | exact HB.out | apply below_alloc | apply pw_below_drewN | apply below_drew1) | exact HB.out))) : w.heap.size ≤ gb390)); have n4_ := Aside0.mk ((by rw [hg]; exact (below_size (by repeat (first | (with_reducible first | exact HB.out | apply below_alloc | apply pw_below_drewN | apply below_drew1) | exact HB.out))) : w.heap.size ≤ gb390)); clear HO_7; clear HB; have HO_7 := n0_; have HB := n1_; have BK390 := n2_; have GW390 := n3_; have GE390 := n4_; clear n0_ n1_ n2_ n3_ n4_; clear hb hbox hg; have hcz23_0 : w22.cell? ⟨gb390, 0, none⟩ = some (.string (⟨#[]⟩ : ByteArray)) := (blk_cell BK390.out 0).trans rfl; have hcz23_1 : w22.cell? ⟨gb390, 1, none⟩ = some (.bool false) := (blk_cell BK390.out 1).trans rfl; have hcz23_2 : w22.cell? ⟨gb390, 2, none⟩ = some (.string (⟨#[]⟩ : ByteArray)) := (blk_cell BK390.out 2).trans rfl; have hfz23_0 := blk_frozen BK390.out 0; have hfz23_1 := blk_frozen BK390.out 1; have hfz23_2 := blk_frozen BK390.out 2))
                  go_roundg k1
                  case measure => have := HK1.out; omega
                  case rel => exact ⟨(x9_1), (x10_1), (wrap64 (x36_1 + 1)), (by first | rfl | (simp; done) | (simp [*]; done)), (by first | rfl | (simp; done) | (simp [*]; done)), (by first | rfl | (simp; done) | (simp [*]; done)), H', ⟨by have := HK1.out; omega⟩, ⟨by (with_reducible repeat (first | apply Kd.R_alloc | apply Kd.R_drewN | apply Kd.R_drew)); exact Kd.R_mono (Kd.R_far (p := ⟨gb390, 2, none⟩) (Kd.R_far (p := ⟨gb390, 1, none⟩) (Kd.R_far (p := ⟨gb390, 0, none⟩) (Kd.R_types HO_7.out BK390.out (by decide)) (fun _ hk => hk.2) (.string ((rd_T39 l1 x36_1).f0))) (fun _ hk => hk.2) (.bool ((rd_T39 l1 x36_1).f1))) (fun _ hk => hk.2) (.string ((rd_T39 l1 x36_1).f2))) (fun _ hk => trivial)⟩, ⟨by repeat (first | (with_reducible first | exact HB.out | apply below_alloc | apply pw_below_drewN | apply below_drew1 | refine below_set ?_ GE390.out) | exact HB.out)⟩⟩
              · rw [if_neg c14] at H
                exact absurd H (by simp)
            · rw [if_neg c13] at H
              exact absurd H (by simp)
          · rw [if_neg c12] at H
            have c12b0 : decide (x36_1 < (l1.length : Int)) = false := decide_eq_false c12
            clear c12
            replace H := Option.bind_eq_some_iff.mp H
            obtain ⟨⟨t386, t387⟩, A240, H⟩ := H
            replace H : (if x9_1.toList = t386.toList then (if x10_1 = t387 then ((item_Check.f k1 t380).bind fun t388 => (some (t388 == 0))) else (some false)) else (some false)) = some r := H
            have A24 := Aside0.mk A240
            clear A240
            by_cases c25 : x9_1.toList = t386.toList
            · rw [if_pos c25] at H
              have c25b0 : (x9_1.toList == t386.toList) = true := beq_iff_eq.mpr c25
              have c25b1 : (x9_1.toList != t386.toList) = false := bne_eq_false_iff_eq.mpr c25
              clear c25
              by_cases c26 : x10_1 = t387
              · rw [if_pos c26] at H
                have c26b0 : (x10_1 == t387) = true := beq_iff_eq.mpr c26
                have c26b1 : (x10_1 != t387) = false := bne_eq_false_iff_eq.mpr c26
                clear c26
                replace H := Option.bind_eq_some_iff.mp H
                obtain ⟨t388, A270, H⟩ := H
                replace H : (some (t388 == 0)) = some r := H
                have A27 := Aside0.mk A270
                clear A270
                obtain rfl := Option.some.inj H
                obtain ⟨Ao28, co28, eo28⟩ := Kd.R_slice HO_7.out
                subst eo28
                go_wp2_with (first | ((with_reducible refine gate_callee (f := 12) rfl ?_); refine goesL_ (some 53) rfl rfl Try.func12 (by kernel_rfl) rfl #[.slice Ao28 t380.length co28, .string a2] rfl (by (try simp only [List.map_toArray, List.map_cons, List.map_nil]); first | done | rfl | (simp only [List.length_drop, List.length_take]; rfl)) ?_; (with_reducible refine (item_Get.calls k1 _ _ t380 a2 t386 t387 _ ?side1 ?side2 A24.out).mono ?_); (case side1 => repeat (first | exact (Kd.R_reads' HO_7.out).2.2 | (with_reducible refine Kd.C_alloc ?_ _) | (with_reducible refine Kd.C_drewN ?_ _) | (with_reducible refine Kd.C_drew ?_))); (case side2 => exact (Kd.R_reads' HO_7.out).2.1); rintro e w29 ⟨rfl, hb⟩; refine ⟨_, rfl, ?_⟩; have n0_ := Aside0.mk (Kd.R_below (by (with_reducible repeat (first | apply Kd.R_alloc | apply Kd.R_drewN | apply Kd.R_drew)); exact HO_7.out) hb); have n1_ := Aside0.mk (below_step (by repeat (first | (with_reducible first | exact HB.out | apply below_alloc | apply pw_below_drewN | apply below_drew1) | exact HB.out)) hb); clear HO_7; clear HB; have HO_7 := n0_; have HB := n1_; clear n0_ n1_; (try clear hb); (try clear hb2); (try clear hk); (try clear hi)) | (go_at_call 18; (with_reducible refine (item_Check.calls k1 _ _ t380 t388 _ ?side1 ?side2 A27.out).mono ?_); (case side1 => repeat (first | exact (Kd.R_reads' HO_7.out).2.2 | (with_reducible refine Kd.C_alloc ?_ _) | (with_reducible refine Kd.C_drewN ?_ _) | (with_reducible refine Kd.C_drew ?_))); (case side2 => exact (Kd.R_reads' HO_7.out).2.1); rintro e w30 ⟨rfl, hb⟩; have n0_ := Aside0.mk (Kd.R_below (by (with_reducible repeat (first | apply Kd.R_alloc | apply Kd.R_drewN | apply Kd.R_drew)); exact HO_7.out) hb); have n1_ := Aside0.mk (below_step (by repeat (first | (with_reducible first | exact HB.out | apply below_alloc | apply pw_below_drewN | apply below_drew1) | exact HB.out)) hb); clear HO_7; clear HB; have HO_7 := n0_; have HB := n1_; clear n0_ n1_; (try clear hb); (try clear hb2); (try clear hk); (try clear hi)))
                go_ret
                exact ⟨by first | rfl | (simp [errW_none, errW_some] <;> rfl) | (simp [*, errW_none, errW_some] <;> rfl), by repeat (first | (with_reducible first | exact HB.out | apply below_alloc | apply pw_below_drewN | apply below_drew1) | exact HB.out)⟩
              · rw [if_neg c26] at H
                have c26b0 : (x10_1 == t387) = false := beq_eq_false_iff_ne.mpr c26
                have c26b1 : (x10_1 != t387) = true := bne_iff_ne.mpr c26
                exact absurd ((Option.some.inj H).trans HT_.out) (by simp)
            · rw [if_neg c25] at H
              have c25b0 : (x9_1.toList == t386.toList) = false := beq_eq_false_iff_ne.mpr c25
              have c25b1 : (x9_1.toList != t386.toList) = true := bne_iff_ne.mpr c25
              exact absurd ((Option.some.inj H).trans HT_.out) (by simp)
    · rw [if_neg c7] at H
      have c7b0 : (t381 == 0) = false := beq_eq_false_iff_ne.mpr c7
      have c7b1 : (t381 != 0) = true := bne_iff_ne.mpr c7
      obtain rfl := Option.some.inj H
      go_enter Try.func6, Try.ntmps6
      go_wp2_with (first | ((with_reducible refine gate_callee (f := 16) rfl ?_); refine goesL_ (some 15) rfl rfl Try.func16 (by kernel_rfl) rfl #[] rfl (by (try simp only [List.map_toArray, List.map_cons, List.map_nil]); first | done | rfl | (simp only [List.length_drop, List.length_take]; rfl)) ?_; (with_reducible refine (cambiumlaw04_lives.calls k  true _ A4.out).mono ?_); rintro e w31 ⟨rfl, hb⟩; refine ⟨_, rfl, ?_⟩; have n0_ := Aside0.mk (below_step (by repeat (first | (with_reducible first | exact HB.out | apply below_alloc | apply pw_below_drewN | apply below_drew1) | exact HB.out)) hb); clear HB; have HB := n0_; clear n0_; (try clear hb); (try clear hb2); (try clear hk); (try clear hi)) | ((with_reducible refine gate_callee (f := 20) rfl ?_); refine goesL_ (some 20) rfl rfl Try.func20 (by kernel_rfl) rfl #[.slice A0 l0.length c0, .slice A1 l1.length c1] rfl (by (try simp only [List.map_toArray, List.map_cons, List.map_nil]); first | done | rfl | (simp only [List.length_drop, List.length_take]; rfl)) ?_; (with_reducible refine (item_Apply.calls k _ _ l0 _ _ l1 t380 t381 _ ?side1 ?side2 ?side3 ?side4 A6.out).mono ?_); (case side1 => repeat (first | exact (Kd.C_below HR0.out HB.out) | (with_reducible refine Kd.C_alloc ?_ _) | (with_reducible refine Kd.C_drewN ?_ _) | (with_reducible refine Kd.C_drew ?_))); (case side2 => exact HC0.out); (case side3 => repeat (first | exact (Kd.C_below HR1.out HB.out) | (with_reducible refine Kd.C_alloc ?_ _) | (with_reducible refine Kd.C_drewN ?_ _) | (with_reducible refine Kd.C_drew ?_))); (case side4 => exact HC1.out); rintro e w32 ⟨v382, rfl, ho0, hb⟩; refine ⟨_, rfl, ?_⟩; have n0_ := Aside0.mk (Kd.R_lower ho0 (below_size (by repeat (first | (with_reducible first | exact HB.out | apply below_alloc | apply pw_below_drewN | apply below_drew1) | exact HB.out)))); have n1_ := Aside0.mk (below_step (by repeat (first | (with_reducible first | exact HB.out | apply below_alloc | apply pw_below_drewN | apply below_drew1) | exact HB.out)) hb); clear HB; have HO383 := n0_; have HB := n1_; clear n0_ n1_; (try clear hb); (try clear hb2); (try clear hk); (try clear hi); (try clear ho0); obtain ⟨Ao33, co33, eo33⟩ := Kd.R_slice HO383.out; subst eo33))
      go_ret
      exact ⟨by first | rfl | (simp [errW_none, errW_some] <;> rfl) | (simp [*, errW_none, errW_some] <;> rfl), by repeat (first | (with_reducible first | exact HB.out | apply below_alloc | apply pw_below_drewN | apply below_drew1) | exact HB.out)⟩
  · replace c5 := Bool.eq_false_iff.mpr c5
    subst c5
    have H1 : (some false) = some r := by rw [if_neg (show ¬ (false = true) by decide)] at H; exact H
    clear H
    have H := H1
    clear H1
    exact absurd ((Option.some.inj H).trans HT_.out) (by simp)

end Go.Proofs.Ytdahmaepfmcpbaa.Z
end

section
/- ItemLast, over lists: the law's function answers true. -/
namespace Go.Proofs.Ytdahmaepfmcpbaa.Pure
open Go.RowKit Go.Proofs.Ytdahmaepfmcpbaa Go.Proofs.Ytdahmaepfmcpbaa.Z Go.Proofs.YtdahmaepfmcpbaaW.PrintWords
set_option linter.unusedVariables false
set_option linter.unusedSimpArgs false
theorem sumI_ItemLast (l : List It) : l.length ≤ (l.map Z.B43).sum := by
  induction l with
  | nil => simp
  | cons x l ih => simp only [List.map_cons, List.sum_cons, List.length_cons]; unfold Z.B43 at *; omega
theorem sumC_ItemLast (l : List Ch) : l.length ≤ (l.map Z.B39).sum := by
  induction l with
  | nil => simp
  | cons x l ih => simp only [List.map_cons, List.sum_cons, List.length_cons]; unfold Z.B39 at *; omega
theorem ItemLast : ∀ (l0 : List (S43)) (l1 : List (S39)) (a2 : ByteArray), l0.length ≤ maxLen → (∀ x ∈ l0, Z.G43 x) → l1.length ≤ maxLen → (∀ x ∈ l1, Z.G39 x) → a2.size ≤ maxLen → ((l0.map Z.B43).sum + 1) + ((l1.map Z.B39).sum + 1) + (a2.size + 1) ≤ 1048576 → ∃ k, Z.cambiumlaw04_ItemLast.f k l0 l1 a2 = some true := by
  intro l cs a _ _ _ _ _ hs
  have h1 := sumI_ItemLast l
  have h2 := sumC_ItemLast cs
  refine Ev.rounds (g := fun k => Z.cambiumlaw04_ItemLast.f k l cs a) ?_
  unfold cambiumlaw04_ItemLast.f
  refine Ev.bind lives_f (Ev.ifp rfl (Ev.bind (itApply l cs (by omega)) ?_))
  unfold aplS
  by_cases ho : (okL l && okC cs) = true
  · rw [if_pos ho]
    rw [Bool.and_eq_true] at ho
    have hok := apl_ok ho.1 ho.2
    have hlen := apl_len cs l
    refine Ev.ifp rfl (Ev.bind (itGet l (by omega) a) ?_)
    have loop : ∀ e i : Nat, cs.length = i + e → ∀ r : List It, okL r = true → okC (cs.drop i) = true → apl r (cs.drop i) = apl l cs → Ev (fun k => Z.cambiumlaw04_ItemLast.l0 k a (apl l cs) (getS r a.toList).1 (getS r a.toList).2 cs (cs.length : Int) (i : Int)) true := by
      intro e
      induction e with
      | zero =>
        intro i hi r hr hoc hm
        rw [List.drop_of_length_le (by omega)] at hm
        have hm : r = apl l cs := hm
        refine Ev.step (fun k => by rw [cambiumlaw04_ItemLast.l0]) (Ev.ifn (by omega) (Ev.bind (itGet _ (by omega) a) ?_))
        rw [← hm]
        refine Ev.ifp rfl (Ev.ifp rfl (Ev.bind (itCheck r (by rw [hm]; omega)) (Ev.const ?_)))
        rw [hr]; rfl
      | succ e ih =>
        intro i hi r hr hoc hm
        have hlt : i < cs.length := by omega
        have ha := ((okL_iff r).1 hr).2
        rw [List.drop_eq_getElem_cons hlt] at hoc hm
        unfold okC at hoc
        rw [List.all_cons, Bool.and_eq_true] at hoc
        have ih := ih (i + 1) (by omega) (put r cs[i]) (put_ok hr hoc.1) hoc.2 hm
        have hput := put_ok hr hoc.1
        have hg : getS (put r cs[i]) a.toList = if ck cs[i] = a.toList then (if (cs[i]).f1 = true then ((cs[i]).f2, 0) else ((cs[i]).f2, 5)) else getS r a.toList := by
          unfold getS
          rw [if_pos hput, if_pos hr, look_put ha]
          by_cases hk : ck cs[i] = a.toList
          · rw [if_pos hk, if_pos hk]
            cases hf : (cs[i]).f1 with
            | true => rfl
            | false =>
              have := hoc.1
              unfold okc at this
              rw [hf] at this
              simp only [Bool.and_eq_true, Bool.false_or, decide_eq_true_eq] at this
              have e0 : (⟨#[]⟩ : ByteArray).toList = [] := by rw [ByteArray.toList_eq]
              have : (cs[i]).f2 = ⟨#[]⟩ := bytes_inj (by rw [this.2, e0])
              rw [this]; rfl
          · rw [if_neg hk, if_neg hk]
        refine Ev.step (fun k => by rw [cambiumlaw04_ItemLast.l0]) (Ev.ifp (by omega) (Ev.ifp (by omega) (Ev.ifp (by omega) ?_)))
        rw [rdc_get cs i hlt, w64 (by omega) (by omega)]
        rw [hg] at ih
        refine Ev.ite (fun h => ?_) (fun h => ?_)
        · rw [if_pos h] at ih
          refine Ev.ite (fun hf => ?_) (fun hf => ?_)
          · rw [if_pos hf] at ih; exact ih
          · rw [if_neg hf] at ih; exact ih
        · rw [if_neg h] at ih; exact ih
    exact loop cs.length 0 (by omega) l ho.1 (by simpa using ho.2) rfl
  · rw [if_neg ho]
    exact Ev.ifn (by decide) (Ev.const rfl)
end Go.Proofs.Ytdahmaepfmcpbaa.Pure
end

section
/- cambium/cambiumlaw04.ItemLast: at every input the law's function returns true, and each argument reads afterwards as before. Conditions: none beyond the row's own, and that the arguments are of bulk at most 1048576. Printed by a program of this session (mp.py) over the pure statement in YtdahmaepfmcpbaaPureItemLast. -/
namespace Go.Proofs.Ytdahmaepfmcpbaa.itemLast
open Go.ChangeShapes Go.WideShapes Go.ChangeAt Go.RowKit
open Go.ChangeMaps (open_string shut_string)
set_option linter.unusedVariables false
set_option linter.unusedSimpArgs false
theorem own : ownKnob Try.prog.godebug = none := by kernel_rfl
theorem laidOut : laidOutB Try.prog = true := by kernel_rfl
set_option maxHeartbeats 1000000 in
set_option maxRecDepth 100000 in
theorem lifted (os : Os) (started : os.Started) (H : Type) (enc : TypeId × Value → H) (F : Stop.Interp) :
    ReturnsInHanded {} Try.checked os 6 .any ((Rows.OpenSpec.upto Rows.itemLastSpec).pre6 enc Try.prog Try.f6 Rows.itemLastUptoRow.domain false) (((Rows.OpenSpec.upto Rows.itemLastSpec).at F).post enc Try.prog Try.f6 false true false false) := by
  refine returnsInHanded_of_cond_sized (C := Try.checked) (s := Rows.OpenSpec.upto Rows.itemLastSpec) (k := Rows.uptoSmall) rfl own started (by kernel_rfl) Try.func6
    (OpenSpec.witness (enc := enc) (C := Try.checked) (s := Rows.OpenSpec.upto Rows.itemLastSpec) (k := Rows.uptoSmall) rfl false ⟨#[], #[.slice none 0 0, .slice none 0 0, .string ByteArray.empty], []⟩ 8 (by kernel_rfl) (by kernel_rfl) (by kernel_rfl)
      (x := ([.nil, .nil, .lit (.string [])], [], [])) (by kernel_rfl) rfl (by kernel_rfl)) ?_
  intro W base args ds gs before hval0 hW hcnd hk0 hwz_ _
  have hsz : (DataW.weightsEach Try.prog (Try.f6.params.toList ++ Rows.itemLastSpec.plain.varTypes Try.prog) (ds ++ gs)).all (· ≤ reachBytes) = true := hwz_
  have hval : ∀ (j : Nat) t v, Try.f6.params[j]? = some t → args[j]? = some v → Value.okWide Try.prog W .any base t v := hval0
  have hW' := hW
  obtain ⟨p, q, hA0, hV, rfl, hfz, hnd⟩ := hW
  have hA : DataW.TrodAll enc Try.prog W 0 (fun _ => true) true Try.f6.params.toList args.toList ds p := hA0
  rw [Try.params6] at hA hval hsz
  obtain ⟨v0, vs0, d0, ds0, p0, q0, hargs, rfl, rfl, h0, r0⟩ := trodAll_cons hA
  obtain ⟨v1, vs1, d1, ds1, p1, q1, rfl, rfl, rfl, h1, r1⟩ := trodAll_cons r0
  obtain ⟨v2, vs2, d2, ds2, p2, q2, rfl, rfl, rfl, h2, r2⟩ := trodAll_cons r1
  obtain ⟨rfl, rfl, rfl⟩ := trodAll_nil r2
  obtain rfl : args = #[v0, v1, v2] := by cases args; simp_all
  obtain ⟨rfl, rfl⟩ := trodVars_none hV
  have k0 := h0
  have lt0 : ∀ x ∈ p0, x.block < W.heap.size := by obtain ⟨m, hm⟩ := k0; exact DataW.trod_lt m _ _ _ hm
  obtain ⟨a0, len0, cap0, rfl⟩ := okWide_slice Try.underlying22 (hval 0 22 v0 rfl rfl)
  obtain ⟨fuel0, hf0⟩ := h0
  obtain ⟨A0, c0, l0, hcs0, hlc0, hcm0, hC0, hG0, hB0, hx0⟩ := Z.Opens.row Try.underlying22 Z.opens43 (of_decide_eq_true (by kernel_rfl)) hf0
  simp only [Value.cells, List.cons.injEq, Value.slice.injEq, and_true] at hcs0
  obtain ⟨rfl, rfl, rfl⟩ := hcs0
  have hlm0 : l0.length ≤ maxLen := Nat.le_trans hlc0 hcm0
  have k1 := h1
  have lt1 : ∀ x ∈ p1, x.block < W.heap.size := by obtain ⟨m, hm⟩ := k1; exact DataW.trod_lt m _ _ _ hm
  obtain ⟨a1, len1, cap1, rfl⟩ := okWide_slice Try.underlying32 (hval 1 32 v1 rfl rfl)
  obtain ⟨fuel1, hf1⟩ := h1
  obtain ⟨A1, c1, l1, hcs1, hlc1, hcm1, hC1, hG1, hB1, hx1⟩ := Z.Opens.row Try.underlying32 Z.opens39 (of_decide_eq_true (by kernel_rfl)) hf1
  simp only [Value.cells, List.cons.injEq, Value.slice.injEq, and_true] at hcs1
  obtain ⟨rfl, rfl, rfl⟩ := hcs1
  have hlm1 : l1.length ≤ maxLen := Nat.le_trans hlc1 hcm1
  have k2 := h2
  have lt2 : ∀ x ∈ p2, x.block < W.heap.size := by obtain ⟨m, hm⟩ := k2; exact DataW.trod_lt m _ _ _ hm
  obtain ⟨a2, rfl, rfl, rfl, y2⟩ := open_string Try.underlying9 (hval 2 9 v2 rfl rfl) h2
  have w2 := y2
  have hbk : ((l0.map Z.B43).sum + 1) + ((l1.map Z.B39).sum + 1) + (a2.size + 1) ≤ 1048576 := by
    have hb_ := of_decide_eq_true hk0
    simp only [Rows.uptoBulkAll, Rows.uptoBulk, List.append_nil, Array.length_toList, List.map_cons, List.map_nil] at hb_
    (try simp only [show ∀ s : ByteArray, s.data.size = s.size from fun _ => rfl] at hb_)
    (try dsimp only at hB0)
    (try dsimp only at hB1)
    omega
  have hP := Pure.ItemLast l0 l1 a2 hlm0 hG0 hlm1 hG1 w2 hbk
  obtain ⟨k, hk⟩ := hP
  refine (Z.cambiumlaw04_ItemLast.calls k _ _ l0 _ _ l1 a2 true W hC0 hlc0 hC1 hlc1 hk).mono fun e W' ⟨he, bel0⟩ => ?_
  have bel : Below W.heap.size W W' := bel0
  subst he
  exact ⟨_, rfl, _, _, _, [], _, [], hW', trodAll_mk1 (shut_bool Try.underlying4 _), (trodAll_cons_mk (Below.trod laidOut (by kernel_rfl) (of_decide_eq_true (by kernel_rfl)) k0 bel lt0) (trodAll_cons_mk (Below.trod laidOut (by kernel_rfl) (of_decide_eq_true (by kernel_rfl)) k1 bel lt1) (trodAll_cons_mk (Below.trod laidOut (by kernel_rfl) (of_decide_eq_true (by kernel_rfl)) k2 bel lt2) trodAll_mk0))), rfl, bel.frame _, fun h => by cases h⟩
theorem over : Rows.itemLastUptoRow.holds Try.pinned (Rows.OpenSpec.upto Rows.itemLastSpec) :=
  OpenClaim.holds_of_cond 6 Try.f6 rfl rfl rfl rfl rfl rfl rfl ⟨rfl, rfl, rfl, rfl, rfl⟩ rfl rfl rfl rfl rfl (by kernel_rfl) Try.func6 (by kernel_rfl)
    (of_decide_eq_true (by kernel_rfl)) (by unfold Func.isWrapper; first | (rw [if_pos (by decide +kernel)]; kernel_rfl) | (rw [if_neg (by decide +kernel)]; exact ⟨rfl, rfl⟩))
    (fun os started H enc _ F => lifted os started H enc F)
end Go.Proofs.Ytdahmaepfmcpbaa.itemLast
namespace Go.Proofs.Ytdahmaepfmcpbaa
theorem itemLast_holds : Rows.ItemLastUptoSaid := itemLast.over
#print axioms itemLast_holds
end Go.Proofs.Ytdahmaepfmcpbaa
end
