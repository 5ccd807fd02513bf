/- DevSafe: at every input the law's function returns true and leaves its arguments as they were; no condition beyond the row's own. Part 3 of 3: this session's own texts, laid together. -/
import Derived.Test.YtcphflfjhkeooaaDoorMB1
import Derived.Test.YtcphflfjhkeooaaDoorMB2
import Derived.Test.YtcphflfjhkeooaaDoorCards
import Derived.Test.YtcphflfjhkeooaaDoorTie
import Derived.Deep.DeepHandedRow
import Derived.WalkKit
import Derived.ProofKit
import Derived.OpenShut
import Derived.ShutString
import Derived.ChangeOld
import Derived.Below
import Derived.SizedLaws
import Derived.Carry
section
-- Printed by a program of this session (mp.py) out of the translation.
namespace Go.Proofs.YtcphflfjhkeooaaDoor.Z
open Go.RowKit Go.Proofs.YtcphflfjhkeooaaDoorW.PrintWords Go.Proofs.YtcphflfjhkeooaaDoorW.PrintLast Go.Proofs.YtcphflfjhkeooaaDoorW.PrintMore
attribute [local go_sem] max2_int min2_int max_two min_two max_three min_three max_four min_four   -- for this text's walks alone
set_option linter.unusedVariables false
set_option linter.unusedSimpArgs false

/-! ### cambiumlaw03_DevSafe: function 4 -/
def cambiumlaw03_DevSafe.l0 : Nat → List Bool → Int → ByteArray → Int → List (S39) → Int → Int → Int → List (S39) → List (S39) → Bool → Int → Option (Bool)
  | 0, _, _, _, _, _, _, _, _, _, _, _, _ => none
  | k + 1, x2, x3, x10, x11, x33, x34, x35, x447000, x447001, x447002, x447003, x447004 => if x35 < x34 then (if 0 ≤ x35 then (if x35 < (x33.length : Int) then (if x35 < 40 then (if ((rd_T39 x33 x35).f0) = x3 then (cambiumlaw03_DevSafe.l0 k x2 x3 x10 x11 x33 x34 (wrap64 (x35 + 1)) x447000 x447001 x447002 x447003 x447004) else ((dev_Write.f k x447000 x447001 x447002 x447003 x447004 ((rd_T39 x33 x35).f0) ((rd_T39 x33 x35).f1)).bind fun bt462 => (cambiumlaw03_DevSafe.l0 k x2 x3 x10 x11 x33 x34 (wrap64 (x35 + 1)) bt462.1 bt462.2.1 bt462.2.2.1 bt462.2.2.2.1 bt462.2.2.2.2.1))) else (cambiumlaw03_DevSafe.l0 k x2 x3 x10 x11 x33 x34 (wrap64 (x35 + 1)) x447000 x447001 x447002 x447003 x447004)) else (none)) else (none)) else ((dev_Crash.f k x447000 x447001 x447002 x447003 x447004 x2).bind fun bt472 => ((dev_Read.f k bt472.1 bt472.2.1 bt472.2.2.1 bt472.2.2.2.1 bt472.2.2.2.2.1 x3).bind fun bt483 => (if bt472.2.2.2.2.2 = 0 then (if x11 = bt483.2 then (if x10.toList = bt483.1.toList then (if bt472.2.2.2.1 = true then (some false) else (some ((bt472.2.2.1.length : Int) == 0))) else (some false)) else (some false)) else (some false))))
def cambiumlaw03_DevSafe.f (k : Nat) (a0_0 : Int) (l0_1 : List (S39)) (l0_2 : List (S39)) (a0_3 : Bool) (a0_4 : Int) (l1 : List (S39)) (l2 : List Bool) (a3 : Int) : Option (Bool) := (cambiumlaw03_lives.f k).bind fun t447 => (if t447 = true then ((dev_Flush.f k a0_0 l0_1 l0_2 a0_3 a0_4).bind fun bt448 => (if bt448.2.2.2.2.2 = 0 then ((dev_Read.f k bt448.1 bt448.2.1 bt448.2.2.1 bt448.2.2.2.1 bt448.2.2.2.2.1 a3).bind fun bt458 => (cambiumlaw03_DevSafe.l0 k l2 a3 bt458.1 bt458.2 l1 (l1.length : Int) 0 bt448.1 bt448.2.1 bt448.2.2.1 bt448.2.2.2.1 bt448.2.2.2.2.1)) else (some true))) else (some false))
theorem cambiumlaw03_DevSafe.mono_l : ∀ k, (∀ y0 y1 y2 y3 y4 y5 y6 y7 y8 y9 y10 y11, LeO (cambiumlaw03_DevSafe.l0 k y0 y1 y2 y3 y4 y5 y6 y7 y8 y9 y10 y11) (cambiumlaw03_DevSafe.l0 (k + 1) y0 y1 y2 y3 y4 y5 y6 y7 y8 y9 y10 y11))
  | 0 => fun _ _ _ _ _ _ _ _ _ _ _ _ r h => by simp [cambiumlaw03_DevSafe.l0] at h
  | k + 1 => by
    have ih0 := cambiumlaw03_DevSafe.mono_l k
    · intro y0 y1 y2 y3 y4 y5 y6 y7 y8 y9 y10 y11
      unfold cambiumlaw03_DevSafe.l0
      repeat' first
      | (with_reducible exact ih0 _ _ _ _ _ _ _ _ _ _ _ _)
      | (with_reducible exact cambiumlaw03_lives.mono _)
      | (with_reducible exact dev_Crash.mono _ _ _ _ _ _ _)
      | (with_reducible exact dev_Flush.mono _ _ _ _ _ _)
      | (with_reducible exact dev_Read.mono _ _ _ _ _ _ _)
      | (with_reducible exact dev_Write.mono _ _ _ _ _ _ _ _)
      | (with_reducible exact LeO.refl _)
      | (with_reducible exact LeO.none _)
      | (with_reducible refine LeO.ite ?_ ?_)
      | (with_reducible refine LeO.bind ?_ (fun _ => ?_))
      | exact ih0 _ _ _ _ _ _ _ _ _ _ _ _
      | exact cambiumlaw03_lives.mono _
      | exact dev_Crash.mono _ _ _ _ _ _ _
      | exact dev_Flush.mono _ _ _ _ _ _
      | exact dev_Read.mono _ _ _ _ _ _ _
      | exact dev_Write.mono _ _ _ _ _ _ _ _
      | exact LeO.none _
      | refine LeO.ite ?_ ?_
      | refine LeO.bind ?_ (fun _ => ?_)
theorem cambiumlaw03_DevSafe.mono : ∀ a0 a1 a2 a3 a4 a5 a6 a7 k, LeO (cambiumlaw03_DevSafe.f k a0 a1 a2 a3 a4 a5 a6 a7) (cambiumlaw03_DevSafe.f (k + 1) a0 a1 a2 a3 a4 a5 a6 a7) := by
  intro a0 a1 a2 a3 a4 a5 a6 a7 k
  have ih0 := cambiumlaw03_DevSafe.mono_l k
  unfold cambiumlaw03_DevSafe.f
  repeat' first
      | (with_reducible exact ih0 _ _ _ _ _ _ _ _ _ _ _ _)
      | (with_reducible exact cambiumlaw03_lives.mono _)
      | (with_reducible exact dev_Crash.mono _ _ _ _ _ _ _)
      | (with_reducible exact dev_Flush.mono _ _ _ _ _ _)
      | (with_reducible exact dev_Read.mono _ _ _ _ _ _ _)
      | (with_reducible exact dev_Write.mono _ _ _ _ _ _ _ _)
      | (with_reducible exact LeO.refl _)
      | (with_reducible exact LeO.none _)
      | (with_reducible refine LeO.ite ?_ ?_)
      | (with_reducible refine LeO.bind ?_ (fun _ => ?_))
      | exact ih0 _ _ _ _ _ _ _ _ _ _ _ _
      | exact cambiumlaw03_lives.mono _
      | exact dev_Crash.mono _ _ _ _ _ _ _
      | exact dev_Flush.mono _ _ _ _ _ _
      | exact dev_Read.mono _ _ _ _ _ _ _
      | exact dev_Write.mono _ _ _ _ _ _ _ _
      | exact LeO.none _
      | refine LeO.ite ?_ ?_
      | refine LeO.bind ?_ (fun _ => ?_)
set_option maxHeartbeats 8000000 in
set_option maxRecDepth 100000 in
theorem cambiumlaw03_DevSafe.calls (k : Nat) (a0_0 : Int) (A0_1 : Option Addr) (c0_1 : Nat) (l0_1 : List (S39)) (A0_2 : Option Addr) (c0_2 : Nat) (l0_2 : List (S39)) (a0_3 : Bool) (a0_4 : Int) (A1 : Option Addr) (c1 : Nat) (l1 : List (S39)) (A2 : Option Addr) (c2 : Nat) (l2 : List Bool) (a3 : Int) (r : Bool) (w : World) (hr0_1 : Kd.C k39 w A0_1 l0_1.length l0_1) (hc0_1 : l0_1.length ≤ c0_1) (hr0_2 : Kd.C k39 w A0_2 l0_2.length l0_2) (hc0_2 : l0_2.length ≤ c0_2) (hr1 : Kd.C k39 w A1 l1.length l1) (hc1 : l1.length ≤ c1) (hr2 : Kd.C Kd.bool w A2 l2.length l2) (hc2 : l2.length ≤ c2) (h : cambiumlaw03_DevSafe.f k a0_0 l0_1 l0_2 a0_3 a0_4 l1 l2 a3 = some r) (hT_ : r = true := by rfl) :
    Calls Tryd.prog 4 #[.agg #[.int .u32 a0_0, .slice A0_1 l0_1.length c0_1, .slice A0_2 l0_2.length c0_2, .bool a0_3, .int .i64 a0_4], .slice A1 l1.length c1, .slice A2 l2.length c2, .int .u32 a3] w fun e w' => e = .returned (.bool r) ∧ Below w.heap.size w w' := by
  have HT_ := Aside0.mk hT_
  clear hT_
  have hu25 := Tryd.underlying25
  have hu39 := Tryd.underlying39
  have HR0_1 := Aside0.mk hr0_1
  have HC0_1 := Aside0.mk hc0_1
  clear hr0_1 hc0_1
  have HR0_2 := Aside0.mk hr0_2
  have HC0_2 := Aside0.mk hc0_2
  clear hr0_2 hc0_2
  have HR1 := Aside0.mk hr1
  have HC1 := Aside0.mk hc1
  clear hr1 hc1
  have HR2 := Aside0.mk hr2
  have HC2 := Aside0.mk hc2
  clear hr2 hc2
  have HB := Aside0.mk (Below.refl w.heap.size w)
  have H : ((cambiumlaw03_lives.f k).bind fun t447 => (if t447 = true then ((dev_Flush.f k a0_0 l0_1 l0_2 a0_3 a0_4).bind fun bt448 => (if bt448.2.2.2.2.2 = 0 then ((dev_Read.f k bt448.1 bt448.2.1 bt448.2.2.1 bt448.2.2.2.1 bt448.2.2.2.2.1 a3).bind fun bt458 => (cambiumlaw03_DevSafe.l0 k l2 a3 bt458.1 bt458.2 l1 (l1.length : Int) 0 bt448.1 bt448.2.1 bt448.2.2.1 bt448.2.2.2.1 bt448.2.2.2.2.1)) else (some true))) else (some false))) = some r := h
  clear h
  replace H := Option.bind_eq_some_iff.mp H
  obtain ⟨t447, A50, H⟩ := H
  replace H : (if t447 = true then ((dev_Flush.f k a0_0 l0_1 l0_2 a0_3 a0_4).bind fun bt448 => (if bt448.2.2.2.2.2 = 0 then ((dev_Read.f k bt448.1 bt448.2.1 bt448.2.2.1 bt448.2.2.2.1 bt448.2.2.2.2.1 a3).bind fun bt458 => (cambiumlaw03_DevSafe.l0 k l2 a3 bt458.1 bt458.2 l1 (l1.length : Int) 0 bt448.1 bt448.2.1 bt448.2.2.1 bt448.2.2.2.1 bt448.2.2.2.2.1)) else (some true))) else (some false)) = some r := H
  have A5 := Aside0.mk A50
  clear A50
  by_cases c6 : t447 = true
  · subst c6
    have H1 : ((dev_Flush.f k a0_0 l0_1 l0_2 a0_3 a0_4).bind fun bt448 => (if bt448.2.2.2.2.2 = 0 then ((dev_Read.f k bt448.1 bt448.2.1 bt448.2.2.1 bt448.2.2.2.1 bt448.2.2.2.2.1 a3).bind fun bt458 => (cambiumlaw03_DevSafe.l0 k l2 a3 bt458.1 bt458.2 l1 (l1.length : Int) 0 bt448.1 bt448.2.1 bt448.2.2.1 bt448.2.2.2.1 bt448.2.2.2.2.1)) else (some true))) = some r := by rw [if_pos rfl] at H; exact H
    clear H
    have H := H1
    clear H1
    replace H := Option.bind_eq_some_iff.mp H
    obtain ⟨⟨t448, t449, t452, t455, t456, t457⟩, A70, H⟩ := H
    replace H : (if t457 = 0 then ((dev_Read.f k t448 t449 t452 t455 t456 a3).bind fun bt458 => (cambiumlaw03_DevSafe.l0 k l2 a3 bt458.1 bt458.2 l1 (l1.length : Int) 0 t448 t449 t452 t455 t456)) else (some true)) = some r := H
    have A7 := Aside0.mk A70
    clear A70
    by_cases c8 : t457 = 0
    · rw [if_pos c8] at H
      have c8b0 : (t457 == 0) = true := beq_iff_eq.mpr c8
      have c8b1 : (t457 != 0) = false := bne_eq_false_iff_eq.mpr c8
      clear c8
      replace H := Option.bind_eq_some_iff.mp H
      obtain ⟨⟨t458, t459⟩, A90, H⟩ := H
      replace H : (cambiumlaw03_DevSafe.l0 k l2 a3 t458 t459 l1 (l1.length : Int) 0 t448 t449 t452 t455 t456) = some r := H
      have A9 := Aside0.mk A90
      clear A90
      have H' := Aside0.mk H
      clear H
      go_enter Tryd.func4, Tryd.ntmps4
      go_wp2_with (first | ((with_reducible refine gate_dst (N := 4) rfl ?_); (try (refine gate_guard (by rfl) ?_; dsimp only)); refine bx_ (N := 4) (cs := #[.int .u32 a0_0, .slice A0_1 l0_1.length c0_1, .slice A0_2 l0_2.length c0_2, .bool a0_3, .int .i64 a0_4]) (t := 25) ?_; intro gb446 hg w10 hbox hb; have BK446 := Aside0.mk (hbox); have GW446 := ge_ hg; have GE446 := ge_ hg; replace HB := hb_ hb; clear hb hbox hg) | ((with_reducible refine gate_callee (f := 19) rfl ?_); refine gl_ (some 18) Tryd.func19 #[] ?_; (with_reducible refine (cambiumlaw03_lives.calls k  true _ A5.out).mono ?_); rintro e w11 ⟨rfl, hb⟩; refine ⟨_, rfl, ?_⟩; replace BK446 := kb_ BK446 hb; replace HB := hb_ hb; (try clear hb); (try clear hb2); (try clear hk); (try clear hi); obtain ⟨hcz12_0, hcz12_1, hcz12_2, hcz12_3, hcz12_4⟩ := cl5_ BK446; obtain ⟨hfz12_0, hfz12_1, hfz12_2, hfz12_3, hfz12_4⟩ := fz5_ BK446) | ((with_reducible refine gate_callee (f := 15) rfl ?_); refine gl_ (some 22) Tryd.func15 #[.agg #[.int .u32 a0_0, .slice A0_1 l0_1.length c0_1, .slice A0_2 l0_2.length c0_2, .bool a0_3, .int .i64 a0_4]] ?_; (with_reducible refine (dev_Flush.calls k a0_0 _ _ l0_1 _ _ l0_2 a0_3 a0_4 t448 t449 t452 t455 t456 t457 _ ?side1 ?side2 ?side3 ?side4 A7.out).mono ?_); (case side1 => exact cb_ HR0_1); (case side2 => exact HC0_1.out); (case side3 => exact cb_ HR0_2); (case side4 => exact HC0_2.out); rintro e w13 ⟨v450, v453, rfl, ho0, ho1, hb⟩; refine ⟨_, rfl, ?_⟩; have HO451 := rl_ ho0; have HO454 := rl_ ho1; replace BK446 := kb_ BK446 hb; replace HB := hb_ hb; (try clear hb); (try clear hb2); (try clear hk); (try clear hi); (try clear ho0); (try clear ho1); obtain ⟨hcz14_0, hcz14_1, hcz14_2, hcz14_3, hcz14_4⟩ := cl5_ BK446; obtain ⟨hfz14_0, hfz14_1, hfz14_2, hfz14_3, hfz14_4⟩ := fz5_ BK446; obtain ⟨Ao15, co15, eo15⟩ := Kd.R_slice HO451.out; subst eo15; obtain ⟨Ao16, co16, eo16⟩ := Kd.R_slice HO454.out; subst eo16) | ((with_reducible refine gate_callee (f := 17) rfl ?_); refine gl_ (some 30) Tryd.func17 #[.agg #[.int .u32 t448, .slice Ao15 t449.length co15, .slice Ao16 t452.length co16, .bool t455, .int .i64 t456], .int .u32 a3] ?_; (with_reducible refine (dev_Read.calls k t448 _ _ t449 _ _ t452 t455 t456 a3 t458 t459 _ ?side1 ?side2 ?side3 ?side4 A9.out).mono ?_); (case side1 => exact (Kd.R_reads' (rw_ HO451)).2.2); (case side2 => exact (Kd.R_reads' HO451.out).2.1); (case side3 => exact (Kd.R_reads' (rw_ HO454)).2.2); (case side4 => exact (Kd.R_reads' HO454.out).2.1); rintro e w17 ⟨rfl, hb⟩; refine ⟨_, rfl, ?_⟩; replace HO451 := Aside0.mk (Kd.R_below (rw_ HO451) hb); replace HO454 := Aside0.mk (Kd.R_below (rw_ HO454) hb); replace HB := hb_ hb; replace BK446 := Aside0.mk (blk_below (g := gb446) (o := .cells #[.int .u32 t448, .slice Ao15 t449.length co15, .slice Ao16 t452.length co16, .bool t455, .int .i64 t456] 25 (0, 0)) (bs_) hb); (try clear hb); (try clear hb2); (try clear hk); (try clear hi)))
      go_loopg [35] k (fun kq v35 w' => ∃ (x35_1 : Int) (x447000_1 : Int) (x447001_1 : List (S39)) (x447002_1 : List (S39)) (x447003_1 : Bool) (x447004_1 : Int) (u447001 : Value) (u447002 : Value), v35 = .int .i64 x35_1 ∧ Aside0 (cambiumlaw03_DevSafe.l0 kq l2 a3 t458 t459 l1 (l1.length : Int) x35_1 x447000_1 x447001_1 x447002_1 x447003_1 x447004_1 = some r) ∧ Aside0 (kq ≤ k) ∧ Aside0 (Kd.R k39 39 w' w.heap.size (fun k_ => some k_ ≠ (u447002 : Value).ownBlock) u447001 x447001_1) ∧ Aside0 (Kd.R k39 39 w' w.heap.size (fun k_ => some k_ ≠ (u447001 : Value).ownBlock) u447002 x447002_1) ∧ Aside0 (w'.heap[gb446]? = some (.cells #[.int .u32 x447000_1, u447001, u447002, .bool x447003_1, .int .i64 x447004_1] 25 (0, 0))) ∧ Aside0 (Below w.heap.size w w'))
      case atStart => exact ⟨(0), (t448), (t449), (t452), (t455), (t456), (.slice Ao15 t449.length co15), (.slice Ao16 t452.length co16), (by first | rfl | (simp; done) | (simp [*]; done)), H', ⟨Nat.le_refl _⟩, ⟨ra_ HO451⟩, ⟨ra_ HO454⟩, ⟨bk_ BK446⟩, ⟨bel_⟩⟩
      case round =>
        clear H'
        try clear c1
        try clear c2
        try clear p2
        try clear c4
        try clear c6
        try clear c8
        try clear c8b0
        try clear c8b1
        try clear c15
        try clear c17
        try clear hcz12_0
        try clear hcz12_1
        try clear hcz12_2
        try clear hcz12_3
        try clear hcz12_4
        try clear hcz14_0
        try clear hcz14_1
        try clear hcz14_2
        try clear hcz14_3
        try clear hcz14_4
        try clear hfz12_0
        try clear hfz12_1
        try clear hfz12_2
        try clear hfz12_3
        try clear hfz12_4
        try clear hfz14_0
        try clear hfz14_1
        try clear hfz14_2
        try clear hfz14_3
        try clear hfz14_4
        obtain ⟨x35_1, x447000_1, x447001_1, x447002_1, x447003_1, x447004_1, u447001, u447002, rfl, HA, HK1, HO_447001, HO_447002, BK446, HB⟩ := hrel
        cases gk with
        | zero => exact absurd HA.out (by simp [cambiumlaw03_DevSafe.l0])
        | succ k1 =>
          have H := HA.out
          clear HA
          simp only [cambiumlaw03_DevSafe.l0] at H
          by_cases c18 : x35_1 < (l1.length : Int)
          · rw [if_pos c18] at H
            have c18b0 : decide (x35_1 < (l1.length : Int)) = true := decide_eq_true c18
            clear c18
            by_cases c19 : 0 ≤ x35_1
            · rw [if_pos c19] at H
              have c19b0 : decide (0 ≤ x35_1) = true := decide_eq_true c19
              clear c19
              by_cases c20 : x35_1 < (l1.length : Int)
              · rw [if_pos c20] at H
                have c20b0 : decide (x35_1 < (l1.length : Int)) = true := decide_eq_true c20
                clear c20
                by_cases c21 : x35_1 < 40
                · rw [if_pos c21] at H
                  have c21b0 : decide (x35_1 < 40) = true := decide_eq_true c21
                  clear c21
                  by_cases c22 : ((rd_T39 l1 x35_1).f0) = a3
                  · rw [if_pos c22] at H
                    have c22b0 : (((rd_T39 l1 x35_1).f0) == a3) = true := beq_iff_eq.mpr c22
                    have c22b1 : (((rd_T39 l1 x35_1).f0) != a3) = false := bne_eq_false_iff_eq.mpr c22
                    clear c22
                    have H' := Aside0.mk H
                    clear H
                    have p460 : 0 ≤ (x35_1 : Int) := of_decide_eq_true (by first | (with_reducible assumption) | assumption)
                    have q460 : x35_1 < (l1.length : Int) := of_decide_eq_true (by first | (with_reducible assumption) | assumption)
                    obtain ⟨ad460, e460, hx460_0, hx460_1⟩ := at_T39 HR1.out x35_1 p460 q460
                    cases e460
                    replace hx460_0 := (HB.out.cell (World.block_lt_of_cell? w _ hx460_0)).trans hx460_0
                    replace hx460_1 := (HB.out.cell (World.block_lt_of_cell? w _ hx460_1)).trans hx460_1
                    replace p460 := eq_true p460
                    replace q460 := eq_true q460
                    go_wp2_with (first | ((with_reducible refine gate_dst (N := 13) rfl ?_); (try (refine gate_guard (by rfl) ?_; dsimp only)); refine bx_ (N := 13) (cs := #[.int .u32 0, .string (⟨#[]⟩ : ByteArray)]) (t := 39) ?_; intro gb461 hg w23 hbox hb; have BK461 := Aside0.mk (hbox); have GW461 := ge_ hg; have GE461 := ge_ hg; have NB446_461 := nl_ BK446 hg; have NB461_446 := ng_ BK446 hg; replace HO_447001 := Aside0.mk (Kd.R_below (Kd.R_elderB (ra_ HO_447001) gb461 (Nat.le_of_eq hg.symm)) hb); replace HO_447002 := Aside0.mk (Kd.R_below (Kd.R_elderB (ra_ HO_447002) gb461 (Nat.le_of_eq hg.symm)) hb); replace BK446 := kb_ BK446 hb; replace HB := hb_ hb; clear hb hbox hg; have hnb24 := NB461_446.out; have hnc24 := NB446_461.out; obtain ⟨hcz25_0, hcz25_1⟩ := cl2_ BK461; obtain ⟨hfz25_0, hfz25_1⟩ := fz2_ BK461))
                    go_roundg k1
                    case measure => have := HK1.out; omega
                    case rel => exact ⟨(wrap64 (x35_1 + 1)), (x447000_1), (x447001_1), (x447002_1), (x447003_1), (x447004_1), (u447001), (u447002), (by first | rfl | (simp; done) | (simp [*]; done)), H', ⟨by have := HK1.out; omega⟩, ⟨by (with_reducible repeat (first | apply Kd.R_alloc | apply Kd.R_drewN | apply Kd.R_drew)); exact Kd.R_mono (Kd.R_far (p := ⟨gb461, 1, none⟩) (Kd.R_far (p := ⟨gb461, 0, none⟩) (Kd.R_mono HO_447001.out (fun k_ hk => (⟨hk, hk.2⟩ : _ ∧ k_ ≠ gb461))) (fun _ hk => hk.2) (.int .u32 ((rd_T39 l1 x35_1).f0))) (fun _ hk => hk.2) (.string ((rd_T39 l1 x35_1).f1))) (fun _ hk => hk.1.1)⟩, ⟨by (with_reducible repeat (first | apply Kd.R_alloc | apply Kd.R_drewN | apply Kd.R_drew)); exact Kd.R_mono (Kd.R_far (p := ⟨gb461, 1, none⟩) (Kd.R_far (p := ⟨gb461, 0, none⟩) (Kd.R_mono HO_447002.out (fun k_ hk => (⟨hk, hk.2⟩ : _ ∧ k_ ≠ gb461))) (fun _ hk => hk.2) (.int .u32 ((rd_T39 l1 x35_1).f0))) (fun _ hk => hk.2) (.string ((rd_T39 l1 x35_1).f1))) (fun _ hk => hk.1.1)⟩, ⟨bs_⟩, ⟨bel_⟩⟩
                  · rw [if_neg c22] at H
                    have c22b0 : (((rd_T39 l1 x35_1).f0) == a3) = false := beq_eq_false_iff_ne.mpr c22
                    have c22b1 : (((rd_T39 l1 x35_1).f0) != a3) = true := bne_iff_ne.mpr c22
                    replace H := Option.bind_eq_some_iff.mp H
                    obtain ⟨⟨t462, t463, t466, t469, t470, t471⟩, A260, H⟩ := H
                    replace H : (cambiumlaw03_DevSafe.l0 k1 l2 a3 t458 t459 l1 (l1.length : Int) (wrap64 (x35_1 + 1)) t462 t463 t466 t469 t470) = some r := H
                    have A26 := Aside0.mk A260
                    clear A260
                    have H' := Aside0.mk H
                    clear H
                    have p460 : 0 ≤ (x35_1 : Int) := of_decide_eq_true (by first | (with_reducible assumption) | assumption)
                    have q460 : x35_1 < (l1.length : Int) := of_decide_eq_true (by first | (with_reducible assumption) | assumption)
                    obtain ⟨ad460, e460, hx460_0, hx460_1⟩ := at_T39 HR1.out x35_1 p460 q460
                    cases e460
                    replace hx460_0 := (HB.out.cell (World.block_lt_of_cell? w _ hx460_0)).trans hx460_0
                    replace hx460_1 := (HB.out.cell (World.block_lt_of_cell? w _ hx460_1)).trans hx460_1
                    replace p460 := eq_true p460
                    replace q460 := eq_true q460
                    go_wp2_with (first | ((with_reducible refine gate_dst (N := 13) rfl ?_); (try (refine gate_guard (by rfl) ?_; dsimp only)); refine bx_ (N := 13) (cs := #[.int .u32 0, .string (⟨#[]⟩ : ByteArray)]) (t := 39) ?_; intro gb461 hg w27 hbox hb; have BK461 := Aside0.mk (hbox); have GW461 := ge_ hg; have GE461 := ge_ hg; have NB446_461 := nl_ BK446 hg; have NB461_446 := ng_ BK446 hg; replace HO_447001 := Aside0.mk (Kd.R_below (Kd.R_elderB (ra_ HO_447001) gb461 (Nat.le_of_eq hg.symm)) hb); replace HO_447002 := Aside0.mk (Kd.R_below (Kd.R_elderB (ra_ HO_447002) gb461 (Nat.le_of_eq hg.symm)) hb); replace BK446 := kb_ BK446 hb; replace HB := hb_ hb; clear hb hbox hg; have hnb28 := NB461_446.out; have hnc28 := NB446_461.out; obtain ⟨hcz29_0, hcz29_1⟩ := cl2_ BK461; obtain ⟨hfz29_0, hfz29_1⟩ := fz2_ BK461; obtain ⟨hcz30_0, hcz30_1, hcz30_2, hcz30_3, hcz30_4⟩ := cl5_ BK446; obtain ⟨hfz30_0, hfz30_1, hfz30_2, hfz30_3, hfz30_4⟩ := fz5_ BK446; obtain ⟨Ao31, co31, eo31⟩ := Kd.R_slice HO_447001.out; subst eo31; obtain ⟨Ao32, co32, eo32⟩ := Kd.R_slice HO_447002.out; subst eo32) | ((with_reducible refine gate_callee (f := 13) rfl ?_); refine gl_ (some 54) Tryd.func13 #[.agg #[.int .u32 x447000_1, .slice Ao31 x447001_1.length co31, .slice Ao32 x447002_1.length co32, .bool x447003_1, .int .i64 x447004_1], .int .u32 ((rd_T39 l1 x35_1).f0), .string ((rd_T39 l1 x35_1).f1)] ?_; (with_reducible refine (dev_Write.calls k1 x447000_1 _ _ x447001_1 _ _ x447002_1 x447003_1 x447004_1 ((rd_T39 l1 x35_1).f0) ((rd_T39 l1 x35_1).f1) t462 t463 t466 t469 t470 t471 _ ?side1 ?side2 ?side3 ?side4 A26.out).mono ?_); (case side1 => refine (Kd.R_reads' (e := 39) (base := w.heap.size) (ok := fun k_ => (some k_ ≠ (.slice Ao32 x447002_1.length co32 : Value).ownBlock ∧ k_ ≠ gb461)) (n := x447001_1.length) (c := co31) ?_).2.2; exact (by (with_reducible repeat (first | apply Kd.R_alloc | apply Kd.R_drewN | apply Kd.R_drew)); exact (Kd.R_mono (Kd.R_far (p := ⟨gb461, 1, none⟩) (Kd.R_far (p := ⟨gb461, 0, none⟩) (Kd.R_mono HO_447001.out (fun k_ hk => (⟨hk, hk.2⟩ : _ ∧ k_ ≠ gb461))) (fun _ hk => hk.2) (.int .u32 ((rd_T39 l1 x35_1).f0))) (fun _ hk => hk.2) (.string ((rd_T39 l1 x35_1).f1))) (fun _ h_ => h_.1)))); (case side2 => exact (Kd.R_reads' HO_447001.out).2.1); (case side3 => refine (Kd.R_reads' (e := 39) (base := w.heap.size) (ok := fun k_ => (some k_ ≠ (.slice Ao31 x447001_1.length co31 : Value).ownBlock ∧ k_ ≠ gb461)) (n := x447002_1.length) (c := co32) ?_).2.2; exact (by (with_reducible repeat (first | apply Kd.R_alloc | apply Kd.R_drewN | apply Kd.R_drew)); exact (Kd.R_mono (Kd.R_far (p := ⟨gb461, 1, none⟩) (Kd.R_far (p := ⟨gb461, 0, none⟩) (Kd.R_mono HO_447002.out (fun k_ hk => (⟨hk, hk.2⟩ : _ ∧ k_ ≠ gb461))) (fun _ hk => hk.2) (.int .u32 ((rd_T39 l1 x35_1).f0))) (fun _ hk => hk.2) (.string ((rd_T39 l1 x35_1).f1))) (fun _ h_ => h_.1)))); (case side4 => exact (Kd.R_reads' HO_447002.out).2.1); rintro e w33 ⟨v464, v467, rfl, ho0, ho1, hb⟩; refine ⟨_, rfl, ?_⟩; have HO465 := Aside0.mk (Kd.R_lower (Kd.R_newB (Kd.R_new' (Kd.R_new' ho0 (Kd.R_lt (by (with_reducible repeat (first | apply Kd.R_alloc | apply Kd.R_drewN | apply Kd.R_drew)); exact (Kd.R_mono (Kd.R_far (p := ⟨gb461, 1, none⟩) (Kd.R_far (p := ⟨gb461, 0, none⟩) (Kd.R_mono HO_447001.out (fun k_ hk => (⟨hk, hk.2⟩ : _ ∧ k_ ≠ gb461))) (fun _ hk => hk.2) (.int .u32 ((rd_T39 l1 x35_1).f0))) (fun _ hk => hk.2) (.string ((rd_T39 l1 x35_1).f1))) (fun _ h_ => h_.1))))) (Kd.R_lt (by (with_reducible repeat (first | apply Kd.R_alloc | apply Kd.R_drewN | apply Kd.R_drew)); exact (Kd.R_mono (Kd.R_far (p := ⟨gb461, 1, none⟩) (Kd.R_far (p := ⟨gb461, 0, none⟩) (Kd.R_mono HO_447002.out (fun k_ hk => (⟨hk, hk.2⟩ : _ ∧ k_ ≠ gb461))) (fun _ hk => hk.2) (.int .u32 ((rd_T39 l1 x35_1).f0))) (fun _ hk => hk.2) (.string ((rd_T39 l1 x35_1).f1))) (fun _ h_ => h_.1))))) (g := gb461) (o := .cells #[.int .u32 ((rd_T39 l1 x35_1).f0), .string ((rd_T39 l1 x35_1).f1)] 39 (0, 0)) (bs_)) (below_size bel_)); have HO468 := Aside0.mk (Kd.R_lower (Kd.R_newB (Kd.R_new' (Kd.R_new' ho1 (Kd.R_lt (by (with_reducible repeat (first | apply Kd.R_alloc | apply Kd.R_drewN | apply Kd.R_drew)); exact (Kd.R_mono (Kd.R_far (p := ⟨gb461, 1, none⟩) (Kd.R_far (p := ⟨gb461, 0, none⟩) (Kd.R_mono HO_447001.out (fun k_ hk => (⟨hk, hk.2⟩ : _ ∧ k_ ≠ gb461))) (fun _ hk => hk.2) (.int .u32 ((rd_T39 l1 x35_1).f0))) (fun _ hk => hk.2) (.string ((rd_T39 l1 x35_1).f1))) (fun _ h_ => h_.1))))) (Kd.R_lt (by (with_reducible repeat (first | apply Kd.R_alloc | apply Kd.R_drewN | apply Kd.R_drew)); exact (Kd.R_mono (Kd.R_far (p := ⟨gb461, 1, none⟩) (Kd.R_far (p := ⟨gb461, 0, none⟩) (Kd.R_mono HO_447002.out (fun k_ hk => (⟨hk, hk.2⟩ : _ ∧ k_ ≠ gb461))) (fun _ hk => hk.2) (.int .u32 ((rd_T39 l1 x35_1).f0))) (fun _ hk => hk.2) (.string ((rd_T39 l1 x35_1).f1))) (fun _ h_ => h_.1))))) (g := gb461) (o := .cells #[.int .u32 ((rd_T39 l1 x35_1).f0), .string ((rd_T39 l1 x35_1).f1)] 39 (0, 0)) (bs_)) (below_size bel_)); replace HO_447001 := Aside0.mk (Kd.R_mono (Kd.R_told (Kd.R_told (Kd.R_old (by (with_reducible repeat (first | apply Kd.R_alloc | apply Kd.R_drewN | apply Kd.R_drew)); exact (Kd.R_mono (Kd.R_far (p := ⟨gb461, 1, none⟩) (Kd.R_far (p := ⟨gb461, 0, none⟩) (Kd.R_mono HO_447001.out (fun k_ hk => (⟨hk, hk.2⟩ : _ ∧ k_ ≠ gb461))) (fun _ hk => hk.2) (.int .u32 ((rd_T39 l1 x35_1).f0))) (fun _ hk => hk.2) (.string ((rd_T39 l1 x35_1).f1))) (fun _ h_ => h_.1))) hb) (Kd.R_base ho0)) (Kd.R_base ho1)) (fun _ h_ => h_.1)); replace HO_447002 := Aside0.mk (Kd.R_mono (Kd.R_told (Kd.R_told (Kd.R_old (by (with_reducible repeat (first | apply Kd.R_alloc | apply Kd.R_drewN | apply Kd.R_drew)); exact (Kd.R_mono (Kd.R_far (p := ⟨gb461, 1, none⟩) (Kd.R_far (p := ⟨gb461, 0, none⟩) (Kd.R_mono HO_447002.out (fun k_ hk => (⟨hk, hk.2⟩ : _ ∧ k_ ≠ gb461))) (fun _ hk => hk.2) (.int .u32 ((rd_T39 l1 x35_1).f0))) (fun _ hk => hk.2) (.string ((rd_T39 l1 x35_1).f1))) (fun _ h_ => h_.1))) hb) (Kd.R_base ho0)) (Kd.R_base ho1)) (fun _ h_ => h_.1)); replace BK446 := Aside0.mk (blk_below (g := gb446) (o := .cells #[.int .u32 x447000_1, .slice Ao31 x447001_1.length co31, .slice Ao32 x447002_1.length co32, .bool x447003_1, .int .i64 x447004_1] 25 (0, 0)) (bs_) hb); replace BK461 := Aside0.mk (blk_below (g := gb461) (o := .cells #[.int .u32 ((rd_T39 l1 x35_1).f0), .string ((rd_T39 l1 x35_1).f1)] 39 (0, 0)) (bs_) hb); replace HB := hb_ hb; (try clear hb); (try clear hb2); (try clear hk); (try clear hi); (try clear ho0); (try clear ho1); obtain ⟨hcz34_0, hcz34_1, hcz34_2, hcz34_3, hcz34_4⟩ := cl5_ BK446; obtain ⟨hfz34_0, hfz34_1, hfz34_2, hfz34_3, hfz34_4⟩ := fz5_ BK446; obtain ⟨Ao35, co35, eo35⟩ := Kd.R_slice HO465.out; subst eo35; obtain ⟨Ao36, co36, eo36⟩ := Kd.R_slice HO468.out; subst eo36))
                    go_roundg k1
                    case measure => have := HK1.out; omega
                    case rel => exact ⟨(wrap64 (x35_1 + 1)), (t462), (t463), (t466), (t469), (t470), (.slice Ao35 t463.length co35), (.slice Ao36 t466.length co36), (by first | rfl | (simp; done) | (simp [*]; done)), H', ⟨by have := HK1.out; omega⟩, ⟨rm_ HO465 (fun _ h => h.1.1.1)⟩, ⟨rm_ HO468 (fun _ h => h.1.1.1)⟩, ⟨bs_⟩, ⟨bel_⟩⟩
                · rw [if_neg c21] at H
                  have c21b0 : decide (x35_1 < 40) = false := decide_eq_false c21
                  clear c21
                  have H' := Aside0.mk H
                  clear H
                  have p460 : 0 ≤ (x35_1 : Int) := of_decide_eq_true (by first | (with_reducible assumption) | assumption)
                  have q460 : x35_1 < (l1.length : Int) := of_decide_eq_true (by first | (with_reducible assumption) | assumption)
                  obtain ⟨ad460, e460, hx460_0, hx460_1⟩ := at_T39 HR1.out x35_1 p460 q460
                  cases e460
                  replace hx460_0 := (HB.out.cell (World.block_lt_of_cell? w _ hx460_0)).trans hx460_0
                  replace hx460_1 := (HB.out.cell (World.block_lt_of_cell? w _ hx460_1)).trans hx460_1
                  replace p460 := eq_true p460
                  replace q460 := eq_true q460
                  go_wp2_with (first | ((with_reducible refine gate_dst (N := 13) rfl ?_); (try (refine gate_guard (by rfl) ?_; dsimp only)); refine bx_ (N := 13) (cs := #[.int .u32 0, .string (⟨#[]⟩ : ByteArray)]) (t := 39) ?_; intro gb461 hg w37 hbox hb; have BK461 := Aside0.mk (hbox); have GW461 := ge_ hg; have GE461 := ge_ hg; have NB446_461 := nl_ BK446 hg; have NB461_446 := ng_ BK446 hg; replace HO_447001 := Aside0.mk (Kd.R_below (Kd.R_elderB (ra_ HO_447001) gb461 (Nat.le_of_eq hg.symm)) hb); replace HO_447002 := Aside0.mk (Kd.R_below (Kd.R_elderB (ra_ HO_447002) gb461 (Nat.le_of_eq hg.symm)) hb); replace BK446 := kb_ BK446 hb; replace HB := hb_ hb; clear hb hbox hg; have hnb38 := NB461_446.out; have hnc38 := NB446_461.out; obtain ⟨hcz39_0, hcz39_1⟩ := cl2_ BK461; obtain ⟨hfz39_0, hfz39_1⟩ := fz2_ BK461))
                  go_roundg k1
                  case measure => have := HK1.out; omega
                  case rel => exact ⟨(wrap64 (x35_1 + 1)), (x447000_1), (x447001_1), (x447002_1), (x447003_1), (x447004_1), (u447001), (u447002), (by first | rfl | (simp; done) | (simp [*]; done)), H', ⟨by have := HK1.out; omega⟩, ⟨by (with_reducible repeat (first | apply Kd.R_alloc | apply Kd.R_drewN | apply Kd.R_drew)); exact Kd.R_mono (Kd.R_far (p := ⟨gb461, 1, none⟩) (Kd.R_far (p := ⟨gb461, 0, none⟩) (Kd.R_mono HO_447001.out (fun k_ hk => (⟨hk, hk.2⟩ : _ ∧ k_ ≠ gb461))) (fun _ hk => hk.2) (.int .u32 ((rd_T39 l1 x35_1).f0))) (fun _ hk => hk.2) (.string ((rd_T39 l1 x35_1).f1))) (fun _ hk => hk.1.1)⟩, ⟨by (with_reducible repeat (first | apply Kd.R_alloc | apply Kd.R_drewN | apply Kd.R_drew)); exact Kd.R_mono (Kd.R_far (p := ⟨gb461, 1, none⟩) (Kd.R_far (p := ⟨gb461, 0, none⟩) (Kd.R_mono HO_447002.out (fun k_ hk => (⟨hk, hk.2⟩ : _ ∧ k_ ≠ gb461))) (fun _ hk => hk.2) (.int .u32 ((rd_T39 l1 x35_1).f0))) (fun _ hk => hk.2) (.string ((rd_T39 l1 x35_1).f1))) (fun _ hk => hk.1.1)⟩, ⟨bs_⟩, ⟨bel_⟩⟩
              · rw [if_neg c20] at H
                exact absurd H (by simp)
            · rw [if_neg c19] at H
              exact absurd H (by simp)
          · rw [if_neg c18] at H
            have c18b0 : decide (x35_1 < (l1.length : Int)) = false := decide_eq_false c18
            clear c18
            replace H := Option.bind_eq_some_iff.mp H
            obtain ⟨⟨t472, t473, t476, t479, t480, t481⟩, A400, H⟩ := H
            replace H : ((dev_Read.f k1 t472 t473 t476 t479 t480 a3).bind fun bt483 => (if t481 = 0 then (if t459 = bt483.2 then (if t458.toList = bt483.1.toList then (if t479 = true then (some false) else (some ((t476.length : Int) == 0))) else (some false)) else (some false)) else (some false))) = some r := H
            have A40 := Aside0.mk A400
            clear A400
            replace H := Option.bind_eq_some_iff.mp H
            obtain ⟨⟨t483, t484⟩, A410, H⟩ := H
            replace H : (if t481 = 0 then (if t459 = t484 then (if t458.toList = t483.toList then (if t479 = true then (some false) else (some ((t476.length : Int) == 0))) else (some false)) else (some false)) else (some false)) = some r := H
            have A41 := Aside0.mk A410
            clear A410
            by_cases c42 : t481 = 0
            · rw [if_pos c42] at H
              have c42b0 : (t481 == 0) = true := beq_iff_eq.mpr c42
              have c42b1 : (t481 != 0) = false := bne_eq_false_iff_eq.mpr c42
              clear c42
              by_cases c43 : t459 = t484
              · rw [if_pos c43] at H
                have c43b0 : (t459 == t484) = true := beq_iff_eq.mpr c43
                have c43b1 : (t459 != t484) = false := bne_eq_false_iff_eq.mpr c43
                clear c43
                by_cases c44 : t458.toList = t483.toList
                · rw [if_pos c44] at H
                  have c44b0 : (t458.toList == t483.toList) = true := beq_iff_eq.mpr c44
                  have c44b1 : (t458.toList != t483.toList) = false := bne_eq_false_iff_eq.mpr c44
                  clear c44
                  by_cases c45 : t479 = true
                  · subst c45
                    have H1 : (some false) = some r := by rw [if_pos rfl] at H; exact H
                    clear H
                    have H := H1
                    clear H1
                    exact absurd ((Option.some.inj H).trans HT_.out) (by simp)
                  · replace c45 := Bool.eq_false_iff.mpr c45
                    subst c45
                    have H1 : (some ((t476.length : Int) == 0)) = some r := by rw [if_neg (show ¬ (false = true) by decide)] at H; exact H
                    clear H
                    have H := H1
                    clear H1
                    obtain rfl := Option.some.inj H
                    obtain ⟨hcz46_0, hcz46_1, hcz46_2, hcz46_3, hcz46_4⟩ := cl5_ BK446
                    obtain ⟨hfz46_0, hfz46_1, hfz46_2, hfz46_3, hfz46_4⟩ := fz5_ BK446
                    obtain ⟨Ao47, co47, eo47⟩ := Kd.R_slice HO_447001.out
                    subst eo47
                    obtain ⟨Ao48, co48, eo48⟩ := Kd.R_slice HO_447002.out
                    subst eo48
                    go_wp2_with (first | ((with_reducible refine gate_callee (f := 23) rfl ?_); refine gl_ (some 61) Tryd.func23 #[.agg #[.int .u32 x447000_1, .slice Ao47 x447001_1.length co47, .slice Ao48 x447002_1.length co48, .bool x447003_1, .int .i64 x447004_1], .slice A2 l2.length c2] ?_; (with_reducible refine (dev_Crash.calls k1 x447000_1 _ _ x447001_1 _ _ x447002_1 x447003_1 x447004_1 _ _ l2 t472 t473 t476 false t480 t481 _ ?side1 ?side2 ?side3 ?side4 ?side5 ?side6 A40.out).mono ?_); (case side1 => exact cr_ HO_447001); (case side2 => exact (Kd.R_reads' HO_447001.out).2.1); (case side3 => exact cr_ HO_447002); (case side4 => exact (Kd.R_reads' HO_447002.out).2.1); (case side5 => exact cb_ HR2); (case side6 => exact HC2.out); rintro e w49 ⟨v474, v477, rfl, ho0, ho1, hb⟩; refine ⟨_, rfl, ?_⟩; have HO475 := Aside0.mk (Kd.R_lower (Kd.R_new' (Kd.R_new' ho0 (Kd.R_lt (ra_ HO_447001))) (Kd.R_lt (ra_ HO_447002))) (below_size bel_)); have HO478 := Aside0.mk (Kd.R_lower (Kd.R_new' (Kd.R_new' ho1 (Kd.R_lt (ra_ HO_447001))) (Kd.R_lt (ra_ HO_447002))) (below_size bel_)); replace HO_447001 := Aside0.mk (Kd.R_mono (Kd.R_told (Kd.R_told (Kd.R_old (ra_ HO_447001) hb) (Kd.R_base ho0)) (Kd.R_base ho1)) (fun _ h_ => h_.1)); replace HO_447002 := Aside0.mk (Kd.R_mono (Kd.R_told (Kd.R_told (Kd.R_old (ra_ HO_447002) hb) (Kd.R_base ho0)) (Kd.R_base ho1)) (fun _ h_ => h_.1)); replace BK446 := kb_ BK446 hb; replace HB := hb_ hb; (try clear hb); (try clear hb2); (try clear hk); (try clear hi); (try clear ho0); (try clear ho1)) | ((with_reducible refine gate_dst (N := 14) rfl ?_); (try (refine gate_guard (by rfl) ?_; dsimp only)); refine bx_ (N := 14) (cs := #[.int .u32 0, .slice none 0 0, .slice none 0 0, .bool false, .int .i64 0]) (t := 25) ?_; intro gb482 hg w50 hbox hb; have BK482 := Aside0.mk (hbox); have GW482 := ge_ hg; have GE482 := ge_ hg; have NB446_482 := nl_ BK446 hg; have NB482_446 := ng_ BK446 hg; replace HO_447001 := rb_ HO_447001 hb; replace HO_447002 := rb_ HO_447002 hb; replace HO475 := rb_ HO475 hb; replace HO478 := rb_ HO478 hb; replace BK446 := kb_ BK446 hb; replace HB := hb_ hb; clear hb hbox hg; have hnb51 := NB482_446.out; have hnc51 := NB446_482.out; obtain ⟨hcz52_0, hcz52_1, hcz52_2, hcz52_3, hcz52_4⟩ := cl5_ BK482; obtain ⟨hfz52_0, hfz52_1, hfz52_2, hfz52_3, hfz52_4⟩ := fz5_ BK482; obtain ⟨Ao53, co53, eo53⟩ := Kd.R_slice HO475.out; subst eo53; obtain ⟨Ao54, co54, eo54⟩ := Kd.R_slice HO478.out; subst eo54) | ((with_reducible refine gate_callee (f := 17) rfl ?_); refine gl_ (some 67) Tryd.func17 #[.agg #[.int .u32 t472, .slice Ao53 t473.length co53, .slice Ao54 t476.length co54, .bool false, .int .i64 t480], .int .u32 a3] ?_; (with_reducible refine (dev_Read.calls k1 t472 _ _ t473 _ _ t476 false t480 a3 t483 t484 _ ?side1 ?side2 ?side3 ?side4 A41.out).mono ?_); (case side1 => exact (Kd.R_reads' (rw_ HO475)).2.2); (case side2 => exact (Kd.R_reads' HO475.out).2.1); (case side3 => exact (Kd.R_reads' (rw_ HO478)).2.2); (case side4 => exact (Kd.R_reads' HO478.out).2.1); rintro e w55 ⟨rfl, hb⟩; refine ⟨_, rfl, ?_⟩; replace HO_447001 := Aside0.mk (Kd.R_below (rw_ HO_447001) hb); replace HO_447002 := Aside0.mk (Kd.R_below (rw_ HO_447002) hb); replace HO475 := Aside0.mk (Kd.R_below (rw_ HO475) hb); replace HO478 := Aside0.mk (Kd.R_below (rw_ HO478) hb); replace BK446 := Aside0.mk (blk_below (g := gb446) (o := .cells #[.int .u32 x447000_1, .slice Ao47 x447001_1.length co47, .slice Ao48 x447002_1.length co48, .bool x447003_1, .int .i64 x447004_1] 25 (0, 0)) (bs_) hb); replace HB := hb_ hb; replace BK482 := Aside0.mk (blk_below (g := gb482) (o := .cells #[.int .u32 t472, .slice Ao53 t473.length co53, .slice Ao54 t476.length co54, .bool false, .int .i64 t480] 25 (0, 0)) (bs_) hb); (try clear hb); (try clear hb2); (try clear hk); (try clear hi); obtain ⟨hcz56_0, hcz56_1, hcz56_2, hcz56_3, hcz56_4⟩ := cl5_ BK482; obtain ⟨hfz56_0, hfz56_1, hfz56_2, hfz56_3, hfz56_4⟩ := fz5_ BK482))
                    go_ret
                    exact ⟨by first | rfl | (simp [errW_none, errW_some] <;> rfl) | (simp [*, errW_none, errW_some] <;> rfl), bel_⟩
                · rw [if_neg c44] at H
                  have c44b0 : (t458.toList == t483.toList) = false := beq_eq_false_iff_ne.mpr c44
                  have c44b1 : (t458.toList != t483.toList) = true := bne_iff_ne.mpr c44
                  exact absurd ((Option.some.inj H).trans HT_.out) (by simp)
              · rw [if_neg c43] at H
                have c43b0 : (t459 == t484) = false := beq_eq_false_iff_ne.mpr c43
                have c43b1 : (t459 != t484) = true := bne_iff_ne.mpr c43
                exact absurd ((Option.some.inj H).trans HT_.out) (by simp)
            · rw [if_neg c42] at H
              have c42b0 : (t481 == 0) = false := beq_eq_false_iff_ne.mpr c42
              have c42b1 : (t481 != 0) = true := bne_iff_ne.mpr c42
              exact absurd ((Option.some.inj H).trans HT_.out) (by simp)
    · rw [if_neg c8] at H
      have c8b0 : (t457 == 0) = false := beq_eq_false_iff_ne.mpr c8
      have c8b1 : (t457 != 0) = true := bne_iff_ne.mpr c8
      obtain rfl := Option.some.inj H
      go_enter Tryd.func4, Tryd.ntmps4
      go_wp2_with (first | ((with_reducible refine gate_dst (N := 4) rfl ?_); (try (refine gate_guard (by rfl) ?_; dsimp only)); refine bx_ (N := 4) (cs := #[.int .u32 a0_0, .slice A0_1 l0_1.length c0_1, .slice A0_2 l0_2.length c0_2, .bool a0_3, .int .i64 a0_4]) (t := 25) ?_; intro gb446 hg w57 hbox hb; have BK446 := Aside0.mk (hbox); have GW446 := ge_ hg; have GE446 := ge_ hg; replace HB := hb_ hb; clear hb hbox hg) | ((with_reducible refine gate_callee (f := 19) rfl ?_); refine gl_ (some 18) Tryd.func19 #[] ?_; (with_reducible refine (cambiumlaw03_lives.calls k  true _ A5.out).mono ?_); rintro e w58 ⟨rfl, hb⟩; refine ⟨_, rfl, ?_⟩; replace BK446 := kb_ BK446 hb; replace HB := hb_ hb; (try clear hb); (try clear hb2); (try clear hk); (try clear hi); obtain ⟨hcz59_0, hcz59_1, hcz59_2, hcz59_3, hcz59_4⟩ := cl5_ BK446; obtain ⟨hfz59_0, hfz59_1, hfz59_2, hfz59_3, hfz59_4⟩ := fz5_ BK446) | ((with_reducible refine gate_callee (f := 15) rfl ?_); refine gl_ (some 22) Tryd.func15 #[.agg #[.int .u32 a0_0, .slice A0_1 l0_1.length c0_1, .slice A0_2 l0_2.length c0_2, .bool a0_3, .int .i64 a0_4]] ?_; (with_reducible refine (dev_Flush.calls k a0_0 _ _ l0_1 _ _ l0_2 a0_3 a0_4 t448 t449 t452 t455 t456 t457 _ ?side1 ?side2 ?side3 ?side4 A7.out).mono ?_); (case side1 => exact cb_ HR0_1); (case side2 => exact HC0_1.out); (case side3 => exact cb_ HR0_2); (case side4 => exact HC0_2.out); rintro e w60 ⟨v450, v453, rfl, ho0, ho1, hb⟩; refine ⟨_, rfl, ?_⟩; have HO451 := rl_ ho0; have HO454 := rl_ ho1; replace BK446 := kb_ BK446 hb; replace HB := hb_ hb; (try clear hb); (try clear hb2); (try clear hk); (try clear hi); (try clear ho0); (try clear ho1); obtain ⟨hcz61_0, hcz61_1, hcz61_2, hcz61_3, hcz61_4⟩ := cl5_ BK446; obtain ⟨hfz61_0, hfz61_1, hfz61_2, hfz61_3, hfz61_4⟩ := fz5_ BK446; obtain ⟨Ao62, co62, eo62⟩ := Kd.R_slice HO451.out; subst eo62; obtain ⟨Ao63, co63, eo63⟩ := Kd.R_slice HO454.out; subst eo63))
      go_ret
      exact ⟨by first | rfl | (simp [errW_none, errW_some] <;> rfl) | (simp [*, errW_none, errW_some] <;> rfl), bel_⟩
  · replace c6 := Bool.eq_false_iff.mpr c6
    subst c6
    have H1 : (some false) = some r := by rw [if_neg (show ¬ (false = true) by decide)] at H; exact H
    clear H
    have H := H1
    clear H1
    exact absurd ((Option.some.inj H).trans HT_.out) (by simp)

end Go.Proofs.YtcphflfjhkeooaaDoor.Z
end

section
/- DevSafe, over numbers and lists: the law's function answers true. -/
namespace Go.Proofs.YtcphflfjhkeooaaDoor.Pure
open Go.RowKit Go.Proofs.YtcphflfjhkeooaaDoor Go.Proofs.YtcphflfjhkeooaaDoor.Z Go.Proofs.YtcphflfjhkeooaaDoorW.PrintWords
set_option linter.unusedVariables false
theorem DevSafe : ∀ (a0_0 : Int) (l0_1 : List (S39)) (l0_2 : List (S39)) (a0_3 : Bool) (a0_4 : Int) (l1 : List (S39)) (l2 : List Bool) (a3 : Int), (Lit.int .u32 a0_0).wf = true → l0_1.length ≤ maxLen → (∀ x ∈ l0_1, Z.G39 x) → l0_2.length ≤ maxLen → (∀ x ∈ l0_2, Z.G39 x) → (Lit.int .i64 a0_4).wf = true → l1.length ≤ maxLen → (∀ x ∈ l1, Z.G39 x) → l1.length * 24 ≤ 140737488351232 → l2.length ≤ maxLen → (∀ x ∈ l2, (fun _ : Bool => True) x) → l2.length * 1 ≤ 140737488351232 → (Lit.int .u32 a3).wf = true → ∃ k, Z.cambiumlaw03_DevSafe.f k a0_0 l0_1 l0_2 a0_3 a0_4 l1 l2 a3 = some true := by
  intro s bl wl d f l ke n hs hl1 hg1 hl2 hg2 hf hll hlg hlz hkl hkg hkz hn
  refine Ev.rounds (g := fun r => Z.cambiumlaw03_DevSafe.f r s bl wl d f l ke n) ?_
  have hn := (wf32 hn).1
  have hi : Inp s bl wl := inp hg1 hg2 hl1
  have hl0 := num0 hlg
  unfold cambiumlaw03_DevSafe.f
  refine Ev.bind lives_f (Ev.ifp rfl ?_)
  by_cases ok : okDev s bl wl
  · refine Ev.bind (flush_ok ok d f) ?_
    have ok2 := okDev_flush ok d f
    refine Ev.ite (fun hw => ?_) (fun hw => Ev.const rfl)
    have hfl : ∃ f2, flushS s bl wl d f = (s, putsL bl wl, [], false, f2, 0) := by
      unfold flushS at hw ⊢
      by_cases c1 : d = true
      · rw [if_pos c1] at hw; cases hw
      · rw [if_neg c1] at hw ⊢
        by_cases c2 : downOf d f = true
        · rw [if_pos c2] at hw; cases hw
        · rw [if_neg c2]; exact ⟨_, rfl⟩
    obtain ⟨f2, e⟩ := hfl
    rw [e] at ok2 ⊢
    dsimp only at ok2 ⊢
    refine Ev.bind (read_ok ok2 false f2 n) ?_
    generalize putsL bl wl = b0 at *
    have lp : ∀ dd i : Nat, l.length = i + dd → ∀ (w2 : List Bk) (d2 : Bool) (f3 : Int), okDev s b0 w2 → (∀ x ∈ w2, x.f0 ≠ n) →
        Ev (fun k => cambiumlaw03_DevSafe.l0 k ke n (readS s b0 [] false n).1 (readS s b0 [] false n).2 l (l.length : Int) (i : Int) s b0 w2 d2 f3) true := by
      intro dd
      induction dd with
      | zero =>
        intro i hi2 w2 d2 f3 okw hno
        refine Ev.step (fun k => by rw [cambiumlaw03_DevSafe.l0]) ?_
        have okc := okDev_crash okw ke
        unfold crashS at okc
        have hr : readS s (putsL b0 (kept w2 ke)) [] false n = readS s b0 [] false n := by
          unfold readS
          rw [readL_nil, readL_nil, has_puts _ okw.2.2.2.1.1]
          unfold readL
          have hf : (kept w2 ke).reverse.find? (fun x => x.f0 == n) = none := by
            rw [List.find?_eq_none]
            intro x hx
            rw [List.mem_reverse] at hx
            simpa using hno x (kept_mem hx)
          rw [hf]
        refine Ev.ifn (by omega) (Ev.bind (crash_ok okw d2 f3 ke) (Ev.bind (read_ok okc false (-1) n) ?_))
        rw [hr]
        exact Ev.ifp rfl (Ev.ifp rfl (Ev.ifp rfl (Ev.ifn (by unfold crashS; simp) (Ev.const rfl))))
      | succ dd ih =>
        intro i hi2 w2 d2 f3 okw hno
        have hlt : i < l.length := by omega
        refine Ev.step (fun k => by rw [cambiumlaw03_DevSafe.l0]) ?_
        refine Ev.ifp (by omega) (Ev.ifp (by omega) (Ev.ifp (by omega) ?_))
        rw [show wrap64 ((i : Int) + 1) = ((i + 1 : Nat) : Int) by rw [w64 (by omega) (by omega)]; omega, rd_get l i hlt]
        refine Ev.ite (fun _ => Ev.ite (fun _ => ih (i + 1) (by omega) w2 d2 f3 okw hno) (fun hc => ?_)) (fun _ => ih (i + 1) (by omega) w2 d2 f3 okw hno)
        refine Ev.bind (write_ok okw d2 f3 _ _) ?_
        have okx := okDev_write okw (hl0 _ (List.getElem_mem hlt)) d2 f3 (l[i]).f1
        have hx : (writeS s b0 w2 d2 f3 (l[i]).f0 (l[i]).f1).1 = s ∧ (writeS s b0 w2 d2 f3 (l[i]).f0 (l[i]).f1).2.1 = b0 ∧ ∀ x ∈ (writeS s b0 w2 d2 f3 (l[i]).f0 (l[i]).f1).2.2.1, x.f0 ≠ n := by
          unfold writeS
          split
          · exact ⟨rfl, rfl, hno⟩
          · split
            · exact ⟨rfl, rfl, hno⟩
            · split
              · exact ⟨rfl, rfl, hno⟩
              · split
                · exact ⟨rfl, rfl, hno⟩
                · refine ⟨rfl, rfl, fun x hx => ?_⟩
                  rcases List.mem_append.1 hx with hx | hx
                  · exact hno x hx
                  · rw [List.mem_singleton] at hx
                    subst hx; exact hc
        rw [hx.1, hx.2.1] at okx ⊢
        exact ih (i + 1) (by omega) _ _ _ okx hx.2.2
    exact lp l.length 0 (by omega) [] false f2 ok2 (by simp)
  · refine Ev.bind (flush_bad ok hi d f) ?_
    exact Ev.ifn (by decide) (Ev.const rfl)
end Go.Proofs.YtcphflfjhkeooaaDoor.Pure
end

section
/- cambium/cambiumlaw03.DevSafe: at every input the law's function returns true, and each argument reads afterwards as before. Conditions: none beyond the row's own. Printed by a program of this session (mp.py) over the pure statement in YtcphflfjhkeooaaDoorPureDevSafe. -/
namespace Go.Proofs.YtcphflfjhkeooaaDoor.devSafe
open Go.ChangeShapes Go.WideShapes Go.ChangeAt Go.RowKit
open Go.ChangeMaps (open_string shut_string)
set_option linter.unusedVariables false
set_option linter.unusedSimpArgs false
theorem own : ownKnob Tryd.prog.godebug = none := by kernel_rfl
theorem laidOut : laidOutB Tryd.prog = true := by kernel_rfl
theorem lstOf5 {α : Type} (l : List α) (h : l.length = 5) : ∃ z0 z1 z2 z3 z4, l = [z0, z1, z2, z3, z4] := by
  match l, h with
  | [z0, z1, z2, z3, z4], _ => exact ⟨z0, z1, z2, z3, z4, rfl⟩
theorem arrOf5 {α : Type} (a : Array α) (h : a.toList.length = 5) : ∃ z0 z1 z2 z3 z4, a = #[z0, z1, z2, z3, z4] := by
  obtain ⟨l⟩ := a
  obtain ⟨z0, z1, z2, z3, z4, rfl⟩ := lstOf5 l h
  exact ⟨z0, z1, z2, z3, z4, rfl⟩
def lay0 : Obj → Obj
  | .cells _ t frozen => .cells (((Pinned.numbers IntKind.u8 Pinned.utf8FirstZ : List (DataW Unit)).map (fun x => match x with | .lit (.int k v) => Value.int k v | _ => .int .u8 0)).toArray) t frozen
  | o => o
def lay1 : Obj → Obj
  | .cells _ t frozen => .cells #[.int .u8 128, .int .u8 191, .int .u8 160, .int .u8 191, .int .u8 128, .int .u8 159, .int .u8 144, .int .u8 191, .int .u8 128, .int .u8 143, .int .u8 0, .int .u8 0, .int .u8 0, .int .u8 0, .int .u8 0, .int .u8 0, .int .u8 0, .int .u8 0, .int .u8 0, .int .u8 0, .int .u8 0, .int .u8 0, .int .u8 0, .int .u8 0, .int .u8 0, .int .u8 0, .int .u8 0, .int .u8 0, .int .u8 0, .int .u8 0, .int .u8 0, .int .u8 0] t frozen
  | o => o
noncomputable def laidWorld (os : Os) : World :=
  { World.holding Tryd.prog os ⟨#[], #[], []⟩ with heap := ((World.holding Tryd.prog os ⟨#[], #[], []⟩).heap.modify 0 lay0).modify 1 lay1 }
theorem laid_met (os : Os) : laidMet Tryd.prog Rows.devSafeRow.laid ((laidWorld os).forCall (fun _ _ => 0) ⟨#[], #[.agg #[.int .u32 0, .slice none 0 0, .slice none 0 0, .bool false, .int .i64 0], .slice none 0 0, .slice none 0 0, .int .u32 0], []⟩).memory :=
  laidMet_of_run' 8 (by kernel_rfl) (by kernel_rfl)
theorem reads (os : Os) {H : Type} (enc : TypeId × Value → H) : ∃ places, DataW.whole enc Tryd.prog ((laidWorld os).forCall (fun _ _ => 0) ⟨#[], #[.agg #[.int .u32 0, .slice none 0 0, .slice none 0 0, .bool false, .int .i64 0], .slice none 0 0, .slice none 0 0, .int .u32 0], []⟩).memory Tryd.f4.params.toList Rows.devSafeSpec.vars false (#[.agg #[.int .u32 0, .slice none 0 0, .slice none 0 0, .bool false, .int .i64 0], .slice none 0 0, .slice none 0 0, .int .u32 0] : Array Value).toList 8 = some ([.agg [.lit (.int .u32 0), .nil, .nil, .lit (.bool false), .lit (.int .i64 0)], .nil, .nil, .lit (.int .u32 0)], [], places) :=
  ⟨[], by kernel_rfl⟩
set_option maxHeartbeats 1000000 in
set_option maxRecDepth 100000 in
theorem lifted (os : Os) (started : os.Started) (H : Type) (enc : TypeId × Value → H) (F : Stop.Interp) :
    ReturnsInHanded {} Tryd.checked os 4 .any ((OpenSpec.ofChange Rows.devSafeSpec).preRow enc Tryd.prog Tryd.f4 Rows.devSafeRow.domain false Rows.devSafeRow.laid) (((OpenSpec.ofChange Rows.devSafeSpec).at F).post enc Tryd.prog Tryd.f4 false true false false) := by
  obtain ⟨places, hx⟩ := reads os enc
  refine returnsInHanded_of_row (C := Tryd.checked) (s := OpenSpec.ofChange Rows.devSafeSpec) own started (by kernel_rfl) Tryd.func4
    (witness_row_at (enc := enc) (C := Tryd.checked) false (laidWorld os) #[.agg #[.int .u32 0, .slice none 0 0, .slice none 0 0, .bool false, .int .i64 0], .slice none 0 0, .slice none 0 0, .int .u32 0] rfl (by kernel_rfl) (by kernel_rfl) (by kernel_rfl)
      (OpenSpec.preRow_of_cond 8 hx (by kernel_rfl) (fun k hk => by cases hk) (by kernel_rfl) (laid_met os))) ?_
  intro W base args ds gs before hval0 hW hcn0_ hcnd hwz_ _ _ _
  have hsz : (DataW.weightsEach Tryd.prog (Tryd.f4.params.toList ++ Rows.devSafeSpec.plain.varTypes Tryd.prog) (ds ++ gs)).all (· ≤ reachBytes) = true := hwz_
  have hval : ∀ (j : Nat) t v, Tryd.f4.params[j]? = some t → args[j]? = some v → Value.okWide Tryd.prog W .any base t v := hval0
  have hW' := hW
  obtain ⟨p, q, hA0, hV, rfl, hfz, hnd⟩ := hW
  have hA : DataW.TrodAll enc Tryd.prog W 0 (fun _ => true) true Tryd.f4.params.toList args.toList ds p := hA0
  rw [Tryd.params4] at hA hval hsz
  obtain ⟨v0, vs0, d0, ds0, p0, q0, hargs, rfl, rfl, h0, r0⟩ := trodAll_cons hA
  obtain ⟨v1, vs1, d1, ds1, p1, q1, rfl, rfl, rfl, h1, r1⟩ := trodAll_cons r0
  obtain ⟨v2, vs2, d2, ds2, p2, q2, rfl, rfl, rfl, h2, r2⟩ := trodAll_cons r1
  obtain ⟨v3, vs3, d3, ds3, p3, q3, rfl, rfl, rfl, h3, r3⟩ := trodAll_cons r2
  obtain ⟨rfl, rfl, rfl⟩ := trodAll_nil r3
  obtain rfl : args = #[v0, v1, v2, v3] := by cases args; simp_all
  obtain ⟨rfl, rfl⟩ := trodVars_none hV
  have k0 := h0
  have lt0 : ∀ x ∈ p0, x.block < W.heap.size := by obtain ⟨m, hm⟩ := k0; exact DataW.trod_lt m _ _ _ hm
  obtain ⟨cs0, rfl, hsz_0⟩ := okWide_struct Tryd.underlying25 (hval 0 25 v0 rfl rfl)
  obtain ⟨fuel0, hf0⟩ := h0
  obtain ⟨ys0, n0, hl0, hy0, hx0, hfs0⟩ := Z.flat_fields Tryd.underlying25 (by kernel_rfl) (by kernel_rfl) hf0
  obtain ⟨q0_0, q0_1, q0_2, q0_3, q0_4, rfl⟩ := arrOf5 cs0 hl0
  obtain ⟨r0_0, r0_1, r0_2, r0_3, r0_4, rfl⟩ := lstOf5 ys0 hy0
  obtain ⟨a0_0, hk0_0, hG0_0, hB0_0⟩ := (Z.Opens.int Tryd.underlying22 (by kernel_rfl)).2 (hfs0 0 _ q0_0 rfl rfl)
  have hk0_0' : [q0_0] = [.int .u32 a0_0] := hk0_0
  simp only [List.cons.injEq, and_true] at hk0_0'
  subst hk0_0'
  clear hk0_0
  obtain ⟨A0_1, c0_1, l0_1, hcs0_1, hlc0_1, hcm0_1, hC0_1, hG0_1, hB0_1, hx0_1⟩ := Z.Opens.row Tryd.underlying23 Z.opens39 (of_decide_eq_true (by kernel_rfl)) (hfs0 1 _ q0_1 rfl rfl)
  simp only [List.cons.injEq, and_true] at hcs0_1
  subst hcs0_1
  have hlm0_1 : l0_1.length ≤ maxLen := Nat.le_trans hlc0_1 hcm0_1
  obtain ⟨A0_2, c0_2, l0_2, hcs0_2, hlc0_2, hcm0_2, hC0_2, hG0_2, hB0_2, hx0_2⟩ := Z.Opens.row Tryd.underlying23 Z.opens39 (of_decide_eq_true (by kernel_rfl)) (hfs0 2 _ q0_2 rfl rfl)
  simp only [List.cons.injEq, and_true] at hcs0_2
  subst hcs0_2
  have hlm0_2 : l0_2.length ≤ maxLen := Nat.le_trans hlc0_2 hcm0_2
  obtain ⟨a0_3, hk0_3, hG0_3, hB0_3⟩ := (Z.Opens.bool Tryd.underlying4 (by kernel_rfl)).2 (hfs0 3 _ q0_3 rfl rfl)
  have hk0_3' : [q0_3] = [.bool a0_3] := hk0_3
  simp only [List.cons.injEq, and_true] at hk0_3'
  subst hk0_3'
  clear hk0_3
  obtain ⟨a0_4, hk0_4, hG0_4, hB0_4⟩ := (Z.Opens.int Tryd.underlying3 (by kernel_rfl)).2 (hfs0 4 _ q0_4 rfl rfl)
  have hk0_4' : [q0_4] = [.int .i64 a0_4] := hk0_4
  simp only [List.cons.injEq, and_true] at hk0_4'
  subst hk0_4'
  clear hk0_4
  have k1 := h1
  have lt1 : ∀ x ∈ p1, x.block < W.heap.size := by obtain ⟨m, hm⟩ := k1; exact DataW.trod_lt m _ _ _ hm
  obtain ⟨a1, len1, cap1, rfl⟩ := okWide_slice Tryd.underlying23 (hval 1 23 v1 rfl rfl)
  obtain ⟨fuel1, hf1⟩ := h1
  obtain ⟨A1, c1, l1, hcs1, hlc1, hcm1, hC1, hG1, hB1, hx1⟩ := Z.Opens.row Tryd.underlying23 Z.opens39 (of_decide_eq_true (by kernel_rfl)) hf1
  simp only [Value.cells, List.cons.injEq, Value.slice.injEq, and_true] at hcs1
  obtain ⟨rfl, rfl, rfl⟩ := hcs1
  have hlm1 : l1.length ≤ maxLen := Nat.le_trans hlc1 hcm1
  have hsz1 : l1.length * 24 ≤ 140737488351232 := Z.sized_row hsz (j := 1) (t := 23) rfl rfl Tryd.underlying23 (by kernel_rfl) hx1
  have k2 := h2
  have lt2 : ∀ x ∈ p2, x.block < W.heap.size := by obtain ⟨m, hm⟩ := k2; exact DataW.trod_lt m _ _ _ hm
  obtain ⟨a2, len2, cap2, rfl⟩ := okWide_slice Tryd.underlying37 (hval 2 37 v2 rfl rfl)
  obtain ⟨fuel2, hf2⟩ := h2
  obtain ⟨A2, c2, l2, hcs2, hlc2, hcm2, hC2, hG2, hB2, hx2⟩ := Z.Opens.row Tryd.underlying37 (Z.Opens.bool Tryd.underlying4 (by kernel_rfl)) (of_decide_eq_true (by kernel_rfl)) hf2
  simp only [Value.cells, List.cons.injEq, Value.slice.injEq, and_true] at hcs2
  obtain ⟨rfl, rfl, rfl⟩ := hcs2
  have hlm2 : l2.length ≤ maxLen := Nat.le_trans hlc2 hcm2
  have hsz2 : l2.length * 1 ≤ 140737488351232 := Z.sized_row hsz (j := 2) (t := 37) rfl rfl Tryd.underlying37 (by kernel_rfl) hx2
  have k3 := h3
  have lt3 : ∀ x ∈ p3, x.block < W.heap.size := by obtain ⟨m, hm⟩ := k3; exact DataW.trod_lt m _ _ _ hm
  obtain ⟨a3, rfl, rfl, rfl, w3⟩ := open_int Tryd.underlying22 (hval 3 22 v3 rfl rfl) h3
  have hP := Pure.DevSafe a0_0 l0_1 l0_2 a0_3 a0_4 l1 l2 a3 hG0_0 hlm0_1 hG0_1 hlm0_2 hG0_2 hG0_4 hlm1 hG1 hsz1 hlm2 hG2 hsz2 w3
  obtain ⟨k, hk⟩ := hP
  refine (Z.cambiumlaw03_DevSafe.calls k a0_0 _ _ l0_1 _ _ l0_2 a0_3 a0_4 _ _ l1 _ _ l2 a3 true W hC0_1 hlc0_1 hC0_2 hlc0_2 hC1 hlc1 hC2 hlc2 hk).mono fun e W' ⟨he, bel0⟩ => ?_
  have bel : Below W.heap.size W W' := bel0
  subst he
  exact ⟨_, rfl, _, _, _, [], _, [], hW', trodAll_mk1 (shut_bool Tryd.underlying4 _), (trodAll_cons_mk (Below.trod laidOut (by kernel_rfl) (of_decide_eq_true (by kernel_rfl)) k0 bel lt0) (trodAll_cons_mk (Below.trod laidOut (by kernel_rfl) (of_decide_eq_true (by kernel_rfl)) k1 bel lt1) (trodAll_cons_mk (Below.trod laidOut (by kernel_rfl) (of_decide_eq_true (by kernel_rfl)) k2 bel lt2) (trodAll_cons_mk (Below.trod laidOut (by kernel_rfl) (of_decide_eq_true (by kernel_rfl)) k3 bel lt3) trodAll_mk0)))), rfl, bel.frame _, fun h => by cases h⟩
theorem over : Rows.DevSafeSaid :=
  OpenClaim.holds_of_cond 4 Tryd.f4 rfl rfl rfl rfl rfl rfl rfl ⟨rfl, rfl, rfl, rfl, rfl⟩ rfl rfl rfl rfl rfl (by kernel_rfl) Tryd.func4 (by kernel_rfl)
    (of_decide_eq_true (by kernel_rfl)) (by unfold Func.isWrapper; first | (rw [if_pos (by decide +kernel)]; kernel_rfl) | (rw [if_neg (by decide +kernel)]; exact ⟨rfl, rfl⟩))
    (fun os started H enc _ F => by rw [OpenClaim.pre_eq_preRow]; exact lifted os started H enc F)
theorem plain (f : FuncId) (fn : Func) (hf : Tryd.pinned.checked.prog.funcNamed "cambium/cambiumlaw03.DevSafe" = some f) (hfn : Tryd.pinned.checked.prog.funcs[f]? = some fn) :
    false = Tryd.pinned.checked.prog.looks [] ∧ ∀ (j : Nat) t, fn.params[j]? = some t → Tryd.pinned.checked.prog.wantsStandIn t = false := by
  obtain rfl : f = 4 := Option.some.inj ((show Tryd.prog.funcNamed "cambium/cambiumlaw03.DevSafe" = some 4 by kernel_rfl).symm.trans hf) |>.symm
  obtain rfl : fn = Tryd.f4 := (Option.some.inj (Tryd.func4.symm.trans hfn)).symm
  refine ⟨by kernel_rfl, fun j t ht => ?_⟩
  rw [Tryd.params4] at ht
  have hm := Array.mem_of_getElem? ht
  simp only [List.mem_toArray, List.mem_cons, List.not_mem_nil, or_false] at hm
  rcases hm with rfl | rfl | rfl | rfl <;> exact (show Tryd.prog.wantsStandIn _ = false by kernel_rfl)
theorem card : Rows.DevSafeCardSaid :=
  Claim7.holds_tied_plain_at .later [] _ _ _ _ over (fun _ h => by cases h) (by kernel_rfl) (fun _ h => by cases h) devSafe_row_tie rfl ⟨rfl, rfl⟩ (by kernel_rfl) rfl plain (by kernel_rfl)
end Go.Proofs.YtcphflfjhkeooaaDoor.devSafe
namespace Go.Proofs.YtcphflfjhkeooaaDoor
theorem devSafe_holds : Rows.DevSafeCardSaid := devSafe.card
#print axioms devSafe_holds
end Go.Proofs.YtcphflfjhkeooaaDoor
end
