/- DirsLinks: at every input the law's function returns true and leaves its arguments as they were; no condition beyond the row's own. Part 5 of 5: this session's own texts, laid together. -/
import Derived.Test.YtpnmajblhgnkoaaMB1
import Derived.Test.YtpnmajblhgnkoaaMB4
import Derived.Test.YtpnmajblhgnkoaaMB3
import Derived.Test.YtpnmajblhgnkoaaRows
import Derived.WalkKit
import Derived.ProofKit
import Derived.OpenShut
import Derived.ShutString
import Derived.ChangeOld
import Derived.Below
import Derived.SizedLaws
import Derived.Carry
section
-- Printed by a program of this session (mp.py) out of the translation.
namespace Go.Proofs.Ytpnmajblhgnkoaa.Z
open Go.RowKit Go.Proofs.YtpnmajblhgnkoaaW.PrintWords Go.Proofs.YtpnmajblhgnkoaaW.PrintLast Go.Proofs.YtpnmajblhgnkoaaW.PrintMore
attribute [local go_sem] max2_int min2_int max_two min_two max_three min_three max_four min_four   -- for this text's walks alone
set_option linter.unusedVariables false
set_option linter.unusedSimpArgs false

/-! ### cambiumlaw14_DirsLinks: function 4 -/
def cambiumlaw14_DirsLinks.j0 : Nat → List (S61) → Int → Int → Int → Int → Bool → Option (Bool)
  | 0, _, _, _, _, _, _ => none
  | k + 1, x0, x5, x6, x7, x8, x45 => if x45 = true then (some false) else (if x8 = 0 then ((dirs_Get.f k x0 x7).bind fun bt305 => (if bt305.2.2.2.2.2 = 0 then (if bt305.1 = 3 then (some true) else (if x6 = 0 then (some (x5 == x7)) else (some false))) else (some false))) else (some (x6 == x8)))
def cambiumlaw14_DirsLinks.f (k : Nat) (l0 : List (S61)) (l1 : List ByteArray) : Option (Bool) := (cambiumlaw14_lives.f k).bind fun t293 => (if t293 = true then ((dirs_Walk.f k l0 l1 true).bind fun bt294 => ((dirs_Walk.f k l0 l1 false).bind fun bt296 => (if bt294.2 = 0 then ((dirs_Get.f k l0 bt294.1).bind fun bt298 => (if bt298.2.2.2.2.2 = 0 then (if bt298.1 = 3 then (cambiumlaw14_DirsLinks.j0 k l0 bt294.1 bt294.2 bt296.1 bt296.2 true) else (cambiumlaw14_DirsLinks.j0 k l0 bt294.1 bt294.2 bt296.1 bt296.2 (bt296.2 != 0))) else (cambiumlaw14_DirsLinks.j0 k l0 bt294.1 bt294.2 bt296.1 bt296.2 true))) else (if bt296.2 = 0 then ((dirs_Get.f k l0 bt296.1).bind fun bt312 => (if bt312.2.2.2.2.2 = 0 then (if bt312.1 = 3 then (some true) else (some false)) else (some false))) else (some (bt294.2 == bt296.2)))))) else (some false))
theorem cambiumlaw14_DirsLinks.mono_l : ∀ k, (∀ y0 y1 y2 y3 y4 y5, LeO (cambiumlaw14_DirsLinks.j0 k y0 y1 y2 y3 y4 y5) (cambiumlaw14_DirsLinks.j0 (k + 1) y0 y1 y2 y3 y4 y5))
  | 0 => fun _ _ _ _ _ _ r h => by simp [cambiumlaw14_DirsLinks.j0] at h
  | k + 1 => by
    have ih0 := cambiumlaw14_DirsLinks.mono_l k
    · intro y0 y1 y2 y3 y4 y5
      unfold cambiumlaw14_DirsLinks.j0
      repeat' first
      | (with_reducible exact ih0 _ _ _ _ _ _)
      | (with_reducible exact cambiumlaw14_lives.mono _)
      | (with_reducible exact dirs_Get.mono _ _ _)
      | (with_reducible exact dirs_Walk.mono _ _ _ _)
      | (with_reducible exact LeO.refl _)
      | (with_reducible exact LeO.none _)
      | (with_reducible refine LeO.ite ?_ ?_)
      | (with_reducible refine LeO.bind ?_ (fun _ => ?_))
      | exact ih0 _ _ _ _ _ _
      | exact cambiumlaw14_lives.mono _
      | exact dirs_Get.mono _ _ _
      | exact dirs_Walk.mono _ _ _ _
      | exact LeO.none _
      | refine LeO.ite ?_ ?_
      | refine LeO.bind ?_ (fun _ => ?_)
theorem cambiumlaw14_DirsLinks.mono : ∀ a0 a1 k, LeO (cambiumlaw14_DirsLinks.f k a0 a1) (cambiumlaw14_DirsLinks.f (k + 1) a0 a1) := by
  intro a0 a1 k
  have ih0 := cambiumlaw14_DirsLinks.mono_l k
  unfold cambiumlaw14_DirsLinks.f
  repeat' first
      | (with_reducible exact ih0 _ _ _ _ _ _)
      | (with_reducible exact cambiumlaw14_lives.mono _)
      | (with_reducible exact dirs_Get.mono _ _ _)
      | (with_reducible exact dirs_Walk.mono _ _ _ _)
      | (with_reducible exact LeO.refl _)
      | (with_reducible exact LeO.none _)
      | (with_reducible refine LeO.ite ?_ ?_)
      | (with_reducible refine LeO.bind ?_ (fun _ => ?_))
      | exact ih0 _ _ _ _ _ _
      | exact cambiumlaw14_lives.mono _
      | exact dirs_Get.mono _ _ _
      | exact dirs_Walk.mono _ _ _ _
      | exact LeO.none _
      | refine LeO.ite ?_ ?_
      | refine LeO.bind ?_ (fun _ => ?_)
set_option maxHeartbeats 8000000 in
set_option maxRecDepth 100000 in
theorem cambiumlaw14_DirsLinks.calls (k : Nat) (A0 : Option Addr) (c0 : Nat) (l0 : List (S61)) (A1 : Option Addr) (c1 : Nat) (l1 : List ByteArray) (r : Bool) (w : World) (hr0 : Kd.C k61 w A0 l0.length l0) (hc0 : l0.length ≤ c0) (hr1 : Kd.C Kd.string w A1 l1.length l1) (hc1 : l1.length ≤ c1) (h : cambiumlaw14_DirsLinks.f k l0 l1 = some r) (hT_ : r = true := by rfl) :
    Calls Try.prog 4 #[.slice A0 l0.length c0, .slice A1 l1.length c1] w fun e w' => e = .returned (.bool r) ∧ Below w.heap.size w w' := by
  have HT_ := Aside0.mk hT_
  clear hT_
  have hu37 := Try.underlying37
  have HR0 := Aside0.mk hr0
  have HC0 := Aside0.mk hc0
  clear hr0 hc0
  have HR1 := Aside0.mk hr1
  have HC1 := Aside0.mk hc1
  clear hr1 hc1
  have HB := Aside0.mk (Below.refl w.heap.size w)
  have H : ((cambiumlaw14_lives.f k).bind fun t293 => (if t293 = true then ((dirs_Walk.f k l0 l1 true).bind fun bt294 => ((dirs_Walk.f k l0 l1 false).bind fun bt296 => (if bt294.2 = 0 then ((dirs_Get.f k l0 bt294.1).bind fun bt298 => (if bt298.2.2.2.2.2 = 0 then (if bt298.1 = 3 then (cambiumlaw14_DirsLinks.j0 k l0 bt294.1 bt294.2 bt296.1 bt296.2 true) else (cambiumlaw14_DirsLinks.j0 k l0 bt294.1 bt294.2 bt296.1 bt296.2 (bt296.2 != 0))) else (cambiumlaw14_DirsLinks.j0 k l0 bt294.1 bt294.2 bt296.1 bt296.2 true))) else (if bt296.2 = 0 then ((dirs_Get.f k l0 bt296.1).bind fun bt312 => (if bt312.2.2.2.2.2 = 0 then (if bt312.1 = 3 then (some true) else (some false)) else (some false))) else (some (bt294.2 == bt296.2)))))) else (some false))) = some r := h
  clear h
  replace H := Option.bind_eq_some_iff.mp H
  obtain ⟨t293, A30, H⟩ := H
  replace H : (if t293 = true then ((dirs_Walk.f k l0 l1 true).bind fun bt294 => ((dirs_Walk.f k l0 l1 false).bind fun bt296 => (if bt294.2 = 0 then ((dirs_Get.f k l0 bt294.1).bind fun bt298 => (if bt298.2.2.2.2.2 = 0 then (if bt298.1 = 3 then (cambiumlaw14_DirsLinks.j0 k l0 bt294.1 bt294.2 bt296.1 bt296.2 true) else (cambiumlaw14_DirsLinks.j0 k l0 bt294.1 bt294.2 bt296.1 bt296.2 (bt296.2 != 0))) else (cambiumlaw14_DirsLinks.j0 k l0 bt294.1 bt294.2 bt296.1 bt296.2 true))) else (if bt296.2 = 0 then ((dirs_Get.f k l0 bt296.1).bind fun bt312 => (if bt312.2.2.2.2.2 = 0 then (if bt312.1 = 3 then (some true) else (some false)) else (some false))) else (some (bt294.2 == bt296.2)))))) else (some false)) = some r := H
  have A3 := Aside0.mk A30
  clear A30
  by_cases c4 : t293 = true
  · subst c4
    have H1 : ((dirs_Walk.f k l0 l1 true).bind fun bt294 => ((dirs_Walk.f k l0 l1 false).bind fun bt296 => (if bt294.2 = 0 then ((dirs_Get.f k l0 bt294.1).bind fun bt298 => (if bt298.2.2.2.2.2 = 0 then (if bt298.1 = 3 then (cambiumlaw14_DirsLinks.j0 k l0 bt294.1 bt294.2 bt296.1 bt296.2 true) else (cambiumlaw14_DirsLinks.j0 k l0 bt294.1 bt294.2 bt296.1 bt296.2 (bt296.2 != 0))) else (cambiumlaw14_DirsLinks.j0 k l0 bt294.1 bt294.2 bt296.1 bt296.2 true))) else (if bt296.2 = 0 then ((dirs_Get.f k l0 bt296.1).bind fun bt312 => (if bt312.2.2.2.2.2 = 0 then (if bt312.1 = 3 then (some true) else (some false)) else (some false))) else (some (bt294.2 == bt296.2)))))) = some r := by rw [if_pos rfl] at H; exact H
    clear H
    have H := H1
    clear H1
    replace H := Option.bind_eq_some_iff.mp H
    obtain ⟨⟨t294, t295⟩, A50, H⟩ := H
    replace H : ((dirs_Walk.f k l0 l1 false).bind fun bt296 => (if t295 = 0 then ((dirs_Get.f k l0 t294).bind fun bt298 => (if bt298.2.2.2.2.2 = 0 then (if bt298.1 = 3 then (cambiumlaw14_DirsLinks.j0 k l0 t294 t295 bt296.1 bt296.2 true) else (cambiumlaw14_DirsLinks.j0 k l0 t294 t295 bt296.1 bt296.2 (bt296.2 != 0))) else (cambiumlaw14_DirsLinks.j0 k l0 t294 t295 bt296.1 bt296.2 true))) else (if bt296.2 = 0 then ((dirs_Get.f k l0 bt296.1).bind fun bt312 => (if bt312.2.2.2.2.2 = 0 then (if bt312.1 = 3 then (some true) else (some false)) else (some false))) else (some (t295 == bt296.2))))) = some r := H
    have A5 := Aside0.mk A50
    clear A50
    replace H := Option.bind_eq_some_iff.mp H
    obtain ⟨⟨t296, t297⟩, A60, H⟩ := H
    replace H : (if t295 = 0 then ((dirs_Get.f k l0 t294).bind fun bt298 => (if bt298.2.2.2.2.2 = 0 then (if bt298.1 = 3 then (cambiumlaw14_DirsLinks.j0 k l0 t294 t295 t296 t297 true) else (cambiumlaw14_DirsLinks.j0 k l0 t294 t295 t296 t297 (t297 != 0))) else (cambiumlaw14_DirsLinks.j0 k l0 t294 t295 t296 t297 true))) else (if t297 = 0 then ((dirs_Get.f k l0 t296).bind fun bt312 => (if bt312.2.2.2.2.2 = 0 then (if bt312.1 = 3 then (some true) else (some false)) else (some false))) else (some (t295 == t297)))) = some r := H
    have A6 := Aside0.mk A60
    clear A60
    by_cases c7 : t295 = 0
    · rw [if_pos c7] at H
      have c7b0 : (t295 == 0) = true := beq_iff_eq.mpr c7
      have c7b1 : (t295 != 0) = false := bne_eq_false_iff_eq.mpr c7
      clear c7
      replace H := Option.bind_eq_some_iff.mp H
      obtain ⟨⟨t298, t299, t300, t301, t302, t303⟩, A80, H⟩ := H
      replace H : (if t303 = 0 then (if t298 = 3 then (cambiumlaw14_DirsLinks.j0 k l0 t294 t295 t296 t297 true) else (cambiumlaw14_DirsLinks.j0 k l0 t294 t295 t296 t297 (t297 != 0))) else (cambiumlaw14_DirsLinks.j0 k l0 t294 t295 t296 t297 true)) = some r := H
      have A8 := Aside0.mk A80
      clear A80
      have HC9 := Aside0.mk H
      clear H
      go_enter Try.func4, Try.ntmps4
      go_upto_region 7 with (first | ((with_reducible refine gate_callee (f := 7) rfl ?_); refine gl_ (some 13) Try.func7 #[] ?_; (with_reducible refine (cambiumlaw14_lives.calls k  true _ A3.out).mono ?_); rintro e w10 ⟨rfl, hb⟩; refine ⟨_, rfl, ?_⟩; have n0_ := Aside0.mk (below_step bel_ hb); clear HB; have HB := n0_; clear n0_; (try clear hb); (try clear hb2); (try clear hk); (try clear hi)) | ((with_reducible refine gate_callee (f := 8) rfl ?_); refine gl_ (some 18) Try.func8 #[.slice A0 l0.length c0, .slice A1 l1.length c1, .bool true] ?_; (with_reducible refine (dirs_Walk.calls k _ _ l0 _ _ l1 true t294 t295 _ ?side1 ?side2 ?side3 ?side4 A5.out).mono ?_); (case side1 => exact cb_ HR0); (case side2 => exact HC0.out); (case side3 => exact cb_ HR1); (case side4 => exact HC1.out); rintro e w11 ⟨rfl, hb⟩; refine ⟨_, rfl, ?_⟩; have n0_ := Aside0.mk (below_step bel_ hb); clear HB; have HB := n0_; clear n0_; (try clear hb); (try clear hb2); (try clear hk); (try clear hi)) | ((with_reducible refine gate_callee (f := 8) rfl ?_); refine gl_ (some 24) Try.func8 #[.slice A0 l0.length c0, .slice A1 l1.length c1, .bool false] ?_; (with_reducible refine (dirs_Walk.calls k _ _ l0 _ _ l1 false t296 t297 _ ?side1 ?side2 ?side3 ?side4 A6.out).mono ?_); (case side1 => exact cb_ HR0); (case side2 => exact HC0.out); (case side3 => exact cb_ HR1); (case side4 => exact HC1.out); rintro e w12 ⟨rfl, hb⟩; refine ⟨_, rfl, ?_⟩; have n0_ := Aside0.mk (below_step bel_ hb); clear HB; have HB := n0_; clear n0_; (try clear hb); (try clear hb2); (try clear hk); (try clear hi)) | ((with_reducible refine gate_callee (f := 10) rfl ?_); refine gl_ (some 32) Try.func10 #[.slice A0 l0.length c0, .int .u32 t294] ?_; (with_reducible refine (dirs_Get.calls k _ _ l0 t294 t298 t299 t300 t301 t302 t303 _ ?side1 ?side2 A8.out).mono ?_); (case side1 => exact cb_ HR0); (case side2 => exact HC0.out); rintro e w13 ⟨rfl, hb⟩; refine ⟨_, rfl, ?_⟩; have n0_ := Aside0.mk (below_step bel_ hb); clear HB; have HB := n0_; clear n0_; (try clear hb); (try clear hb2); (try clear hk); (try clear hi)) | ((with_reducible refine gate_dst (N := 9) rfl ?_); refine bx_ (N := 9) (cs := #[.int .u8 0, .int .u16 0, .int .u32 0, .int .u32 0, .string (⟨#[]⟩ : ByteArray)]) (t := 37) ?_; intro gb304 hg w14 hbox hb; have n0_ := Aside0.mk (below_step bel_ hb); have n1_ := Aside0.mk (hbox); have n2_ := Aside0.mk ((by rw [hg]; exact (below_size bel_) : w.heap.size ≤ gb304)); have n3_ := Aside0.mk ((by rw [hg]; exact (below_size bel_) : w.heap.size ≤ gb304)); clear HB; have HB := n0_; have BK304 := n1_; have GW304 := n2_; have GE304 := n3_; clear n0_ n1_ n2_ n3_; clear hb hbox hg; have hcz15_0 : w14.cell? ⟨gb304, 0, none⟩ = some (.int .u8 0) := (blk_cell BK304.out 0).trans rfl; have hcz15_1 : w14.cell? ⟨gb304, 1, none⟩ = some (.int .u16 0) := (blk_cell BK304.out 1).trans rfl; have hcz15_2 : w14.cell? ⟨gb304, 2, none⟩ = some (.int .u32 0) := (blk_cell BK304.out 2).trans rfl; have hcz15_3 : w14.cell? ⟨gb304, 3, none⟩ = some (.int .u32 0) := (blk_cell BK304.out 3).trans rfl; have hcz15_4 : w14.cell? ⟨gb304, 4, none⟩ = some (.string (⟨#[]⟩ : ByteArray)) := (blk_cell BK304.out 4).trans rfl; have hfz15_0 := blk_frozen BK304.out 0; have hfz15_1 := blk_frozen BK304.out 1; have hfz15_2 := blk_frozen BK304.out 2; have hfz15_3 := blk_frozen BK304.out 3; have hfz15_4 := blk_frozen BK304.out 4))
      (try simp only [Act.put, List.setIfInBounds_toArray, List.set_cons_zero, List.set_cons_succ])
      go_cut [45] (fun v45 wc => ∃ (kq : Nat) (x45_8 : Bool), v45 = .bool x45_8 ∧ Aside0 (cambiumlaw14_DirsLinks.j0 kq l0 t294 t295 t296 t297 x45_8 = some r) ∧ Aside0 (kq ≤ k) ∧ Aside0 (wc.heap[gb304]? = some (.cells #[.int .u8 t298, .int .u16 t299, .int .u32 t300, .int .u32 t301, .string t302] 37 (0, 0))) ∧ Aside0 (Below w.heap.size w wc))
      case first =>
        have H := HC9.out
        clear HC9
        by_cases c16 : t303 = 0
        · rw [if_pos c16] at H
          have c16b0 : (t303 == 0) = true := beq_iff_eq.mpr c16
          have c16b1 : (t303 != 0) = false := bne_eq_false_iff_eq.mpr c16
          clear c16
          (first | rw [c16b0] | (simp only [i64_w, i32_w]; rw [c16b0]) | skip)
          by_cases c17 : t298 = 3
          · rw [if_pos c17] at H
            have c17b0 : (t298 == 3) = true := beq_iff_eq.mpr c17
            have c17b1 : (t298 != 3) = false := bne_eq_false_iff_eq.mpr c17
            clear c17
            have H' := Aside0.mk H
            clear H
            obtain ⟨hcz18_0, hcz18_1, hcz18_2, hcz18_3, hcz18_4⟩ := cl5_ BK304
            obtain ⟨hfz18_0, hfz18_1, hfz18_2, hfz18_3, hfz18_4⟩ := fz5_ BK304
            go_wp2
            go_meet
            case rel => exact ⟨_, (true), (by first | rfl | (simp; done) | (simp [*]; done)), H', ⟨by first | omega | exact Nat.le_refl _⟩, ⟨bs_⟩, ⟨bel_⟩⟩
          rw [if_neg c17] at H
          have c17b0 : (t298 == 3) = false := beq_eq_false_iff_ne.mpr c17
          have c17b1 : (t298 != 3) = true := bne_iff_ne.mpr c17
          have H' := Aside0.mk H
          clear H
          obtain ⟨hcz19_0, hcz19_1, hcz19_2, hcz19_3, hcz19_4⟩ := cl5_ BK304
          obtain ⟨hfz19_0, hfz19_1, hfz19_2, hfz19_3, hfz19_4⟩ := fz5_ BK304
          go_wp2
          go_meet
          case rel => exact ⟨_, ((t297 != 0)), (by first | rfl | (simp; done) | (simp [*]; done)), H', ⟨by first | omega | exact Nat.le_refl _⟩, ⟨bs_⟩, ⟨bel_⟩⟩
        rw [if_neg c16] at H
        have c16b0 : (t303 == 0) = false := beq_eq_false_iff_ne.mpr c16
        have c16b1 : (t303 != 0) = true := bne_iff_ne.mpr c16
        (first | rw [c16b0] | (simp only [i64_w, i32_w]; rw [c16b0]) | skip)
        have H' := Aside0.mk H
        clear H
        go_wp2
        go_meet
        case rel => exact ⟨_, (true), (by first | rfl | (simp; done) | (simp [*]; done)), H', ⟨by first | omega | exact Nat.le_refl _⟩, ⟨bs_⟩, ⟨bel_⟩⟩
      case rest =>
        clear HC9
        try clear c1
        try clear p2
        try clear c4
        try clear c7
        try clear c7b0
        try clear c7b1
        try clear c8
        try clear c10
        try clear c16
        try clear c16b0
        try clear c16b1
        try clear c17
        try clear c17b0
        try clear c17b1
        try clear hcz15_0
        try clear hcz15_1
        try clear hcz15_2
        try clear hcz15_3
        try clear hcz15_4
        try clear hcz18_0
        try clear hcz18_1
        try clear hcz18_2
        try clear hcz18_3
        try clear hcz18_4
        try clear hcz19_0
        try clear hcz19_1
        try clear hcz19_2
        try clear hcz19_3
        try clear hcz19_4
        try clear hfz15_0
        try clear hfz15_1
        try clear hfz15_2
        try clear hfz15_3
        try clear hfz15_4
        try clear hfz18_0
        try clear hfz18_1
        try clear hfz18_2
        try clear hfz18_3
        try clear hfz18_4
        try clear hfz19_0
        try clear hfz19_1
        try clear hfz19_2
        try clear hfz19_3
        try clear hfz19_4
        obtain ⟨kq, x45_8, rfl, HA, HJ8, BK304, HB⟩ := hcut
        cases kq with
        | zero => exact absurd HA.out (by simp [cambiumlaw14_DirsLinks.j0])
        | succ kj8 =>
          have H := HA.out
          clear HA
          simp only [cambiumlaw14_DirsLinks.j0] at H
          by_cases c20 : x45_8 = true
          · subst c20
            have H1 : (some false) = some r := by rw [if_pos rfl] at H; exact H
            clear H
            have H := H1
            clear H1
            exact absurd ((Option.some.inj H).trans HT_.out) (by simp)
          replace c20 := Bool.eq_false_iff.mpr c20
          subst c20
          have H1 : (if t297 = 0 then ((dirs_Get.f kj8 l0 t296).bind fun bt305 => (if bt305.2.2.2.2.2 = 0 then (if bt305.1 = 3 then (some true) else (if t295 = 0 then (some (t294 == t296)) else (some false))) else (some false))) else (some (t295 == t297))) = some r := by rw [if_neg (show ¬ (false = true) by decide)] at H; exact H
          clear H
          have H := H1
          clear H1
          by_cases c21 : t297 = 0
          · rw [if_pos c21] at H
            have c21b0 : (t297 == 0) = true := beq_iff_eq.mpr c21
            have c21b1 : (t297 != 0) = false := bne_eq_false_iff_eq.mpr c21
            clear c21
            replace H := Option.bind_eq_some_iff.mp H
            obtain ⟨⟨t305, t306, t307, t308, t309, t310⟩, A220, H⟩ := H
            replace H : (if t310 = 0 then (if t305 = 3 then (some true) else (if t295 = 0 then (some (t294 == t296)) else (some false))) else (some false)) = some r := H
            have A22 := Aside0.mk A220
            clear A220
            by_cases c23 : t310 = 0
            · rw [if_pos c23] at H
              have c23b0 : (t310 == 0) = true := beq_iff_eq.mpr c23
              have c23b1 : (t310 != 0) = false := bne_eq_false_iff_eq.mpr c23
              clear c23
              by_cases c24 : t305 = 3
              · rw [if_pos c24] at H
                have c24b0 : (t305 == 3) = true := beq_iff_eq.mpr c24
                have c24b1 : (t305 != 3) = false := bne_eq_false_iff_eq.mpr c24
                clear c24
                obtain rfl := Option.some.inj H
                go_wp2_with (first | ((with_reducible refine gate_callee (f := 10) rfl ?_); refine gl_ (some 54) Try.func10 #[.slice A0 l0.length c0, .int .u32 t296] ?_; (with_reducible refine (dirs_Get.calls kj8 _ _ l0 t296 t305 t306 t307 t308 t309 t310 _ ?side1 ?side2 A22.out).mono ?_); (case side1 => exact cb_ HR0); (case side2 => exact HC0.out); rintro e w25 ⟨rfl, hb⟩; refine ⟨_, rfl, ?_⟩; replace BK304 := kb_ BK304 hb; replace HB := hb_ hb; (try clear hb); (try clear hb2); (try clear hk); (try clear hi)) | ((with_reducible refine gate_dst (N := 11) rfl ?_); refine bx_ (N := 11) (cs := #[.int .u8 0, .int .u16 0, .int .u32 0, .int .u32 0, .string (⟨#[]⟩ : ByteArray)]) (t := 37) ?_; intro gb311 hg w26 hbox hb; have BK311 := Aside0.mk (hbox); have GW311 := ge_ hg; have GE311 := ge_ hg; have NB304_311 := nl_ BK304 hg; have NB311_304 := ng_ BK304 hg; replace BK304 := kb_ BK304 hb; replace HB := hb_ hb; clear hb hbox hg; have hnb27 := NB311_304.out; have hnc27 := NB304_311.out; obtain ⟨hcz28_0, hcz28_1, hcz28_2, hcz28_3, hcz28_4⟩ := cl5_ BK311; obtain ⟨hfz28_0, hfz28_1, hfz28_2, hfz28_3, hfz28_4⟩ := fz5_ BK311))
                go_ret
                exact ⟨by first | rfl | (simp [errW_none, errW_some] <;> rfl) | (simp [*, errW_none, errW_some] <;> rfl), bel_⟩
              rw [if_neg c24] at H
              have c24b0 : (t305 == 3) = false := beq_eq_false_iff_ne.mpr c24
              have c24b1 : (t305 != 3) = true := bne_iff_ne.mpr c24
              by_cases c29 : t295 = 0
              · rw [if_pos c29] at H
                have c29b0 : (t295 == 0) = true := beq_iff_eq.mpr c29
                have c29b1 : (t295 != 0) = false := bne_eq_false_iff_eq.mpr c29
                clear c29
                obtain rfl := Option.some.inj H
                go_wp2_with (first | ((with_reducible refine gate_callee (f := 10) rfl ?_); refine gl_ (some 54) Try.func10 #[.slice A0 l0.length c0, .int .u32 t296] ?_; (with_reducible refine (dirs_Get.calls kj8 _ _ l0 t296 t305 t306 t307 t308 t309 t310 _ ?side1 ?side2 A22.out).mono ?_); (case side1 => exact cb_ HR0); (case side2 => exact HC0.out); rintro e w30 ⟨rfl, hb⟩; refine ⟨_, rfl, ?_⟩; replace BK304 := kb_ BK304 hb; replace HB := hb_ hb; (try clear hb); (try clear hb2); (try clear hk); (try clear hi)) | ((with_reducible refine gate_dst (N := 11) rfl ?_); refine bx_ (N := 11) (cs := #[.int .u8 0, .int .u16 0, .int .u32 0, .int .u32 0, .string (⟨#[]⟩ : ByteArray)]) (t := 37) ?_; intro gb311 hg w31 hbox hb; have BK311 := Aside0.mk (hbox); have GW311 := ge_ hg; have GE311 := ge_ hg; have NB304_311 := nl_ BK304 hg; have NB311_304 := ng_ BK304 hg; replace BK304 := kb_ BK304 hb; replace HB := hb_ hb; clear hb hbox hg; have hnb32 := NB311_304.out; have hnc32 := NB304_311.out; obtain ⟨hcz33_0, hcz33_1, hcz33_2, hcz33_3, hcz33_4⟩ := cl5_ BK311; obtain ⟨hfz33_0, hfz33_1, hfz33_2, hfz33_3, hfz33_4⟩ := fz5_ BK311))
                go_ret
                exact ⟨by first | rfl | (simp [errW_none, errW_some] <;> rfl) | (simp [*, errW_none, errW_some] <;> rfl), bel_⟩
              rw [if_neg c29] at H
              have c29b0 : (t295 == 0) = false := beq_eq_false_iff_ne.mpr c29
              have c29b1 : (t295 != 0) = true := bne_iff_ne.mpr c29
              exact absurd ((Option.some.inj H).trans HT_.out) (by simp)
            rw [if_neg c23] at H
            have c23b0 : (t310 == 0) = false := beq_eq_false_iff_ne.mpr c23
            have c23b1 : (t310 != 0) = true := bne_iff_ne.mpr c23
            exact absurd ((Option.some.inj H).trans HT_.out) (by simp)
          rw [if_neg c21] at H
          have c21b0 : (t297 == 0) = false := beq_eq_false_iff_ne.mpr c21
          have c21b1 : (t297 != 0) = true := bne_iff_ne.mpr c21
          obtain rfl := Option.some.inj H
          go_wp2
          go_ret
          exact ⟨by first | rfl | (simp [errW_none, errW_some] <;> rfl) | (simp [*, errW_none, errW_some] <;> rfl), bel_⟩
    rw [if_neg c7] at H
    have c7b0 : (t295 == 0) = false := beq_eq_false_iff_ne.mpr c7
    have c7b1 : (t295 != 0) = true := bne_iff_ne.mpr c7
    by_cases c34 : t297 = 0
    · rw [if_pos c34] at H
      have c34b0 : (t297 == 0) = true := beq_iff_eq.mpr c34
      have c34b1 : (t297 != 0) = false := bne_eq_false_iff_eq.mpr c34
      clear c34
      replace H := Option.bind_eq_some_iff.mp H
      obtain ⟨⟨t312, t313, t314, t315, t316, t317⟩, A350, H⟩ := H
      replace H : (if t317 = 0 then (if t312 = 3 then (some true) else (some false)) else (some false)) = some r := H
      have A35 := Aside0.mk A350
      clear A350
      by_cases c36 : t317 = 0
      · rw [if_pos c36] at H
        have c36b0 : (t317 == 0) = true := beq_iff_eq.mpr c36
        have c36b1 : (t317 != 0) = false := bne_eq_false_iff_eq.mpr c36
        clear c36
        by_cases c37 : t312 = 3
        · rw [if_pos c37] at H
          have c37b0 : (t312 == 3) = true := beq_iff_eq.mpr c37
          have c37b1 : (t312 != 3) = false := bne_eq_false_iff_eq.mpr c37
          clear c37
          obtain rfl := Option.some.inj H
          go_enter Try.func4, Try.ntmps4
          go_wp2_with (first | ((with_reducible refine gate_callee (f := 7) rfl ?_); refine gl_ (some 13) Try.func7 #[] ?_; (with_reducible refine (cambiumlaw14_lives.calls k  true _ A3.out).mono ?_); rintro e w38 ⟨rfl, hb⟩; refine ⟨_, rfl, ?_⟩; replace HB := hb_ hb; (try clear hb); (try clear hb2); (try clear hk); (try clear hi)) | ((with_reducible refine gate_callee (f := 8) rfl ?_); refine gl_ (some 18) Try.func8 #[.slice A0 l0.length c0, .slice A1 l1.length c1, .bool true] ?_; (with_reducible refine (dirs_Walk.calls k _ _ l0 _ _ l1 true t294 t295 _ ?side1 ?side2 ?side3 ?side4 A5.out).mono ?_); (case side1 => exact cb_ HR0); (case side2 => exact HC0.out); (case side3 => exact cb_ HR1); (case side4 => exact HC1.out); rintro e w39 ⟨rfl, hb⟩; refine ⟨_, rfl, ?_⟩; replace HB := hb_ hb; (try clear hb); (try clear hb2); (try clear hk); (try clear hi)) | ((with_reducible refine gate_callee (f := 8) rfl ?_); refine gl_ (some 24) Try.func8 #[.slice A0 l0.length c0, .slice A1 l1.length c1, .bool false] ?_; (with_reducible refine (dirs_Walk.calls k _ _ l0 _ _ l1 false t296 t297 _ ?side1 ?side2 ?side3 ?side4 A6.out).mono ?_); (case side1 => exact cb_ HR0); (case side2 => exact HC0.out); (case side3 => exact cb_ HR1); (case side4 => exact HC1.out); rintro e w40 ⟨rfl, hb⟩; refine ⟨_, rfl, ?_⟩; replace HB := hb_ hb; (try clear hb); (try clear hb2); (try clear hk); (try clear hi)) | ((with_reducible refine gate_callee (f := 10) rfl ?_); refine gl_ (some 54) Try.func10 #[.slice A0 l0.length c0, .int .u32 t296] ?_; (with_reducible refine (dirs_Get.calls k _ _ l0 t296 t312 t313 t314 t315 t316 t317 _ ?side1 ?side2 A35.out).mono ?_); (case side1 => exact cb_ HR0); (case side2 => exact HC0.out); rintro e w41 ⟨rfl, hb⟩; refine ⟨_, rfl, ?_⟩; replace HB := hb_ hb; (try clear hb); (try clear hb2); (try clear hk); (try clear hi)) | ((with_reducible refine gate_dst (N := 11) rfl ?_); refine bx_ (N := 11) (cs := #[.int .u8 0, .int .u16 0, .int .u32 0, .int .u32 0, .string (⟨#[]⟩ : ByteArray)]) (t := 37) ?_; intro gb318 hg w42 hbox hb; have BK318 := Aside0.mk (hbox); have GW318 := ge_ hg; have GE318 := ge_ hg; replace HB := hb_ hb; clear hb hbox hg; obtain ⟨hcz43_0, hcz43_1, hcz43_2, hcz43_3, hcz43_4⟩ := cl5_ BK318; obtain ⟨hfz43_0, hfz43_1, hfz43_2, hfz43_3, hfz43_4⟩ := fz5_ BK318))
          go_ret
          exact ⟨by first | rfl | (simp [errW_none, errW_some] <;> rfl) | (simp [*, errW_none, errW_some] <;> rfl), bel_⟩
        rw [if_neg c37] at H
        have c37b0 : (t312 == 3) = false := beq_eq_false_iff_ne.mpr c37
        have c37b1 : (t312 != 3) = true := bne_iff_ne.mpr c37
        exact absurd ((Option.some.inj H).trans HT_.out) (by simp)
      rw [if_neg c36] at H
      have c36b0 : (t317 == 0) = false := beq_eq_false_iff_ne.mpr c36
      have c36b1 : (t317 != 0) = true := bne_iff_ne.mpr c36
      exact absurd ((Option.some.inj H).trans HT_.out) (by simp)
    rw [if_neg c34] at H
    have c34b0 : (t297 == 0) = false := beq_eq_false_iff_ne.mpr c34
    have c34b1 : (t297 != 0) = true := bne_iff_ne.mpr c34
    obtain rfl := Option.some.inj H
    go_enter Try.func4, Try.ntmps4
    go_wp2_with (first | ((with_reducible refine gate_callee (f := 7) rfl ?_); refine gl_ (some 13) Try.func7 #[] ?_; (with_reducible refine (cambiumlaw14_lives.calls k  true _ A3.out).mono ?_); rintro e w44 ⟨rfl, hb⟩; refine ⟨_, rfl, ?_⟩; replace HB := hb_ hb; (try clear hb); (try clear hb2); (try clear hk); (try clear hi)) | ((with_reducible refine gate_callee (f := 8) rfl ?_); refine gl_ (some 18) Try.func8 #[.slice A0 l0.length c0, .slice A1 l1.length c1, .bool true] ?_; (with_reducible refine (dirs_Walk.calls k _ _ l0 _ _ l1 true t294 t295 _ ?side1 ?side2 ?side3 ?side4 A5.out).mono ?_); (case side1 => exact cb_ HR0); (case side2 => exact HC0.out); (case side3 => exact cb_ HR1); (case side4 => exact HC1.out); rintro e w45 ⟨rfl, hb⟩; refine ⟨_, rfl, ?_⟩; replace HB := hb_ hb; (try clear hb); (try clear hb2); (try clear hk); (try clear hi)) | ((with_reducible refine gate_callee (f := 8) rfl ?_); refine gl_ (some 24) Try.func8 #[.slice A0 l0.length c0, .slice A1 l1.length c1, .bool false] ?_; (with_reducible refine (dirs_Walk.calls k _ _ l0 _ _ l1 false t296 t297 _ ?side1 ?side2 ?side3 ?side4 A6.out).mono ?_); (case side1 => exact cb_ HR0); (case side2 => exact HC0.out); (case side3 => exact cb_ HR1); (case side4 => exact HC1.out); rintro e w46 ⟨rfl, hb⟩; refine ⟨_, rfl, ?_⟩; replace HB := hb_ hb; (try clear hb); (try clear hb2); (try clear hk); (try clear hi)))
    go_ret
    exact ⟨by first | rfl | (simp [errW_none, errW_some] <;> rfl) | (simp [*, errW_none, errW_some] <;> rfl), bel_⟩
  replace c4 := Bool.eq_false_iff.mpr c4
  subst c4
  have H1 : (some false) = some r := by rw [if_neg (show ¬ (false = true) by decide)] at H; exact H
  clear H
  have H := H1
  clear H1
  exact absurd ((Option.some.inj H).trans HT_.out) (by simp)

end Go.Proofs.Ytpnmajblhgnkoaa.Z
end

section
/- DirsLinks, over lists: the law's function answers true. -/
namespace Go.Proofs.Ytpnmajblhgnkoaa.Pure
open Go.RowKit Go.Proofs.Ytpnmajblhgnkoaa Go.Proofs.Ytpnmajblhgnkoaa.Z Go.Proofs.YtpnmajblhgnkoaaW.PrintWords Go.Proofs.Ytpnmajblhgnkoaa.PM
set_option linter.unusedVariables false
set_option linter.unusedSimpArgs false
theorem DirsLinks : ∀ (l0 : List (S61)) (l1 : List ByteArray), l0.length ≤ maxLen → (∀ x ∈ l0, Z.G61 x) → l0.length * 32 ≤ 140737488351232 → l1.length ≤ maxLen → (∀ x ∈ l1, (fun s : ByteArray => s.size ≤ maxLen) x) → l1.length * 16 ≤ 140737488351232 → ∃ k, Z.cambiumlaw14_DirsLinks.f k l0 l1 = some true := by
  intro l ns _ hf hl _ _ hn
  have hf : Fit l := hf
  refine Ev.rounds ?_
  unfold cambiumlaw14_DirsLinks.f
  refine Ev.bind lives_f (Ev.ifp rfl ?_)
  refine Ev.bind (Walk_f hf (by omega) ns (by omega) true) ?_
  refine Ev.bind (Walk_f hf (by omega) ns (by omega) false) ?_
  unfold walkR
  cases hs : lookS l with
  | none => exact Ev.ifn (show ¬ (9 : Int) = 0 by decide) (Ev.ifn (show ¬ (9 : Int) = 0 by decide) (Ev.const rfl))
  | some s =>
    simp only []
    have hr := look_rt hs
    have hroot : (s.ino 1).isSome = true := by
      have := hr.root
      cases hn1 : s.ino 1 with
      | none => rw [hn1] at this; exact absurd this (by decide)
      | some m => rfl
    have hk1 : s.kd 1 ≠ 3 := by rw [show s.kd 1 = 1 from hr.root]; decide
    have get : ∀ a, (s.ino a).isSome = true → Ev (fun k => dirs_Get.f k l a) (s.kd a, ((s.ino a).getD zI).md, ((s.ino a).getD zI).ln, ((s.ino a).getD zI).sz, ((s.ino a).getD zI).tg, 0) := fun a ha => by
      have hp := hr.pos ha
      refine Ev.val (Get_f hf (by omega) ⟨by omega, hp.2⟩) ?_
      obtain ⟨m, hm⟩ := Option.isSome_iff_exists.1 ha
      unfold getR VS.kd
      rw [hs]
      simp only [hm]
      rfl
    have two := walk_two l s 8 ns 1
    have t1 := walk_is hr true 8 ns 1 hroot
    have f1 := walk_is hr false 8 ns 1 hroot
    have t2 := walk_link hr 8 ns 1 hk1
    generalize walkS l s true 8 ns 1 = T at two t1 t2 ⊢
    generalize walkS l s false 8 ns 1 = F at two f1 ⊢
    by_cases hT : T.2 = 0
    · refine Ev.ifp hT ?_
      refine Ev.bind (get _ (t1 hT)) ?_
      refine Ev.ifp rfl ?_
      refine Ev.ifn (t2 hT) ?_
      have hF : F.2 = 0 := by
        rcases two with h | h
        · rw [← h]; exact hT
        · exact h.1
      rw [show (F.2 != 0) = false by rw [hF]; rfl]
      refine Ev.step (fun k => by rw [cambiumlaw14_DirsLinks.j0]) (Ev.ifn (by decide) ?_)
      refine Ev.ifp hF ?_
      refine Ev.bind (get _ (f1 hF)) ?_
      refine Ev.ifp rfl ?_
      refine Ev.ite (fun _ => Ev.const rfl) (fun h3 => ?_)
      refine Ev.ifp hT (Ev.const ?_)
      rcases two with h | h
      · rw [h]; simp
      · exact absurd h.2 h3
    · refine Ev.ifn hT ?_
      refine Ev.ite (fun hF => ?_) (fun hF => Ev.const ?_)
      · refine Ev.bind (get _ (f1 hF)) ?_
        refine Ev.ifp rfl ?_
        rcases two with h | h
        · rw [h] at hT; exact absurd hF hT
        · exact Ev.ifp h.2 (Ev.const rfl)
      · rcases two with h | h
        · rw [h]; simp
        · exact absurd h.1 hF
end Go.Proofs.Ytpnmajblhgnkoaa.Pure
end

section
/- cambium/cambiumlaw14.DirsLinks: at every input the law's function returns true, and each argument reads afterwards as before. Conditions: none beyond the row's own. Printed by a program of this session (mp.py) over the pure statement in YtpnmajblhgnkoaaPureDirsLinks. -/
namespace Go.Proofs.Ytpnmajblhgnkoaa.dirsLinks
open Go.ChangeShapes Go.WideShapes Go.ChangeAt Go.RowKit
open Go.ChangeMaps (open_string shut_string)
set_option linter.unusedVariables false
set_option linter.unusedSimpArgs false
theorem own : ownKnob Try.prog.godebug = none := by kernel_rfl
theorem laidOut : laidOutB Try.prog = true := by kernel_rfl
set_option maxHeartbeats 1000000 in
set_option maxRecDepth 100000 in
theorem lifted (os : Os) (started : os.Started) (H : Type) (enc : TypeId × Value → H) :
    ReturnsInHanded {} Try.checked os 4 .any (Rows.dirsLinksSpec.pre6 enc Try.prog Try.f4 Rows.dirsLinksRow.domain false) (Rows.dirsLinksSpec.post enc Try.prog Try.f4 false true false false) := by
  refine returnsInHanded_of_change_sized (C := Try.checked) own started (by kernel_rfl) Try.func4
    (ChangeSpec.witness6 (enc := enc) (C := Try.checked) false ⟨#[], #[.slice none 0 0, .slice none 0 0], []⟩ 8 (by kernel_rfl) (by kernel_rfl) (by kernel_rfl) (by kernel_rfl)) ?_
  intro W base args ds gs before hval0 hW hcnd hwz_ _
  have hsz : (DataW.weightsEach Try.prog (Try.f4.params.toList ++ Rows.dirsLinksSpec.plain.varTypes Try.prog) (ds ++ gs)).all (· ≤ reachBytes) = true := hwz_
  have hval : ∀ (j : Nat) t v, Try.f4.params[j]? = some t → args[j]? = some v → Value.okWide Try.prog W .any base t v := hval0
  have hW' := hW
  obtain ⟨p, q, hA0, hV, rfl, hfz, hnd⟩ := hW
  have hA : DataW.TrodAll enc Try.prog W 0 (fun _ => true) true Try.f4.params.toList args.toList ds p := hA0
  rw [Try.params4] at hA hval hsz
  obtain ⟨v0, vs0, d0, ds0, p0, q0, hargs, rfl, rfl, h0, r0⟩ := trodAll_cons hA
  obtain ⟨v1, vs1, d1, ds1, p1, q1, rfl, rfl, rfl, h1, r1⟩ := trodAll_cons r0
  obtain ⟨rfl, rfl, rfl⟩ := trodAll_nil r1
  obtain rfl : args = #[v0, v1] := by cases args; simp_all
  obtain ⟨rfl, rfl⟩ := trodVars_none hV
  have k0 := h0
  have lt0 : ∀ x ∈ p0, x.block < W.heap.size := by obtain ⟨m, hm⟩ := k0; exact DataW.trod_lt m _ _ _ hm
  obtain ⟨a0, len0, cap0, rfl⟩ := okWide_slice Try.underlying22 (hval 0 22 v0 rfl rfl)
  obtain ⟨fuel0, hf0⟩ := h0
  obtain ⟨A0, c0, l0, hcs0, hlc0, hcm0, hC0, hG0, hB0, hx0⟩ := Z.Opens.row Try.underlying22 Z.opens61 (of_decide_eq_true (by kernel_rfl)) hf0
  simp only [Value.cells, List.cons.injEq, Value.slice.injEq, and_true] at hcs0
  obtain ⟨rfl, rfl, rfl⟩ := hcs0
  have hlm0 : l0.length ≤ maxLen := Nat.le_trans hlc0 hcm0
  have hsz0 : l0.length * 32 ≤ 140737488351232 := Z.sized_row hsz (j := 0) (t := 22) rfl rfl Try.underlying22 (by kernel_rfl) hx0
  have k1 := h1
  have lt1 : ∀ x ∈ p1, x.block < W.heap.size := by obtain ⟨m, hm⟩ := k1; exact DataW.trod_lt m _ _ _ hm
  obtain ⟨a1, len1, cap1, rfl⟩ := okWide_slice Try.underlying23 (hval 1 23 v1 rfl rfl)
  obtain ⟨fuel1, hf1⟩ := h1
  obtain ⟨A1, c1, l1, hcs1, hlc1, hcm1, hC1, hG1, hB1, hx1⟩ := Z.Opens.row Try.underlying23 (Z.Opens.string Try.underlying9 (by kernel_rfl)) (of_decide_eq_true (by kernel_rfl)) hf1
  simp only [Value.cells, List.cons.injEq, Value.slice.injEq, and_true] at hcs1
  obtain ⟨rfl, rfl, rfl⟩ := hcs1
  have hlm1 : l1.length ≤ maxLen := Nat.le_trans hlc1 hcm1
  have hsz1 : l1.length * 16 ≤ 140737488351232 := Z.sized_row hsz (j := 1) (t := 23) rfl rfl Try.underlying23 (by kernel_rfl) hx1
  have hP := Pure.DirsLinks l0 l1 hlm0 hG0 hsz0 hlm1 hG1 hsz1
  obtain ⟨k, hk⟩ := hP
  refine (Z.cambiumlaw14_DirsLinks.calls k _ _ l0 _ _ l1 true W hC0 hlc0 hC1 hlc1 hk).mono fun e W' ⟨he, bel0⟩ => ?_
  have bel : Below W.heap.size W W' := bel0
  subst he
  exact ⟨_, rfl, _, _, _, [], _, [], hW', trodAll_mk1 (shut_bool Try.underlying4 _), (trodAll_cons_mk (Below.trod laidOut (by kernel_rfl) (of_decide_eq_true (by kernel_rfl)) k0 bel lt0) (trodAll_cons_mk (Below.trod laidOut (by kernel_rfl) (of_decide_eq_true (by kernel_rfl)) k1 bel lt1) trodAll_mk0)), rfl, bel.frame _, fun h => by cases h⟩
theorem over : Rows.dirsLinksRow.holds Try.pinned (OpenSpec.ofChange Rows.dirsLinksSpec) :=
  OpenClaim.holds_of_wide 4 Try.f4 rfl rfl rfl rfl rfl rfl rfl ⟨rfl, rfl, rfl, rfl, rfl⟩ rfl rfl rfl rfl rfl (by kernel_rfl) Try.func4 (by kernel_rfl)
    (of_decide_eq_true (by kernel_rfl)) (by unfold Func.isWrapper; first | (rw [if_pos (by decide +kernel)]; kernel_rfl) | (rw [if_neg (by decide +kernel)]; exact ⟨rfl, rfl⟩))
    (fun os started H enc _ => lifted os started H enc)
end Go.Proofs.Ytpnmajblhgnkoaa.dirsLinks
namespace Go.Proofs.Ytpnmajblhgnkoaa
theorem dirsLinks_holds : Rows.DirsLinksSaid := dirsLinks.over
#print axioms dirsLinks_holds
end Go.Proofs.Ytpnmajblhgnkoaa
end
