/- ItemTwice: at every input the law's function returns true and leaves its arguments as they were; no condition beyond the row's own. Part 5 of 5: this session's own texts, laid together. -/
import Derived.Test.YtdahmaepfmcpbaaMB1
import Derived.Test.YtdahmaepfmcpbaaMB2
import Derived.Test.YtdahmaepfmcpbaaMB4
import Derived.Test.YtdahmaepfmcpbaaRows
import Derived.WalkKit
import Derived.ProofKit
import Derived.OpenShut
import Derived.ShutString
import Derived.ChangeOld
import Derived.Below
import Derived.SizedLaws
import Derived.Carry
section
-- Printed by a program of this session (mp.py) out of the translation.
namespace Go.Proofs.Ytdahmaepfmcpbaa.Z
open Go.RowKit Go.Proofs.YtdahmaepfmcpbaaW.PrintWords Go.Proofs.YtdahmaepfmcpbaaW.PrintLast Go.Proofs.YtdahmaepfmcpbaaW.PrintMore
attribute [local go_sem] max2_int min2_int max_two min_two max_three min_three max_four min_four   -- for this text's walks alone
set_option linter.unusedVariables false
set_option linter.unusedSimpArgs false

/-! ### cambiumlaw04_ItemTwice: function 11 -/
def cambiumlaw04_ItemTwice.f (k : Nat) (l0 : List (S43)) (a1_0 : ByteArray) (a1_1 : Bool) (a1_2 : ByteArray) : Option (Bool) := (cambiumlaw04_lives.f k).bind fun t464 => (if t464 = true then ((item_Apply.f k l0 (([(⟨a1_0, a1_1, a1_2⟩ : S39)] : List (S39)))).bind fun bt468 => (if bt468.2 = 0 then ((item_Apply.f k bt468.1 (([(⟨a1_0, a1_1, a1_2⟩ : S39)] : List (S39)))).bind fun bt475 => ((item_Apply.f k l0 ([] : List (S39))).bind fun bt479 => (if bt475.2 = 0 then ((cambiumref04_Same.f k bt468.1 bt475.1).bind fun t483 => (if t483 = true then (if bt479.2 = 0 then ((cambiumref04_Same.f k bt479.1 l0).bind fun t484 => (some t484)) else (some false)) else (some false))) else (some false)))) else (some ((bt468.1.length : Int) == 0)))) else (some false))
theorem cambiumlaw04_ItemTwice.mono : ∀ a0 a1 a2 a3 k, LeO (cambiumlaw04_ItemTwice.f k a0 a1 a2 a3) (cambiumlaw04_ItemTwice.f (k + 1) a0 a1 a2 a3) := by
  intro a0 a1 a2 a3 k
  unfold cambiumlaw04_ItemTwice.f
  repeat' first
      | (with_reducible exact cambiumlaw04_lives.mono _)
      | (with_reducible exact cambiumref04_Same.mono _ _ _)
      | (with_reducible exact item_Apply.mono _ _ _)
      | (with_reducible exact LeO.refl _)
      | (with_reducible exact LeO.none _)
      | (with_reducible refine LeO.ite ?_ ?_)
      | (with_reducible refine LeO.bind ?_ (fun _ => ?_))
      | exact cambiumlaw04_lives.mono _
      | exact cambiumref04_Same.mono _ _ _
      | exact item_Apply.mono _ _ _
      | exact LeO.none _
      | refine LeO.ite ?_ ?_
      | refine LeO.bind ?_ (fun _ => ?_)
set_option maxHeartbeats 8000000 in
set_option maxRecDepth 100000 in
theorem cambiumlaw04_ItemTwice.calls (k : Nat) (A0 : Option Addr) (c0 : Nat) (l0 : List (S43)) (a1_0 : ByteArray) (a1_1 : Bool) (a1_2 : ByteArray) (r : Bool) (w : World) (hr0 : Kd.C k43 w A0 l0.length l0) (hc0 : l0.length ≤ c0) (h : cambiumlaw04_ItemTwice.f k l0 a1_0 a1_1 a1_2 = some r) (hT_ : r = true := by rfl) :
    Calls Try.prog 11 #[.slice A0 l0.length c0, .agg #[.string a1_0, .bool a1_1, .string a1_2]] w fun e w' => e = .returned (.bool r) ∧ Below w.heap.size w w' := by
  have HT_ := Aside0.mk hT_
  clear hT_
  have hu39 := Try.underlying39
  have HR0 := Aside0.mk hr0
  have HC0 := Aside0.mk hc0
  clear hr0 hc0
  have HB := Aside0.mk (Below.refl w.heap.size w)
  have H : ((cambiumlaw04_lives.f k).bind fun t464 => (if t464 = true then ((item_Apply.f k l0 (([(⟨a1_0, a1_1, a1_2⟩ : S39)] : List (S39)))).bind fun bt468 => (if bt468.2 = 0 then ((item_Apply.f k bt468.1 (([(⟨a1_0, a1_1, a1_2⟩ : S39)] : List (S39)))).bind fun bt475 => ((item_Apply.f k l0 ([] : List (S39))).bind fun bt479 => (if bt475.2 = 0 then ((cambiumref04_Same.f k bt468.1 bt475.1).bind fun t483 => (if t483 = true then (if bt479.2 = 0 then ((cambiumref04_Same.f k bt479.1 l0).bind fun t484 => (some t484)) else (some false)) else (some false))) else (some false)))) else (some ((bt468.1.length : Int) == 0)))) else (some false))) = some r := h
  clear h
  replace H := Option.bind_eq_some_iff.mp H
  obtain ⟨t464, A30, H⟩ := H
  replace H : (if t464 = true then ((item_Apply.f k l0 (([(⟨a1_0, a1_1, a1_2⟩ : S39)] : List (S39)))).bind fun bt468 => (if bt468.2 = 0 then ((item_Apply.f k bt468.1 (([(⟨a1_0, a1_1, a1_2⟩ : S39)] : List (S39)))).bind fun bt475 => ((item_Apply.f k l0 ([] : List (S39))).bind fun bt479 => (if bt475.2 = 0 then ((cambiumref04_Same.f k bt468.1 bt475.1).bind fun t483 => (if t483 = true then (if bt479.2 = 0 then ((cambiumref04_Same.f k bt479.1 l0).bind fun t484 => (some t484)) else (some false)) else (some false))) else (some false)))) else (some ((bt468.1.length : Int) == 0)))) else (some false)) = some r := H
  have A3 := Aside0.mk A30
  clear A30
  by_cases c4 : t464 = true
  · subst c4
    have H1 : ((item_Apply.f k l0 (([(⟨a1_0, a1_1, a1_2⟩ : S39)] : List (S39)))).bind fun bt468 => (if bt468.2 = 0 then ((item_Apply.f k bt468.1 (([(⟨a1_0, a1_1, a1_2⟩ : S39)] : List (S39)))).bind fun bt475 => ((item_Apply.f k l0 ([] : List (S39))).bind fun bt479 => (if bt475.2 = 0 then ((cambiumref04_Same.f k bt468.1 bt475.1).bind fun t483 => (if t483 = true then (if bt479.2 = 0 then ((cambiumref04_Same.f k bt479.1 l0).bind fun t484 => (some t484)) else (some false)) else (some false))) else (some false)))) else (some ((bt468.1.length : Int) == 0)))) = some r := by rw [if_pos rfl] at H; exact H
    clear H
    have H := H1
    clear H1
    obtain ⟨y465, hy465⟩ : ∃ y_ : List (S39), y_ = (([(⟨a1_0, a1_1, a1_2⟩ : S39)] : List (S39))) := ⟨_, rfl⟩
    replace H : ((item_Apply.f k l0 y465).bind fun bt468 => (if bt468.2 = 0 then ((item_Apply.f k bt468.1 (([(⟨a1_0, a1_1, a1_2⟩ : S39)] : List (S39)))).bind fun bt475 => ((item_Apply.f k l0 ([] : List (S39))).bind fun bt479 => (if bt475.2 = 0 then ((cambiumref04_Same.f k bt468.1 bt475.1).bind fun t483 => (if t483 = true then (if bt479.2 = 0 then ((cambiumref04_Same.f k bt479.1 l0).bind fun t484 => (some t484)) else (some false)) else (some false))) else (some false)))) else (some ((bt468.1.length : Int) == 0)))) = some r := by first | (rw [hy465]; with_reducible exact H) | (have H2_ := (Option.bind_some _ _).symm.trans H; rw [hy465]; with_reducible exact H2_) | (have H2_ := (Option.bind_some _ _).symm.trans H; with_reducible exact H2_) | with_reducible exact H | (rw [hy465]; exact H) | exact H
    have Ny465 := Aside0.mk hy465
    clear hy465
    replace H := Option.bind_eq_some_iff.mp H
    obtain ⟨⟨t468, t469⟩, A50, H⟩ := H
    replace H : (if t469 = 0 then ((item_Apply.f k t468 (([(⟨a1_0, a1_1, a1_2⟩ : S39)] : List (S39)))).bind fun bt475 => ((item_Apply.f k l0 ([] : List (S39))).bind fun bt479 => (if bt475.2 = 0 then ((cambiumref04_Same.f k t468 bt475.1).bind fun t483 => (if t483 = true then (if bt479.2 = 0 then ((cambiumref04_Same.f k bt479.1 l0).bind fun t484 => (some t484)) else (some false)) else (some false))) else (some false)))) else (some ((t468.length : Int) == 0))) = some r := H
    have A5 := Aside0.mk A50
    clear A50
    by_cases c6 : t469 = 0
    · rw [if_pos c6] at H
      have c6b0 : (t469 == 0) = true := beq_iff_eq.mpr c6
      have c6b1 : (t469 != 0) = false := bne_eq_false_iff_eq.mpr c6
      clear c6
      obtain ⟨y472, hy472⟩ : ∃ y_ : List (S39), y_ = (([(⟨a1_0, a1_1, a1_2⟩ : S39)] : List (S39))) := ⟨_, rfl⟩
      replace H : ((item_Apply.f k t468 y472).bind fun bt475 => ((item_Apply.f k l0 ([] : List (S39))).bind fun bt479 => (if bt475.2 = 0 then ((cambiumref04_Same.f k t468 bt475.1).bind fun t483 => (if t483 = true then (if bt479.2 = 0 then ((cambiumref04_Same.f k bt479.1 l0).bind fun t484 => (some t484)) else (some false)) else (some false))) else (some false)))) = some r := by first | (rw [hy472]; with_reducible exact H) | (have H2_ := (Option.bind_some _ _).symm.trans H; rw [hy472]; with_reducible exact H2_) | (have H2_ := (Option.bind_some _ _).symm.trans H; with_reducible exact H2_) | with_reducible exact H | (rw [hy472]; exact H) | exact H
      have Ny472 := Aside0.mk hy472
      clear hy472
      replace H := Option.bind_eq_some_iff.mp H
      obtain ⟨⟨t475, t476⟩, A70, H⟩ := H
      replace H : ((item_Apply.f k l0 ([] : List (S39))).bind fun bt479 => (if t476 = 0 then ((cambiumref04_Same.f k t468 t475).bind fun t483 => (if t483 = true then (if bt479.2 = 0 then ((cambiumref04_Same.f k bt479.1 l0).bind fun t484 => (some t484)) else (some false)) else (some false))) else (some false))) = some r := H
      have A7 := Aside0.mk A70
      clear A70
      replace H := Option.bind_eq_some_iff.mp H
      obtain ⟨⟨t479, t480⟩, A80, H⟩ := H
      replace H : (if t476 = 0 then ((cambiumref04_Same.f k t468 t475).bind fun t483 => (if t483 = true then (if t480 = 0 then ((cambiumref04_Same.f k t479 l0).bind fun t484 => (some t484)) else (some false)) else (some false))) else (some false)) = some r := H
      have A8 := Aside0.mk A80
      clear A80
      by_cases c9 : t476 = 0
      · rw [if_pos c9] at H
        have c9b0 : (t476 == 0) = true := beq_iff_eq.mpr c9
        have c9b1 : (t476 != 0) = false := bne_eq_false_iff_eq.mpr c9
        clear c9
        replace H := Option.bind_eq_some_iff.mp H
        obtain ⟨t483, A100, H⟩ := H
        replace H : (if t483 = true then (if t480 = 0 then ((cambiumref04_Same.f k t479 l0).bind fun t484 => (some t484)) else (some false)) else (some false)) = some r := H
        have A10 := Aside0.mk A100
        clear A100
        by_cases c11 : t483 = true
        · subst c11
          have H1 : (if t480 = 0 then ((cambiumref04_Same.f k t479 l0).bind fun t484 => (some t484)) else (some false)) = some r := by rw [if_pos rfl] at H; exact H
          clear H
          have H := H1
          clear H1
          by_cases c12 : t480 = 0
          · rw [if_pos c12] at H
            have c12b0 : (t480 == 0) = true := beq_iff_eq.mpr c12
            have c12b1 : (t480 != 0) = false := bne_eq_false_iff_eq.mpr c12
            clear c12
            replace H := Option.bind_eq_some_iff.mp H
            obtain ⟨t484, A130, H⟩ := H
            replace H : (some t484) = some r := H
            have A13 := Aside0.mk A130
            clear A130
            obtain rfl := Option.some.inj H
            go_enter Try.func11, Try.ntmps11
            go_wp2_with (first | ((with_reducible refine gate_dst (N := 3) rfl ?_); refine box_event ?hg (N := 3) ?hd (cs := #[.string a1_0, .bool a1_1, .string a1_2]) (t := 39) ?hr ?_; (case hd => rfl); (case hg => rfl); (case hr => first | (go_simp; done) | (go_simp; rfl)); intro gb463 hg w14 hbox hb; have n0_ := Aside0.mk (below_step (by repeat (first | (with_reducible first | exact HB.out | apply below_alloc | apply pw_below_drewN | apply below_drew1) | exact HB.out)) hb); have n1_ := Aside0.mk (hbox); have n2_ := Aside0.mk ((by rw [hg]; exact (below_size (by repeat (first | (with_reducible first | exact HB.out | apply below_alloc | apply pw_below_drewN | apply below_drew1) | exact HB.out))) : w.heap.size ≤ gb463)); have n3_ := Aside0.mk ((by rw [hg]; exact (below_size (by repeat (first | (with_reducible first | exact HB.out | apply below_alloc | apply pw_below_drewN | apply below_drew1) | exact HB.out))) : w.heap.size ≤ gb463)); clear HB; have HB := n0_; have BK463 := n1_; have GW463 := n2_; have GE463 := n3_; clear n0_ n1_ n2_ n3_; clear hb hbox hg) | ((with_reducible refine gate_callee (f := 16) rfl ?_); refine goesL_ (some 11) rfl rfl Try.func16 (by kernel_rfl) rfl #[] rfl (by (try simp only [List.map_toArray, List.map_cons, List.map_nil]); first | done | rfl | (simp only [List.length_drop, List.length_take]; rfl)) ?_; (with_reducible refine (cambiumlaw04_lives.calls k  true _ A3.out).mono ?_); rintro e w15 ⟨rfl, hb⟩; refine ⟨_, rfl, ?_⟩; have n0_ := Aside0.mk (blk_below (g := gb463) (o := .cells #[.string a1_0, .bool a1_1, .string a1_2] 39 (0, 0)) (by (with_reducible repeat (first | refine blk_drewN ?_ _ | refine blk_drew ?_ | refine blk_alloc ?_ _)); exact BK463.out) hb); have n1_ := Aside0.mk (below_step (by repeat (first | (with_reducible first | exact HB.out | apply below_alloc | apply pw_below_drewN | apply below_drew1 | refine below_set ?_ GE463.out) | exact HB.out)) hb); clear BK463; clear HB; have BK463 := n0_; have HB := n1_; clear n0_ n1_; (try clear hb); (try clear hb2); (try clear hk); (try clear hi); have hcz16_0 : w15.cell? ⟨gb463, 0, none⟩ = some (.string a1_0) := (blk_cell BK463.out 0).trans rfl; have hcz16_1 : w15.cell? ⟨gb463, 1, none⟩ = some (.bool a1_1) := (blk_cell BK463.out 1).trans rfl; have hcz16_2 : w15.cell? ⟨gb463, 2, none⟩ = some (.string a1_2) := (blk_cell BK463.out 2).trans rfl; have hfz16_0 := blk_frozen BK463.out 0; have hfz16_1 := blk_frozen BK463.out 1; have hfz16_2 := blk_frozen BK463.out 2) | ((with_reducible refine gate_dst (N := 16) rfl ?_); refine Kd.R_lit k39 _ 39 ?hg (N := 16) ?hd (xs := ([(⟨a1_0, a1_1, a1_2⟩ : S39)] : List (S39))) (inner := [.string a1_0, .bool a1_1, .string a1_2]) (ok := fun _ => True) (okp := fun _ => True) ?hr ?hp (fun _ hk => hk) trivial (Below.refl _ _) (Nat.le_refl _) (by simp) ?_; (case hd => rfl); (case hg => rfl); (case hr => first | (go_simp; done) | (go_simp; rfl)); (case hp => exact (Reps.c3 (show Kd.M k39 _ _ _ (⟨a1_0, a1_1, a1_2⟩ : S39) [.string a1_0, .bool a1_1, .string a1_2] from (k39_mkM _ _ _ (⟨a1_0, a1_1, a1_2⟩ : S39) )) (Reps.none _ _))); intro v466 w17 ho18 hb hg_ hnew_; clear hg_ hnew_; (first | rw [← Ny465.out] at ho18 | (simp only [Int.reduceToNat] at ho18; rw [← Ny465.out] at ho18)); have n0_ := Aside0.mk (Kd.R_lower (Kd.R_newB ho18 (g := gb463) (o := .cells #[.string a1_0, .bool a1_1, .string a1_2] 39 (0, 0)) (by (with_reducible repeat (first | refine blk_drewN ?_ _ | refine blk_drew ?_ | refine blk_alloc ?_ _)); exact BK463.out)) (below_size (by repeat (first | (with_reducible first | exact HB.out | apply below_alloc | apply pw_below_drewN | apply below_drew1 | refine below_set ?_ GE463.out) | exact HB.out)))); have n1_ := Aside0.mk (blk_below (g := gb463) (o := .cells #[.string a1_0, .bool a1_1, .string a1_2] 39 (0, 0)) (by (with_reducible repeat (first | refine blk_drewN ?_ _ | refine blk_drew ?_ | refine blk_alloc ?_ _)); exact BK463.out) hb); have n2_ := Aside0.mk (below_step (by repeat (first | (with_reducible first | exact HB.out | apply below_alloc | apply pw_below_drewN | apply below_drew1 | refine below_set ?_ GE463.out) | exact HB.out)) hb); clear BK463; clear HB; have HO467 := n0_; have BK463 := n1_; have HB := n2_; clear n0_ n1_ n2_; clear hb ho18; obtain ⟨Ao19, co19, eo19⟩ := Kd.R_slice HO467.out; subst eo19) | ((with_reducible refine gate_callee (f := 20) rfl ?_); refine goesL_ (some 17) rfl rfl Try.func20 (by kernel_rfl) rfl #[.slice A0 l0.length c0, .slice Ao19 y465.length co19] rfl (by (try simp only [List.map_toArray, List.map_cons, List.map_nil]); first | done | rfl | (simp only [List.length_drop, List.length_take]; rfl)) ?_; (with_reducible refine (item_Apply.calls k _ _ l0 _ _ y465 t468 t469 _ ?side1 ?side2 ?side3 ?side4 A5.out).mono ?_); (case side1 => repeat (first | exact (Kd.C_below HR0.out HB.out) | (with_reducible refine Kd.C_alloc ?_ _) | (with_reducible refine Kd.C_drewN ?_ _) | (with_reducible refine Kd.C_drew ?_))); (case side2 => exact HC0.out); (case side3 => repeat (first | exact (Kd.R_reads' HO467.out).2.2 | (with_reducible refine Kd.C_alloc ?_ _) | (with_reducible refine Kd.C_drewN ?_ _) | (with_reducible refine Kd.C_drew ?_))); (case side4 => exact (Kd.R_reads' HO467.out).2.1); rintro e w20 ⟨v470, rfl, ho0, hb⟩; refine ⟨_, rfl, ?_⟩; have n0_ := Aside0.mk (Kd.R_below (by (with_reducible repeat (first | apply Kd.R_alloc | apply Kd.R_drewN | apply Kd.R_drew)); exact HO467.out) hb); have n1_ := Aside0.mk (Kd.R_lower ho0 (below_size (by repeat (first | (with_reducible first | exact HB.out | apply below_alloc | apply pw_below_drewN | apply below_drew1 | refine below_set ?_ GE463.out) | exact HB.out)))); have n2_ := Aside0.mk (blk_below (g := gb463) (o := .cells #[.string a1_0, .bool a1_1, .string a1_2] 39 (0, 0)) (by (with_reducible repeat (first | refine blk_drewN ?_ _ | refine blk_drew ?_ | refine blk_alloc ?_ _)); exact BK463.out) hb); have n3_ := Aside0.mk (below_step (by repeat (first | (with_reducible first | exact HB.out | apply below_alloc | apply pw_below_drewN | apply below_drew1 | refine below_set ?_ GE463.out) | exact HB.out)) hb); clear HO467; clear BK463; clear HB; have HO467 := n0_; have HO471 := n1_; have BK463 := n2_; have HB := n3_; clear n0_ n1_ n2_ n3_; (try clear hb); (try clear hb2); (try clear hk); (try clear hi); (try clear ho0); have hcz21_0 : w20.cell? ⟨gb463, 0, none⟩ = some (.string a1_0) := (blk_cell BK463.out 0).trans rfl; have hcz21_1 : w20.cell? ⟨gb463, 1, none⟩ = some (.bool a1_1) := (blk_cell BK463.out 1).trans rfl; have hcz21_2 : w20.cell? ⟨gb463, 2, none⟩ = some (.string a1_2) := (blk_cell BK463.out 2).trans rfl; have hfz21_0 := blk_frozen BK463.out 0; have hfz21_1 := blk_frozen BK463.out 1; have hfz21_2 := blk_frozen BK463.out 2) | ((with_reducible refine gate_dst (N := 28) rfl ?_); refine Kd.R_lit k39 _ 39 ?hg (N := 28) ?hd (xs := ([(⟨a1_0, a1_1, a1_2⟩ : S39)] : List (S39))) (inner := [.string a1_0, .bool a1_1, .string a1_2]) (ok := fun _ => True) (okp := fun _ => True) ?hr ?hp (fun _ hk => hk) trivial (Below.refl _ _) (Nat.le_refl _) (by simp) ?_; (case hd => rfl); (case hg => rfl); (case hr => first | (go_simp; done) | (go_simp; rfl)); (case hp => exact (Reps.c3 (show Kd.M k39 _ _ _ (⟨a1_0, a1_1, a1_2⟩ : S39) [.string a1_0, .bool a1_1, .string a1_2] from (k39_mkM _ _ _ (⟨a1_0, a1_1, a1_2⟩ : S39) )) (Reps.none _ _))); intro v473 w22 ho23 hb hg_ hnew_; clear hg_ hnew_; (first | rw [← Ny472.out] at ho23 | (simp only [Int.reduceToNat] at ho23; rw [← Ny472.out] at ho23)); have n0_ := Aside0.mk (Kd.R_elder' (by (with_reducible repeat (first | apply Kd.R_alloc | apply Kd.R_drewN | apply Kd.R_drew)); exact HO467.out) (Kd.R_base ho23) hb); have n1_ := Aside0.mk (Kd.R_below (by (with_reducible repeat (first | apply Kd.R_alloc | apply Kd.R_drewN | apply Kd.R_drew)); exact HO471.out) hb); have n2_ := Aside0.mk (Kd.R_lower (Kd.R_newB (Kd.R_new' ho23 (Kd.R_lt (by (with_reducible repeat (first | apply Kd.R_alloc | apply Kd.R_drewN | apply Kd.R_drew)); exact HO467.out))) (g := gb463) (o := .cells #[.string a1_0, .bool a1_1, .string a1_2] 39 (0, 0)) (by (with_reducible repeat (first | refine blk_drewN ?_ _ | refine blk_drew ?_ | refine blk_alloc ?_ _)); exact BK463.out)) (below_size (by repeat (first | (with_reducible first | exact HB.out | apply below_alloc | apply pw_below_drewN | apply below_drew1 | refine below_set ?_ GE463.out) | exact HB.out)))); have n3_ := Aside0.mk (blk_below (g := gb463) (o := .cells #[.string a1_0, .bool a1_1, .string a1_2] 39 (0, 0)) (by (with_reducible repeat (first | refine blk_drewN ?_ _ | refine blk_drew ?_ | refine blk_alloc ?_ _)); exact BK463.out) hb); have n4_ := Aside0.mk (below_step (by repeat (first | (with_reducible first | exact HB.out | apply below_alloc | apply pw_below_drewN | apply below_drew1 | refine below_set ?_ GE463.out) | exact HB.out)) hb); clear HO467; clear HO471; clear BK463; clear HB; have HO467 := n0_; have HO471 := n1_; have HO474 := n2_; have BK463 := n3_; have HB := n4_; clear n0_ n1_ n2_ n3_ n4_; clear hb ho23; obtain ⟨Ao24, co24, eo24⟩ := Kd.R_slice HO471.out; subst eo24; obtain ⟨Ao25, co25, eo25⟩ := Kd.R_slice HO474.out; subst eo25) | ((with_reducible refine gate_callee (f := 20) rfl ?_); refine goesL_ (some 29) rfl rfl Try.func20 (by kernel_rfl) rfl #[.slice Ao24 t468.length co24, .slice Ao25 y472.length co25] rfl (by (try simp only [List.map_toArray, List.map_cons, List.map_nil]); first | done | rfl | (simp only [List.length_drop, List.length_take]; rfl)) ?_; (with_reducible refine (item_Apply.calls k _ _ t468 _ _ y472 t475 t476 _ ?side1 ?side2 ?side3 ?side4 A7.out).mono ?_); (case side1 => repeat (first | exact (Kd.R_reads' HO471.out).2.2 | (with_reducible refine Kd.C_alloc ?_ _) | (with_reducible refine Kd.C_drewN ?_ _) | (with_reducible refine Kd.C_drew ?_))); (case side2 => exact (Kd.R_reads' HO471.out).2.1); (case side3 => repeat (first | exact (Kd.R_reads' HO474.out).2.2 | (with_reducible refine Kd.C_alloc ?_ _) | (with_reducible refine Kd.C_drewN ?_ _) | (with_reducible refine Kd.C_drew ?_))); (case side4 => exact (Kd.R_reads' HO474.out).2.1); rintro e w26 ⟨v477, rfl, ho0, hb⟩; refine ⟨_, rfl, ?_⟩; have n0_ := Aside0.mk (Kd.R_below (by (with_reducible repeat (first | apply Kd.R_alloc | apply Kd.R_drewN | apply Kd.R_drew)); exact HO467.out) hb); have n1_ := Aside0.mk (Kd.R_elder' (by (with_reducible repeat (first | apply Kd.R_alloc | apply Kd.R_drewN | apply Kd.R_drew)); exact HO471.out) (Kd.R_base ho0) hb); have n2_ := Aside0.mk (Kd.R_below (by (with_reducible repeat (first | apply Kd.R_alloc | apply Kd.R_drewN | apply Kd.R_drew)); exact HO474.out) hb); have n3_ := Aside0.mk (Kd.R_lower (Kd.R_new' ho0 (Kd.R_lt (by (with_reducible repeat (first | apply Kd.R_alloc | apply Kd.R_drewN | apply Kd.R_drew)); exact HO471.out))) (below_size (by repeat (first | (with_reducible first | exact HB.out | apply below_alloc | apply pw_below_drewN | apply below_drew1 | refine below_set ?_ GE463.out) | exact HB.out)))); have n4_ := Aside0.mk (blk_below (g := gb463) (o := .cells #[.string a1_0, .bool a1_1, .string a1_2] 39 (0, 0)) (by (with_reducible repeat (first | refine blk_drewN ?_ _ | refine blk_drew ?_ | refine blk_alloc ?_ _)); exact BK463.out) hb); have n5_ := Aside0.mk (below_step (by repeat (first | (with_reducible first | exact HB.out | apply below_alloc | apply pw_below_drewN | apply below_drew1 | refine below_set ?_ GE463.out) | exact HB.out)) hb); clear HO467; clear HO471; clear HO474; clear BK463; clear HB; have HO467 := n0_; have HO471 := n1_; have HO474 := n2_; have HO478 := n3_; have BK463 := n4_; have HB := n5_; clear n0_ n1_ n2_ n3_ n4_ n5_; (try clear hb); (try clear hb2); (try clear hk); (try clear hi); (try clear ho0)) | ((with_reducible refine gate_callee (f := 20) rfl ?_); refine goesL_ (some 34) rfl rfl Try.func20 (by kernel_rfl) rfl #[.slice A0 l0.length c0, .slice none 0 0] rfl (by (try simp only [List.map_toArray, List.map_cons, List.map_nil]); first | done | rfl | (simp only [List.length_drop, List.length_take]; rfl)) ?_; (refine (item_Apply.calls k _ _ l0 _ _ ([] : List (S39)) t479 t480 _ ?side1 ?side2 ?side3 ?side4 A8.out).mono ?_); (case side1 => repeat (first | exact (Kd.C_below HR0.out HB.out) | (with_reducible refine Kd.C_alloc ?_ _) | (with_reducible refine Kd.C_drewN ?_ _) | (with_reducible refine Kd.C_drew ?_))); (case side2 => exact HC0.out); (case side3 => exact Kd.C_nil _ _); (case side4 => exact Nat.le_refl _); rintro e w27 ⟨v481, rfl, ho0, hb⟩; refine ⟨_, rfl, ?_⟩; have n0_ := Aside0.mk (Kd.R_below (by (with_reducible repeat (first | apply Kd.R_alloc | apply Kd.R_drewN | apply Kd.R_drew)); exact HO467.out) hb); have n1_ := Aside0.mk (Kd.R_elder' (by (with_reducible repeat (first | apply Kd.R_alloc | apply Kd.R_drewN | apply Kd.R_drew)); exact HO471.out) (Kd.R_base ho0) hb); have n2_ := Aside0.mk (Kd.R_below (by (with_reducible repeat (first | apply Kd.R_alloc | apply Kd.R_drewN | apply Kd.R_drew)); exact HO474.out) hb); have n3_ := Aside0.mk (Kd.R_elder' (by (with_reducible repeat (first | apply Kd.R_alloc | apply Kd.R_drewN | apply Kd.R_drew)); exact HO478.out) (Kd.R_base ho0) hb); have n4_ := Aside0.mk (Kd.R_lower (Kd.R_new' (Kd.R_new' ho0 (Kd.R_lt (by (with_reducible repeat (first | apply Kd.R_alloc | apply Kd.R_drewN | apply Kd.R_drew)); exact HO471.out))) (Kd.R_lt (by (with_reducible repeat (first | apply Kd.R_alloc | apply Kd.R_drewN | apply Kd.R_drew)); exact HO478.out))) (below_size (by repeat (first | (with_reducible first | exact HB.out | apply below_alloc | apply pw_below_drewN | apply below_drew1 | refine below_set ?_ GE463.out) | exact HB.out)))); have n5_ := Aside0.mk (blk_below (g := gb463) (o := .cells #[.string a1_0, .bool a1_1, .string a1_2] 39 (0, 0)) (by (with_reducible repeat (first | refine blk_drewN ?_ _ | refine blk_drew ?_ | refine blk_alloc ?_ _)); exact BK463.out) hb); have n6_ := Aside0.mk (below_step (by repeat (first | (with_reducible first | exact HB.out | apply below_alloc | apply pw_below_drewN | apply below_drew1 | refine below_set ?_ GE463.out) | exact HB.out)) hb); clear HO467; clear HO471; clear HO474; clear HO478; clear BK463; clear HB; have HO467 := n0_; have HO471 := n1_; have HO474 := n2_; have HO478 := n3_; have HO482 := n4_; have BK463 := n5_; have HB := n6_; clear n0_ n1_ n2_ n3_ n4_ n5_ n6_; (try clear hb); (try clear hb2); (try clear hk); (try clear hi); (try clear ho0); obtain ⟨Ao28, co28, eo28⟩ := Kd.R_slice HO478.out; subst eo28) | (go_at_call 17; (with_reducible refine (cambiumref04_Same.calls k _ _ t468 _ _ t475 true _ ?side1 ?side2 ?side3 ?side4 A10.out).mono ?_); (case side1 => repeat (first | exact (Kd.R_reads' HO471.out).2.2 | (with_reducible refine Kd.C_alloc ?_ _) | (with_reducible refine Kd.C_drewN ?_ _) | (with_reducible refine Kd.C_drew ?_))); (case side2 => exact (Kd.R_reads' HO471.out).2.1); (case side3 => repeat (first | exact (Kd.R_reads' HO478.out).2.2 | (with_reducible refine Kd.C_alloc ?_ _) | (with_reducible refine Kd.C_drewN ?_ _) | (with_reducible refine Kd.C_drew ?_))); (case side4 => exact (Kd.R_reads' HO478.out).2.1); rintro e w' ⟨rfl, ⟨nd, rfl⟩⟩; obtain ⟨Ao29, co29, eo29⟩ := Kd.R_slice HO482.out; subst eo29) | (go_at_call 17; (with_reducible refine (cambiumref04_Same.calls k _ _ t479 _ _ l0 t484 _ ?side1 ?side2 ?side3 ?side4 A13.out).mono ?_); (case side1 => repeat (first | exact (Kd.R_reads' HO482.out).2.2 | (with_reducible refine Kd.C_alloc ?_ _) | (with_reducible refine Kd.C_drewN ?_ _) | (with_reducible refine Kd.C_drew ?_))); (case side2 => exact (Kd.R_reads' HO482.out).2.1); (case side3 => repeat (first | exact (Kd.C_below HR0.out (by repeat (first | (with_reducible first | exact HB.out | apply below_alloc | apply pw_below_drewN | apply below_drew1 | refine below_set ?_ GE463.out) | exact HB.out))) | (with_reducible refine Kd.C_alloc ?_ _) | (with_reducible refine Kd.C_drewN ?_ _) | (with_reducible refine Kd.C_drew ?_))); (case side4 => exact HC0.out); rintro e w' ⟨rfl, ⟨nd, rfl⟩⟩))
            go_ret
            exact ⟨by first | rfl | (simp [errW_none, errW_some] <;> rfl) | (simp [*, errW_none, errW_some] <;> rfl), by repeat (first | (with_reducible first | exact HB.out | apply below_alloc | apply pw_below_drewN | apply below_drew1 | refine below_set ?_ GE463.out) | exact HB.out)⟩
          · rw [if_neg c12] at H
            have c12b0 : (t480 == 0) = false := beq_eq_false_iff_ne.mpr c12
            have c12b1 : (t480 != 0) = true := bne_iff_ne.mpr c12
            exact absurd ((Option.some.inj H).trans HT_.out) (by simp)
        · replace c11 := Bool.eq_false_iff.mpr c11
          subst c11
          have H1 : (some false) = some r := by rw [if_neg (show ¬ (false = true) by decide)] at H; exact H
          clear H
          have H := H1
          clear H1
          exact absurd ((Option.some.inj H).trans HT_.out) (by simp)
      · rw [if_neg c9] at H
        have c9b0 : (t476 == 0) = false := beq_eq_false_iff_ne.mpr c9
        have c9b1 : (t476 != 0) = true := bne_iff_ne.mpr c9
        exact absurd ((Option.some.inj H).trans HT_.out) (by simp)
    · rw [if_neg c6] at H
      have c6b0 : (t469 == 0) = false := beq_eq_false_iff_ne.mpr c6
      have c6b1 : (t469 != 0) = true := bne_iff_ne.mpr c6
      obtain rfl := Option.some.inj H
      go_enter Try.func11, Try.ntmps11
      go_wp2_with (first | ((with_reducible refine gate_dst (N := 3) rfl ?_); refine box_event ?hg (N := 3) ?hd (cs := #[.string a1_0, .bool a1_1, .string a1_2]) (t := 39) ?hr ?_; (case hd => rfl); (case hg => rfl); (case hr => first | (go_simp; done) | (go_simp; rfl)); intro gb463 hg w30 hbox hb; have n0_ := Aside0.mk (below_step (by repeat (first | (with_reducible first | exact HB.out | apply below_alloc | apply pw_below_drewN | apply below_drew1) | exact HB.out)) hb); have n1_ := Aside0.mk (hbox); have n2_ := Aside0.mk ((by rw [hg]; exact (below_size (by repeat (first | (with_reducible first | exact HB.out | apply below_alloc | apply pw_below_drewN | apply below_drew1) | exact HB.out))) : w.heap.size ≤ gb463)); have n3_ := Aside0.mk ((by rw [hg]; exact (below_size (by repeat (first | (with_reducible first | exact HB.out | apply below_alloc | apply pw_below_drewN | apply below_drew1) | exact HB.out))) : w.heap.size ≤ gb463)); clear HB; have HB := n0_; have BK463 := n1_; have GW463 := n2_; have GE463 := n3_; clear n0_ n1_ n2_ n3_; clear hb hbox hg) | ((with_reducible refine gate_callee (f := 16) rfl ?_); refine goesL_ (some 11) rfl rfl Try.func16 (by kernel_rfl) rfl #[] rfl (by (try simp only [List.map_toArray, List.map_cons, List.map_nil]); first | done | rfl | (simp only [List.length_drop, List.length_take]; rfl)) ?_; (with_reducible refine (cambiumlaw04_lives.calls k  true _ A3.out).mono ?_); rintro e w31 ⟨rfl, hb⟩; refine ⟨_, rfl, ?_⟩; have n0_ := Aside0.mk (blk_below (g := gb463) (o := .cells #[.string a1_0, .bool a1_1, .string a1_2] 39 (0, 0)) (by (with_reducible repeat (first | refine blk_drewN ?_ _ | refine blk_drew ?_ | refine blk_alloc ?_ _)); exact BK463.out) hb); have n1_ := Aside0.mk (below_step (by repeat (first | (with_reducible first | exact HB.out | apply below_alloc | apply pw_below_drewN | apply below_drew1 | refine below_set ?_ GE463.out) | exact HB.out)) hb); clear BK463; clear HB; have BK463 := n0_; have HB := n1_; clear n0_ n1_; (try clear hb); (try clear hb2); (try clear hk); (try clear hi); have hcz32_0 : w31.cell? ⟨gb463, 0, none⟩ = some (.string a1_0) := (blk_cell BK463.out 0).trans rfl; have hcz32_1 : w31.cell? ⟨gb463, 1, none⟩ = some (.bool a1_1) := (blk_cell BK463.out 1).trans rfl; have hcz32_2 : w31.cell? ⟨gb463, 2, none⟩ = some (.string a1_2) := (blk_cell BK463.out 2).trans rfl; have hfz32_0 := blk_frozen BK463.out 0; have hfz32_1 := blk_frozen BK463.out 1; have hfz32_2 := blk_frozen BK463.out 2) | ((with_reducible refine gate_dst (N := 16) rfl ?_); refine Kd.R_lit k39 _ 39 ?hg (N := 16) ?hd (xs := ([(⟨a1_0, a1_1, a1_2⟩ : S39)] : List (S39))) (inner := [.string a1_0, .bool a1_1, .string a1_2]) (ok := fun _ => True) (okp := fun _ => True) ?hr ?hp (fun _ hk => hk) trivial (Below.refl _ _) (Nat.le_refl _) (by simp) ?_; (case hd => rfl); (case hg => rfl); (case hr => first | (go_simp; done) | (go_simp; rfl)); (case hp => exact (Reps.c3 (show Kd.M k39 _ _ _ (⟨a1_0, a1_1, a1_2⟩ : S39) [.string a1_0, .bool a1_1, .string a1_2] from (k39_mkM _ _ _ (⟨a1_0, a1_1, a1_2⟩ : S39) )) (Reps.none _ _))); intro v466 w33 ho34 hb hg_ hnew_; clear hg_ hnew_; (first | rw [← Ny465.out] at ho34 | (simp only [Int.reduceToNat] at ho34; rw [← Ny465.out] at ho34)); have n0_ := Aside0.mk (Kd.R_lower (Kd.R_newB ho34 (g := gb463) (o := .cells #[.string a1_0, .bool a1_1, .string a1_2] 39 (0, 0)) (by (with_reducible repeat (first | refine blk_drewN ?_ _ | refine blk_drew ?_ | refine blk_alloc ?_ _)); exact BK463.out)) (below_size (by repeat (first | (with_reducible first | exact HB.out | apply below_alloc | apply pw_below_drewN | apply below_drew1 | refine below_set ?_ GE463.out) | exact HB.out)))); have n1_ := Aside0.mk (blk_below (g := gb463) (o := .cells #[.string a1_0, .bool a1_1, .string a1_2] 39 (0, 0)) (by (with_reducible repeat (first | refine blk_drewN ?_ _ | refine blk_drew ?_ | refine blk_alloc ?_ _)); exact BK463.out) hb); have n2_ := Aside0.mk (below_step (by repeat (first | (with_reducible first | exact HB.out | apply below_alloc | apply pw_below_drewN | apply below_drew1 | refine below_set ?_ GE463.out) | exact HB.out)) hb); clear BK463; clear HB; have HO467 := n0_; have BK463 := n1_; have HB := n2_; clear n0_ n1_ n2_; clear hb ho34; obtain ⟨Ao35, co35, eo35⟩ := Kd.R_slice HO467.out; subst eo35) | ((with_reducible refine gate_callee (f := 20) rfl ?_); refine goesL_ (some 17) rfl rfl Try.func20 (by kernel_rfl) rfl #[.slice A0 l0.length c0, .slice Ao35 y465.length co35] rfl (by (try simp only [List.map_toArray, List.map_cons, List.map_nil]); first | done | rfl | (simp only [List.length_drop, List.length_take]; rfl)) ?_; (with_reducible refine (item_Apply.calls k _ _ l0 _ _ y465 t468 t469 _ ?side1 ?side2 ?side3 ?side4 A5.out).mono ?_); (case side1 => repeat (first | exact (Kd.C_below HR0.out HB.out) | (with_reducible refine Kd.C_alloc ?_ _) | (with_reducible refine Kd.C_drewN ?_ _) | (with_reducible refine Kd.C_drew ?_))); (case side2 => exact HC0.out); (case side3 => repeat (first | exact (Kd.R_reads' HO467.out).2.2 | (with_reducible refine Kd.C_alloc ?_ _) | (with_reducible refine Kd.C_drewN ?_ _) | (with_reducible refine Kd.C_drew ?_))); (case side4 => exact (Kd.R_reads' HO467.out).2.1); rintro e w36 ⟨v470, rfl, ho0, hb⟩; refine ⟨_, rfl, ?_⟩; have n0_ := Aside0.mk (Kd.R_below (by (with_reducible repeat (first | apply Kd.R_alloc | apply Kd.R_drewN | apply Kd.R_drew)); exact HO467.out) hb); have n1_ := Aside0.mk (Kd.R_lower ho0 (below_size (by repeat (first | (with_reducible first | exact HB.out | apply below_alloc | apply pw_below_drewN | apply below_drew1 | refine below_set ?_ GE463.out) | exact HB.out)))); have n2_ := Aside0.mk (blk_below (g := gb463) (o := .cells #[.string a1_0, .bool a1_1, .string a1_2] 39 (0, 0)) (by (with_reducible repeat (first | refine blk_drewN ?_ _ | refine blk_drew ?_ | refine blk_alloc ?_ _)); exact BK463.out) hb); have n3_ := Aside0.mk (below_step (by repeat (first | (with_reducible first | exact HB.out | apply below_alloc | apply pw_below_drewN | apply below_drew1 | refine below_set ?_ GE463.out) | exact HB.out)) hb); clear HO467; clear BK463; clear HB; have HO467 := n0_; have HO471 := n1_; have BK463 := n2_; have HB := n3_; clear n0_ n1_ n2_ n3_; (try clear hb); (try clear hb2); (try clear hk); (try clear hi); (try clear ho0); obtain ⟨Ao37, co37, eo37⟩ := Kd.R_slice HO471.out; subst eo37))
      go_ret
      exact ⟨by first | rfl | (simp [errW_none, errW_some] <;> rfl) | (simp [*, errW_none, errW_some] <;> rfl), by repeat (first | (with_reducible first | exact HB.out | apply below_alloc | apply pw_below_drewN | apply below_drew1 | refine below_set ?_ GE463.out) | exact HB.out)⟩
  · replace c4 := Bool.eq_false_iff.mpr c4
    subst c4
    have H1 : (some false) = some r := by rw [if_neg (show ¬ (false = true) by decide)] at H; exact H
    clear H
    have H := H1
    clear H1
    exact absurd ((Option.some.inj H).trans HT_.out) (by simp)

end Go.Proofs.Ytdahmaepfmcpbaa.Z
end

section
/- ItemTwice, over lists: the law's function answers true. -/
namespace Go.Proofs.Ytdahmaepfmcpbaa.Pure
open Go.RowKit Go.Proofs.Ytdahmaepfmcpbaa Go.Proofs.Ytdahmaepfmcpbaa.Z Go.Proofs.YtdahmaepfmcpbaaW.PrintWords
set_option linter.unusedVariables false
set_option linter.unusedSimpArgs false
theorem ItemTwice : ∀ (l0 : List (S43)) (a1_0 : ByteArray) (a1_1 : Bool) (a1_2 : ByteArray), l0.length ≤ maxLen → (∀ x ∈ l0, Z.G43 x) → l0.length * 32 ≤ 140737488351232 → a1_0.size ≤ maxLen → a1_2.size ≤ maxLen → ∃ k, Z.cambiumlaw04_ItemTwice.f k l0 a1_0 a1_1 a1_2 = some true := by
  intro l a0 a1 a2 _ _ hl _ _
  refine Ev.rounds (g := fun k => Z.cambiumlaw04_ItemTwice.f k l a0 a1 a2) ?_
  unfold cambiumlaw04_ItemTwice.f
  refine Ev.bind lives_f (Ev.ifp rfl (Ev.bind (itApply l [⟨a0, a1, a2⟩] (by simp only [List.length_cons, List.length_nil]; omega)) ?_))
  by_cases ho : (okL l && okC [(⟨a0, a1, a2⟩ : Ch)]) = true
  · have e1 : aplS l [⟨a0, a1, a2⟩] = (put l ⟨a0, a1, a2⟩, 0) := by
      unfold aplS
      rw [if_pos ho]; rfl
    rw [Bool.and_eq_true] at ho
    have hA := ((okL_iff l).1 ho.1).2
    have hc : okc (⟨a0, a1, a2⟩ : Ch) = true := by simpa [okC] using ho.2
    have hp := put_ok ho.1 hc
    have hpl := put_len l ⟨a0, a1, a2⟩
    have e2 : aplS (put l ⟨a0, a1, a2⟩) [⟨a0, a1, a2⟩] = (put l ⟨a0, a1, a2⟩, 0) := by
      unfold aplS
      rw [hp, ho.2, if_pos (show (true && true) = true from rfl)]
      have := put_again hA ⟨a0, a1, a2⟩
      simpa [apl] using this
    have e3 : aplS l [] = (l, 0) := by
      unfold aplS
      rw [ho.1, if_pos (show (true && okC []) = true from rfl)]; rfl
    rw [e1]
    refine Ev.ifp rfl (Ev.bind (Ev.val (itApply _ _ (by simp only [List.length_cons, List.length_nil]; omega)) e2) (Ev.bind (Ev.val (itApply l [] (by simp only [List.length_nil]; omega)) e3) (Ev.ifp rfl (Ev.bind (same_refl _ (by simp only; omega)) (Ev.ifp rfl (Ev.ifp rfl (Ev.bind (same_refl l (by omega)) (Ev.const rfl))))))))
  · have e1 : aplS l [⟨a0, a1, a2⟩] = ([], 4) := by
      unfold aplS
      rw [if_neg ho]
    rw [e1]
    exact Ev.ifn (by decide) (Ev.const rfl)
end Go.Proofs.Ytdahmaepfmcpbaa.Pure
end

section
/- cambium/cambiumlaw04.ItemTwice: at every input the law's function returns true, and each argument reads afterwards as before. Conditions: none beyond the row's own. Printed by a program of this session (mp.py) over the pure statement in YtdahmaepfmcpbaaPureItemTwice. -/
namespace Go.Proofs.Ytdahmaepfmcpbaa.itemTwice
open Go.ChangeShapes Go.WideShapes Go.ChangeAt Go.RowKit
open Go.ChangeMaps (open_string shut_string)
set_option linter.unusedVariables false
set_option linter.unusedSimpArgs false
theorem own : ownKnob Try.prog.godebug = none := by kernel_rfl
theorem laidOut : laidOutB Try.prog = true := by kernel_rfl
theorem lstOf3 {α : Type} (l : List α) (h : l.length = 3) : ∃ z0 z1 z2, l = [z0, z1, z2] := by
  match l, h with
  | [z0, z1, z2], _ => exact ⟨z0, z1, z2, rfl⟩
theorem arrOf3 {α : Type} (a : Array α) (h : a.toList.length = 3) : ∃ z0 z1 z2, a = #[z0, z1, z2] := by
  obtain ⟨l⟩ := a
  obtain ⟨z0, z1, z2, rfl⟩ := lstOf3 l h
  exact ⟨z0, z1, z2, rfl⟩
set_option maxHeartbeats 1000000 in
set_option maxRecDepth 100000 in
theorem lifted (os : Os) (started : os.Started) (H : Type) (enc : TypeId × Value → H) :
    ReturnsInHanded {} Try.checked os 11 .any (Rows.itemTwiceSpec.pre6 enc Try.prog Try.f11 Rows.itemTwiceRow.domain false) (Rows.itemTwiceSpec.post enc Try.prog Try.f11 false true false false) := by
  refine returnsInHanded_of_change_sized (C := Try.checked) own started (by kernel_rfl) Try.func11
    (ChangeSpec.witness6 (enc := enc) (C := Try.checked) false ⟨#[], #[.slice none 0 0, .agg #[.string ByteArray.empty, .bool false, .string ByteArray.empty]], []⟩ 8 (by kernel_rfl) (by kernel_rfl) (by kernel_rfl) (by kernel_rfl)) ?_
  intro W base args ds gs before hval0 hW hcnd hwz_ _
  have hsz : (DataW.weightsEach Try.prog (Try.f11.params.toList ++ Rows.itemTwiceSpec.plain.varTypes Try.prog) (ds ++ gs)).all (· ≤ reachBytes) = true := hwz_
  have hval : ∀ (j : Nat) t v, Try.f11.params[j]? = some t → args[j]? = some v → Value.okWide Try.prog W .any base t v := hval0
  have hW' := hW
  obtain ⟨p, q, hA0, hV, rfl, hfz, hnd⟩ := hW
  have hA : DataW.TrodAll enc Try.prog W 0 (fun _ => true) true Try.f11.params.toList args.toList ds p := hA0
  rw [Try.params11] at hA hval hsz
  obtain ⟨v0, vs0, d0, ds0, p0, q0, hargs, rfl, rfl, h0, r0⟩ := trodAll_cons hA
  obtain ⟨v1, vs1, d1, ds1, p1, q1, rfl, rfl, rfl, h1, r1⟩ := trodAll_cons r0
  obtain ⟨rfl, rfl, rfl⟩ := trodAll_nil r1
  obtain rfl : args = #[v0, v1] := by cases args; simp_all
  obtain ⟨rfl, rfl⟩ := trodVars_none hV
  have k0 := h0
  have lt0 : ∀ x ∈ p0, x.block < W.heap.size := by obtain ⟨m, hm⟩ := k0; exact DataW.trod_lt m _ _ _ hm
  obtain ⟨a0, len0, cap0, rfl⟩ := okWide_slice Try.underlying22 (hval 0 22 v0 rfl rfl)
  obtain ⟨fuel0, hf0⟩ := h0
  obtain ⟨A0, c0, l0, hcs0, hlc0, hcm0, hC0, hG0, hB0, hx0⟩ := Z.Opens.row Try.underlying22 Z.opens43 (of_decide_eq_true (by kernel_rfl)) hf0
  simp only [Value.cells, List.cons.injEq, Value.slice.injEq, and_true] at hcs0
  obtain ⟨rfl, rfl, rfl⟩ := hcs0
  have hlm0 : l0.length ≤ maxLen := Nat.le_trans hlc0 hcm0
  have hsz0 : l0.length * 32 ≤ 140737488351232 := Z.sized_row hsz (j := 0) (t := 22) rfl rfl Try.underlying22 (by kernel_rfl) hx0
  have k1 := h1
  have lt1 : ∀ x ∈ p1, x.block < W.heap.size := by obtain ⟨m, hm⟩ := k1; exact DataW.trod_lt m _ _ _ hm
  obtain ⟨cs1, rfl, hsz_1⟩ := okWide_struct Try.underlying39 (hval 1 39 v1 rfl rfl)
  obtain ⟨fuel1, hf1⟩ := h1
  obtain ⟨ys1, n1, hl1, hy1, hx1, hfs1⟩ := Z.flat_fields Try.underlying39 (by kernel_rfl) (by kernel_rfl) hf1
  obtain ⟨q1_0, q1_1, q1_2, rfl⟩ := arrOf3 cs1 hl1
  obtain ⟨r1_0, r1_1, r1_2, rfl⟩ := lstOf3 ys1 hy1
  obtain ⟨a1_0, hk1_0, hG1_0, hB1_0⟩ := (Z.Opens.string Try.underlying9 (by kernel_rfl)).2 (hfs1 0 _ q1_0 rfl rfl)
  have hk1_0' : [q1_0] = [.string a1_0] := hk1_0
  simp only [List.cons.injEq, and_true] at hk1_0'
  subst hk1_0'
  clear hk1_0
  obtain ⟨a1_1, hk1_1, hG1_1, hB1_1⟩ := (Z.Opens.bool Try.underlying4 (by kernel_rfl)).2 (hfs1 1 _ q1_1 rfl rfl)
  have hk1_1' : [q1_1] = [.bool a1_1] := hk1_1
  simp only [List.cons.injEq, and_true] at hk1_1'
  subst hk1_1'
  clear hk1_1
  obtain ⟨a1_2, hk1_2, hG1_2, hB1_2⟩ := (Z.Opens.string Try.underlying9 (by kernel_rfl)).2 (hfs1 2 _ q1_2 rfl rfl)
  have hk1_2' : [q1_2] = [.string a1_2] := hk1_2
  simp only [List.cons.injEq, and_true] at hk1_2'
  subst hk1_2'
  clear hk1_2
  have hP := Pure.ItemTwice l0 a1_0 a1_1 a1_2 hlm0 hG0 hsz0 hG1_0 hG1_2
  obtain ⟨k, hk⟩ := hP
  refine (Z.cambiumlaw04_ItemTwice.calls k _ _ l0 a1_0 a1_1 a1_2 true W hC0 hlc0 hk).mono fun e W' ⟨he, bel0⟩ => ?_
  have bel : Below W.heap.size W W' := bel0
  subst he
  exact ⟨_, rfl, _, _, _, [], _, [], hW', trodAll_mk1 (shut_bool Try.underlying4 _), (trodAll_cons_mk (Below.trod laidOut (by kernel_rfl) (of_decide_eq_true (by kernel_rfl)) k0 bel lt0) (trodAll_cons_mk (Below.trod laidOut (by kernel_rfl) (of_decide_eq_true (by kernel_rfl)) k1 bel lt1) trodAll_mk0)), rfl, bel.frame _, fun h => by cases h⟩
theorem over : Rows.itemTwiceRow.holds Try.pinned (OpenSpec.ofChange Rows.itemTwiceSpec) :=
  OpenClaim.holds_of_wide 11 Try.f11 rfl rfl rfl rfl rfl rfl rfl ⟨rfl, rfl, rfl, rfl, rfl⟩ rfl rfl rfl rfl rfl (by kernel_rfl) Try.func11 (by kernel_rfl)
    (of_decide_eq_true (by kernel_rfl)) (by unfold Func.isWrapper; first | (rw [if_pos (by decide +kernel)]; kernel_rfl) | (rw [if_neg (by decide +kernel)]; exact ⟨rfl, rfl⟩))
    (fun os started H enc _ => lifted os started H enc)
end Go.Proofs.Ytdahmaepfmcpbaa.itemTwice
namespace Go.Proofs.Ytdahmaepfmcpbaa
theorem itemTwice_holds : Rows.ItemTwiceSaid := itemTwice.over
#print axioms itemTwice_holds
end Go.Proofs.Ytdahmaepfmcpbaa
end
