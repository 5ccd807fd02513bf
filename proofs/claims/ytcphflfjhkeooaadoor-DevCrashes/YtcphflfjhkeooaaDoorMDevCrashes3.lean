/- DevCrashes: at every input the law's function returns true and leaves its arguments as they were; no condition beyond the row's own. Part 3 of 4: this session's own texts, laid together. -/
import Derived.Test.YtcphflfjhkeooaaDoorMB1
import Derived.Test.YtcphflfjhkeooaaDoorMB2
section
-- Printed by a program of this session (mp.py) out of the translation.
namespace Go.Proofs.YtcphflfjhkeooaaDoor.Z
open Go.RowKit Go.Proofs.YtcphflfjhkeooaaDoorW.PrintWords Go.Proofs.YtcphflfjhkeooaaDoorW.PrintLast Go.Proofs.YtcphflfjhkeooaaDoorW.PrintMore
attribute [local go_sem] max2_int min2_int max_two min_two max_three min_three max_four min_four   -- for this text's walks alone
set_option linter.unusedVariables false
set_option linter.unusedSimpArgs false

/-! ### cambiumref03_Copy: function 12 -/
def cambiumref03_Copy.f (a0_0 : Int) (l0_1 : List (S39)) (l0_2 : List (S39)) (a0_3 : Bool) (a0_4 : Int) : Option (Int × (List (S39)) × (List (S39)) × Bool × Int) := (some (([] : List (S39)) : List (S39))).bind fun y103 => (if y103.length + l0_1.length < 5864062014805 then ((some (([] : List (S39)) : List (S39))).bind fun y109 => (if y109.length + l0_2.length < 5864062014805 then (some (a0_0, (y103 ++ l0_1), (y109 ++ l0_2), a0_3, a0_4)) else (none))) else (none))
set_option maxHeartbeats 8000000 in
set_option maxRecDepth 100000 in
theorem cambiumref03_Copy.calls (a0_0 : Int) (A0_1 : Option Addr) (c0_1 : Nat) (l0_1 : List (S39)) (A0_2 : Option Addr) (c0_2 : Nat) (l0_2 : List (S39)) (a0_3 : Bool) (a0_4 : Int) (r1 : Int) (r2 : List (S39)) (r3 : List (S39)) (r4 : Bool) (r5 : Int) (w : World) (hr0_1 : Kd.C k39 w A0_1 l0_1.length l0_1) (hc0_1 : l0_1.length ≤ c0_1) (hr0_2 : Kd.C k39 w A0_2 l0_2.length l0_2) (hc0_2 : l0_2.length ≤ c0_2) (h : cambiumref03_Copy.f a0_0 l0_1 l0_2 a0_3 a0_4 = some (r1, r2, r3, r4, r5)) :
    Calls Tryd.prog 12 #[.agg #[.int .u32 a0_0, .slice A0_1 l0_1.length c0_1, .slice A0_2 l0_2.length c0_2, .bool a0_3, .int .i64 a0_4]] w fun e w' => ∃ v1_ v2_ : Value, e = .returned (.agg #[.int .u32 r1, v1_, v2_, .bool r4, .int .i64 r5]) ∧ Kd.R k39 39 w' w.heap.size (fun k_ => some k_ ≠ (v2_ : Value).ownBlock) v1_ r2 ∧ Kd.R k39 39 w' w.heap.size (fun k_ => some k_ ≠ (v1_ : Value).ownBlock) v2_ r3 ∧ Below w.heap.size w w' := by
  have hu25 := Tryd.underlying25
  have HR0_1 := Aside0.mk hr0_1
  have HC0_1 := Aside0.mk hc0_1
  clear hr0_1 hc0_1
  have HR0_2 := Aside0.mk hr0_2
  have HC0_2 := Aside0.mk hc0_2
  clear hr0_2 hc0_2
  have HB := Aside0.mk (Below.refl w.heap.size w)
  have H : ((some (([] : List (S39)) : List (S39))).bind fun y103 => (if y103.length + l0_1.length < 5864062014805 then ((some (([] : List (S39)) : List (S39))).bind fun y109 => (if y109.length + l0_2.length < 5864062014805 then (some (a0_0, (y103 ++ l0_1), (y109 ++ l0_2), a0_3, a0_4)) else (none))) else (none))) = some (r1, r2, r3, r4, r5) := h
  clear h
  obtain ⟨y103, hy103⟩ : ∃ y_ : List (S39), y_ = (([] : List (S39))) := ⟨_, rfl⟩
  replace H : (if y103.length + l0_1.length < 5864062014805 then ((some (([] : List (S39)) : List (S39))).bind fun y109 => (if y109.length + l0_2.length < 5864062014805 then (some (a0_0, (y103 ++ l0_1), (y109 ++ l0_2), a0_3, a0_4)) else (none))) else (none)) = some (r1, r2, r3, r4, r5) := by first | (rw [hy103]; with_reducible exact H) | (have H2_ := (Option.bind_some _ _).symm.trans H; rw [hy103]; with_reducible exact H2_) | (have H2_ := (Option.bind_some _ _).symm.trans H; with_reducible exact H2_) | with_reducible exact H | (rw [hy103]; exact H) | exact H
  have Ny103 := Aside0.mk hy103
  clear hy103
  by_cases c2 : y103.length + l0_1.length < 5864062014805
  · rw [if_pos c2] at H
    have LMc2 := Aside0.mk c2
    clear c2
    obtain ⟨y106, hy106⟩ : ∃ y_ : List (S39), y_ = (y103 ++ l0_1) := ⟨_, rfl⟩
    replace H : ((some (([] : List (S39)) : List (S39))).bind fun y109 => (if y109.length + l0_2.length < 5864062014805 then (some (a0_0, y106, (y109 ++ l0_2), a0_3, a0_4)) else (none))) = some (r1, r2, r3, r4, r5) := by first | (rw [hy106]; with_reducible exact H) | (have H2_ := (Option.bind_some _ _).symm.trans H; rw [hy106]; with_reducible exact H2_) | (have H2_ := (Option.bind_some _ _).symm.trans H; with_reducible exact H2_) | with_reducible exact H | (rw [hy106]; exact H) | exact H
    have Ny106 := Aside0.mk hy106
    clear hy106
    obtain ⟨y109, hy109⟩ : ∃ y_ : List (S39), y_ = (([] : List (S39))) := ⟨_, rfl⟩
    replace H : (if y109.length + l0_2.length < 5864062014805 then (some (a0_0, y106, (y109 ++ l0_2), a0_3, a0_4)) else (none)) = some (r1, r2, r3, r4, r5) := by first | (rw [hy109]; with_reducible exact H) | (have H2_ := (Option.bind_some _ _).symm.trans H; rw [hy109]; with_reducible exact H2_) | (have H2_ := (Option.bind_some _ _).symm.trans H; with_reducible exact H2_) | with_reducible exact H | (rw [hy109]; exact H) | exact H
    have Ny109 := Aside0.mk hy109
    clear hy109
    by_cases c3 : y109.length + l0_2.length < 5864062014805
    · rw [if_pos c3] at H
      have LMc3 := Aside0.mk c3
      clear c3
      obtain ⟨y112, hy112⟩ : ∃ y_ : List (S39), y_ = (y109 ++ l0_2) := ⟨_, rfl⟩
      replace H : (some (a0_0, y106, y112, a0_3, a0_4)) = some (r1, r2, r3, r4, r5) := by first | (rw [hy112]; with_reducible exact H) | (have H2_ := (Option.bind_some _ _).symm.trans H; rw [hy112]; with_reducible exact H2_) | (have H2_ := (Option.bind_some _ _).symm.trans H; with_reducible exact H2_) | with_reducible exact H | (rw [hy112]; exact H) | exact H
      have Ny112 := Aside0.mk hy112
      clear hy112
      simp only [Option.some.injEq, Prod.mk.injEq] at H
      obtain ⟨rfl, rfl, rfl, rfl, rfl⟩ := H
      go_enter Tryd.func12, Tryd.ntmps12
      go_wp2_with (first | ((with_reducible refine gate_dst (N := 1) rfl ?_); refine bx_ (N := 1) (cs := #[.int .u32 a0_0, .slice A0_1 l0_1.length c0_1, .slice A0_2 l0_2.length c0_2, .bool a0_3, .int .i64 a0_4]) (t := 25) ?_; intro gb101 hg w4 hbox hb; have BK101 := Aside0.mk (hbox); have GW101 := ge_ hg; have GE101 := ge_ hg; replace HB := hb_ hb; clear hb hbox hg) | ((with_reducible refine gate_dst (N := 2) rfl ?_); refine bx_ (N := 2) (cs := #[.int .u32 0, .slice none 0 0, .slice none 0 0, .bool false, .int .i64 0]) (t := 25) ?_; intro gb102 hg w5 hbox hb; have BK102 := Aside0.mk (hbox); have GW102 := ge_ hg; have GE102 := ge_ hg; have NB101_102 := nl_ BK101 hg; have NB102_101 := ng_ BK101 hg; replace BK101 := kb_ BK101 hb; replace HB := hb_ hb; clear hb hbox hg) | ((with_reducible refine gate_dst (N := 3) rfl ?_); refine Kd.R_lit k39 _ 39 ?hg (N := 3) ?hd (xs := ([] : List (S39))) (inner := []) (ok := fun _ => True) (okp := fun _ => True) ?hr ?hp (fun _ hk => hk) trivial (Below.refl _ _) (Nat.le_refl _) (by simp) ?_; (case hd => rfl); (case hg => rfl); (case hr => first | (go_simp; done) | (go_simp; rfl)); (case hp => exact (Reps.none _ _)); intro v104 w6 ho7 hb hg_ hnew_; clear hg_ hnew_; (first | rw [← Ny103.out] at ho7 | (simp only [Int.reduceToNat] at ho7; rw [← Ny103.out] at ho7)); have HO105 := rl_ ho7; replace BK101 := kb_ BK101 hb; replace BK102 := kb_ BK102 hb; replace HB := hb_ hb; clear hb ho7; have hnb8 := NB101_102.out; have hnc8 := NB102_101.out; obtain ⟨hcz9_0, hcz9_1, hcz9_2, hcz9_3, hcz9_4⟩ := cl5_ BK101; obtain ⟨hfz9_0, hfz9_1, hfz9_2, hfz9_3, hfz9_4⟩ := fz5_ BK101) | ((with_reducible refine gate_builtin (b := .append) (xs := #[.tmp 3, .tmp 5]) rfl ?_); at_builtin; refine Kd.R_append_rows k39 (w0 := w) w.heap.size rfl (.tmp 3) (.tmp 5) 23 39 (.agg #[(.int .u32 0), (.string ⟨#[]⟩)]) 24 rfl Tryd.underlying23 info39 rfl (by decide) (by omega) v104 y103 l0_1 _ _ _ (fun _ => True) (fun _ => False) rfl rfl ?aO ?aR (fun _ _ h => h) (fun _ h => h.elim) ?aF ?aB ?aS ?aL ?_; (case aR => repeat (first | exact (Kd.C_below HR0_1.out HB.out) | (with_reducible refine Kd.C_alloc ?_ _) | (with_reducible refine Kd.C_drewN ?_ _) | (with_reducible refine Kd.C_drew ?_))); (case aB => exact bel_); (case aF => exact (fun _ _ => trivial)); (case aO => exact (ra_ HO105)); (case aS => exact (below_size bel_)); (case aL => have := LMc2.out; omega); intro v107 w10 ho hb hg hat; rw [← Ny106.out] at ho; have HO108 := Aside0.mk (ho); replace BK101 := Aside0.mk (blk_grown (bk_ BK101) hg (Kd.R_ne HO105.out BK101.out (by decide))); replace BK102 := Aside0.mk (blk_grown (bk_ BK102) hg (Kd.R_ne HO105.out BK102.out (by decide))); replace HB := Aside0.mk (hb); clear HO105; clear ho hb hg hat; obtain ⟨Ao11, co11, eo11⟩ := Kd.R_slice HO108.out; subst eo11; obtain ⟨hcz12_0, hcz12_1, hcz12_2, hcz12_3, hcz12_4⟩ := cl5_ BK101; obtain ⟨hfz12_0, hfz12_1, hfz12_2, hfz12_3, hfz12_4⟩ := fz5_ BK101) | ((with_reducible refine gate_dst (N := 8) rfl ?_); refine Kd.R_lit k39 _ 39 ?hg (N := 8) ?hd (xs := ([] : List (S39))) (inner := []) (ok := fun _ => True) (okp := fun _ => True) ?hr ?hp (fun _ hk => hk) trivial (Below.refl _ _) (Nat.le_refl _) (by simp) ?_; (case hd => rfl); (case hg => rfl); (case hr => first | (go_simp; done) | (go_simp; rfl)); (case hp => exact (Reps.none _ _)); intro v110 w13 ho14 hb hg_ hnew_; clear hg_ hnew_; (first | rw [← Ny109.out] at ho14 | (simp only [Int.reduceToNat] at ho14; rw [← Ny109.out] at ho14)); have HO111 := Aside0.mk (Kd.R_lower (Kd.R_new' ho14 (Kd.R_lt (rw_ HO108))) (below_size bel_)); replace HO108 := Aside0.mk (Kd.R_elder' (rw_ HO108) (Kd.R_base ho14) hb); replace BK102 := Aside0.mk (blk_below (g := gb102) (o := .cells #[.int .u32 0, .slice none 0 0, .slice none 0 0, .bool false, .int .i64 0] 25 (0, 0)) (bs_) hb); replace HB := hb_ hb; replace BK101 := Aside0.mk (blk_below (g := gb101) (o := .cells #[.int .u32 a0_0, .slice Ao11 y106.length co11, .slice A0_2 l0_2.length c0_2, .bool a0_3, .int .i64 a0_4] 25 (0, 0)) (bs_) hb); clear hb ho14; obtain ⟨hcz15_0, hcz15_1, hcz15_2, hcz15_3, hcz15_4⟩ := cl5_ BK101; obtain ⟨hfz15_0, hfz15_1, hfz15_2, hfz15_3, hfz15_4⟩ := fz5_ BK101) | ((with_reducible refine gate_builtin (b := .append) (xs := #[.tmp 8, .tmp 10]) rfl ?_); at_builtin; refine Kd.R_append_rows k39 (w0 := w) w.heap.size rfl (.tmp 8) (.tmp 10) 23 39 (.agg #[(.int .u32 0), (.string ⟨#[]⟩)]) 24 rfl Tryd.underlying23 info39 rfl (by decide) (by omega) v110 y109 l0_2 _ _ _ (fun k_ => some k_ ≠ (.slice Ao11 y106.length co11 : Value).ownBlock) (fun _ => False) rfl rfl ?aO ?aR (fun _ _ h => h) (fun _ h => h.elim) ?aF ?aB ?aS ?aL ?_; (case aR => repeat (first | exact (Kd.C_below HR0_2.out HB.out) | (with_reducible refine Kd.C_alloc ?_ _) | (with_reducible refine Kd.C_drewN ?_ _) | (with_reducible refine Kd.C_drew ?_))); (case aB => exact bel_); (case aF => exact (fun k_ hk => Kd.fresh' (Kd.R_lt (ra_ HO108)) k_ hk)); (case aO => exact (by (with_reducible repeat (first | apply Kd.R_alloc | apply Kd.R_drewN | apply Kd.R_drew)); exact Kd.R_mono HO111.out (fun _ hk => hk.2))); (case aS => exact (below_size bel_)); (case aL => have := LMc3.out; omega); intro v113 w16 ho hb hg hat; rw [← Ny112.out] at ho; have HO114 := Aside0.mk (ho); replace BK101 := Aside0.mk (blk_grown (bk_ BK101) hg (Kd.R_ne HO111.out BK101.out (by decide))); replace BK102 := Aside0.mk (blk_grown (bk_ BK102) hg (Kd.R_ne HO111.out BK102.out (by decide))); replace HO108 := Aside0.mk (Kd.R_after (ok := (fun _ => True)) (ra_ HO108) hg hat); replace HB := Aside0.mk (hb); clear HO111; clear ho hb hg hat; obtain ⟨Ao17, co17, eo17⟩ := Kd.R_slice HO114.out; subst eo17; obtain ⟨hcz18_0, hcz18_1, hcz18_2, hcz18_3, hcz18_4⟩ := cl5_ BK101; obtain ⟨hfz18_0, hfz18_1, hfz18_2, hfz18_3, hfz18_4⟩ := fz5_ BK101; obtain ⟨hcz19_0, hcz19_1, hcz19_2, hcz19_3, hcz19_4⟩ := cl5_ BK102; obtain ⟨hfz19_0, hfz19_1, hfz19_2, hfz19_3, hfz19_4⟩ := fz5_ BK102))
      refine bodyPost_ret (results_cell_row rfl _ _ gb102 25 #[.int .u32 a0_0, .slice Ao11 y106.length co11, .slice Ao17 y112.length co17, .bool a0_3, .int .i64 a0_4] (0, 0) _ rfl (bs_) Tryd.underlying25 rfl (by kernel_rfl)) rfl ?_
      exact ⟨_, _, by first | rfl | (simp [errW_none, errW_some] <;> rfl) | (simp [*, errW_none, errW_some] <;> rfl), by (with_reducible repeat (first | apply Kd.R_alloc | apply Kd.R_drewN | apply Kd.R_drew)); exact Kd.R_mono (Kd.R_far (p := ⟨gb102, 4, none⟩) (Kd.R_far (p := ⟨gb102, 3, none⟩) (Kd.R_far (p := ⟨gb102, 2, none⟩) (Kd.R_far (p := ⟨gb102, 1, none⟩) (Kd.R_far (p := ⟨gb102, 0, none⟩) (Kd.R_far (p := ⟨gb101, 2, none⟩) (Kd.R_types (Kd.R_types HO108.out BK101.out (by decide)) BK102.out (by decide)) (fun _ hk => hk.1.2) (.slice Ao17 y112.length co17)) (fun _ hk => hk.2) (.int .u32 a0_0)) (fun _ hk => hk.2) (.slice Ao11 y106.length co11)) (fun _ hk => hk.2) (.slice Ao17 y112.length co17)) (fun _ hk => hk.2) (.bool a0_3)) (fun _ hk => hk.2) (.int .i64 a0_4)) (fun _ hk => hk.1.1.2), rw_ HO114, bel_⟩
    rw [if_neg c3] at H
    exact absurd H (by simp)
  rw [if_neg c2] at H
  exact absurd H (by simp)

end Go.Proofs.YtcphflfjhkeooaaDoor.Z
end

section
-- Printed by a program of this session (mp.py) out of the translation.
namespace Go.Proofs.YtcphflfjhkeooaaDoor.Z
open Go.RowKit Go.Proofs.YtcphflfjhkeooaaDoorW.PrintWords Go.Proofs.YtcphflfjhkeooaaDoorW.PrintLast Go.Proofs.YtcphflfjhkeooaaDoorW.PrintMore
attribute [local go_sem] max2_int min2_int max_two min_two max_three min_three max_four min_four   -- for this text's walks alone
set_option linter.unusedVariables false
set_option linter.unusedSimpArgs false

/-! ### cambiumref03_right: function 38 -/
def cambiumref03_right.f (a0 : ByteArray) : Option (Bool) := if (a0.size : Int) ≤ 512 then (if a0.toList = ([] : List UInt8) then (some true) else (if 0 ≤ (wrap64 ((a0.size : Int) - 1)) then (if (wrap64 ((a0.size : Int) - 1)) < (a0.size : Int) then (some ((bt a0 (wrap64 ((a0.size : Int) - 1))) != 0)) else (none)) else (none))) else (some false)
set_option maxHeartbeats 8000000 in
set_option maxRecDepth 100000 in
theorem cambiumref03_right.calls (a0 : ByteArray) (r : Bool) (w : World) (h : cambiumref03_right.f a0 = some r) :
    Calls Tryd.prog 38 #[.string a0] w fun e w' => e = .returned (.bool r) ∧ Drawn0 w w' := by
  have H : (if (a0.size : Int) ≤ 512 then (if a0.toList = ([] : List UInt8) then (some true) else (if 0 ≤ (wrap64 ((a0.size : Int) - 1)) then (if (wrap64 ((a0.size : Int) - 1)) < (a0.size : Int) then (some ((bt a0 (wrap64 ((a0.size : Int) - 1))) != 0)) else (none)) else (none))) else (some false)) = some r := h
  clear h
  by_cases c2 : (a0.size : Int) ≤ 512
  · rw [if_pos c2] at H
    have c2b0 : decide ((a0.size : Int) ≤ 512) = true := decide_eq_true c2
    have c2b1 : decide (a0.size ≤ 512) = true := decide_eq_true (by omega)
    clear c2
    by_cases c3 : a0.toList = ([] : List UInt8)
    · rw [if_pos c3] at H
      have c3b0 : (a0.toList == ([] : List UInt8)) = true := beq_iff_eq.mpr c3
      have c3b1 : (a0.toList != ([] : List UInt8)) = false := bne_eq_false_iff_eq.mpr c3
      clear c3
      obtain rfl := Option.some.inj H
      go_enter Tryd.func38, Tryd.ntmps38
      go_wp2
      go_ret
      exact ⟨by first | rfl | (simp; done) | (simp [*]; done), by repeat (first | exact Drawn0.refl _ | apply Drawn0.step)⟩
    rw [if_neg c3] at H
    have c3b0 : (a0.toList == ([] : List UInt8)) = false := beq_eq_false_iff_ne.mpr c3
    have c3b1 : (a0.toList != ([] : List UInt8)) = true := bne_iff_ne.mpr c3
    obtain ⟨ji4, hji4⟩ : ∃ j_ : Int, (wrap64 ((a0.size : Int) - 1)) = j_ := ⟨_, rfl⟩
    replace H : (if 0 ≤ (ji4) then (if (ji4) < (a0.size : Int) then (some ((bt a0 (ji4)) != 0)) else (none)) else (none)) = some r := by first | (rw [hji4] at H; exact H) | (simp only [hji4] at H ⊢; exact H)
    have hji4w : (IntKind.i64.wrap ((a0.size : Int) - 1)) = ji4 := (i64_w _).trans hji4
    by_cases c5 : 0 ≤ (ji4)
    · rw [if_pos c5] at H
      have c5b0 : decide (0 ≤ (ji4)) = true := decide_eq_true c5
      clear c5
      by_cases c6 : (ji4) < (a0.size : Int)
      · rw [if_pos c6] at H
        have c6b0 : decide ((ji4) < (a0.size : Int)) = true := decide_eq_true c6
        clear c6
        obtain rfl := Option.some.inj H
        have p7 : 0 ≤ ((ji4) : Int) := of_decide_eq_true (by first | (with_reducible assumption) | assumption)
        have q7 : (ji4) < (a0.size : Int) := of_decide_eq_true (by first | (with_reducible assumption) | assumption)
        have hx7 := bt_at a0 (ji4)
        replace p7 := eq_true p7
        replace q7 := eq_true q7
        go_enter Tryd.func38, Tryd.ntmps38
        go_wp2
        go_ret
        exact ⟨by first | rfl | (simp; done) | (simp only [← hji4] <;> (first | rfl | simp)) | (simp [*]; done), by repeat (first | exact Drawn0.refl _ | apply Drawn0.step)⟩
      rw [if_neg c6] at H
      exact absurd H (by simp)
    rw [if_neg c5] at H
    exact absurd H (by simp)
  rw [if_neg c2] at H
  have c2b0 : decide ((a0.size : Int) ≤ 512) = false := decide_eq_false c2
  have c2b1 : decide (a0.size ≤ 512) = false := decide_eq_false (by omega)
  clear c2
  obtain rfl := Option.some.inj H
  go_enter Tryd.func38, Tryd.ntmps38
  go_wp2
  go_ret
  exact ⟨by first | rfl | (simp; done) | (simp [*]; done), by repeat (first | exact Drawn0.refl _ | apply Drawn0.step)⟩

end Go.Proofs.YtcphflfjhkeooaaDoor.Z
end

section
-- Printed by a program of this session (mp.py) out of the translation.
namespace Go.Proofs.YtcphflfjhkeooaaDoor.Z
open Go.RowKit Go.Proofs.YtcphflfjhkeooaaDoorW.PrintWords Go.Proofs.YtcphflfjhkeooaaDoorW.PrintLast Go.Proofs.YtcphflfjhkeooaaDoorW.PrintMore
attribute [local go_sem] max2_int min2_int max_two min_two max_three min_three max_four min_four   -- for this text's walks alone
set_option linter.unusedVariables false
set_option linter.unusedSimpArgs false

/-! ### cambiumref03_Check: function 22 -/
mutual
def cambiumref03_Check.j0 : Nat → Bool → Int → List (S39) → List (S39) → Bool → Int → Option (Int)
  | 0, _, _, _, _, _, _ => none
  | k + 1, x20, x134000, x134001, x134002, x134003, x134004 => if x20 = true then (some 7) else (cambiumref03_Check.l0 k x134001 (x134001.length : Int) 0 x134000 x134001 x134002 x134003 x134004)
def cambiumref03_Check.l0 : Nat → List (S39) → Int → Int → Int → List (S39) → List (S39) → Bool → Int → Option (Int)
  | 0, _, _, _, _, _, _, _, _ => none
  | k + 1, x22, x23, x24, x134000, x134001, x134002, x134003, x134004 => if x24 < x23 then (if 0 ≤ x24 then (if x24 < (x22.length : Int) then (if ((rd_T39 x22 x24).f0) ≥ x134000 then (some 7) else ((cambiumref03_right.f ((rd_T39 x22 x24).f1)).bind fun t136 => (if t136 = true then (if ((rd_T39 x22 x24).f1).toList = ([] : List UInt8) then (some 7) else (if x24 > 0 then (if 0 ≤ (wrap64 (x24 - 1)) then (if (wrap64 (x24 - 1)) < (x134001.length : Int) then (if ((rd_T39 x134001 (wrap64 (x24 - 1))).f0) ≥ ((rd_T39 x22 x24).f0) then (some 7) else (cambiumref03_Check.l0 k x22 x23 (wrap64 (x24 + 1)) x134000 x134001 x134002 x134003 x134004)) else (none)) else (none)) else (cambiumref03_Check.l0 k x22 x23 (wrap64 (x24 + 1)) x134000 x134001 x134002 x134003 x134004))) else (some 7)))) else (none)) else (none)) else (cambiumref03_Check.l1 k x134002 (x134002.length : Int) 0 x134000 x134001 x134002 x134003 x134004)
def cambiumref03_Check.l1 : Nat → List (S39) → Int → Int → Int → List (S39) → List (S39) → Bool → Int → Option (Int)
  | 0, _, _, _, _, _, _, _, _ => none
  | k + 1, x63, x64, x65, x134000, x134001, x134002, x134003, x134004 => if x65 < x64 then (if 0 ≤ x65 then (if x65 < (x63.length : Int) then (if ((rd_T39 x63 x65).f0) ≥ x134000 then (some 7) else ((cambiumref03_right.f ((rd_T39 x63 x65).f1)).bind fun t140 => (if t140 = true then (cambiumref03_Check.l1 k x63 x64 (wrap64 (x65 + 1)) x134000 x134001 x134002 x134003 x134004) else (some 7)))) else (none)) else (none)) else (some 0)
end
def cambiumref03_Check.f (k : Nat) (a0_0 : Int) (l0_1 : List (S39)) (l0_2 : List (S39)) (a0_3 : Bool) (a0_4 : Int) : Option (Int) := if a0_0 < 16 then (cambiumref03_Check.j0 k true a0_0 l0_1 l0_2 a0_3 a0_4) else (if a0_0 > 65536 then (cambiumref03_Check.j0 k true a0_0 l0_1 l0_2 a0_3 a0_4) else (cambiumref03_Check.j0 k (decide ((l0_2.length : Int) > 16384)) a0_0 l0_1 l0_2 a0_3 a0_4))
theorem cambiumref03_Check.mono_l : ∀ k, (∀ y0 y1 y2 y3 y4 y5, LeO (cambiumref03_Check.j0 k y0 y1 y2 y3 y4 y5) (cambiumref03_Check.j0 (k + 1) y0 y1 y2 y3 y4 y5)) ∧ (∀ y0 y1 y2 y3 y4 y5 y6 y7, LeO (cambiumref03_Check.l0 k y0 y1 y2 y3 y4 y5 y6 y7) (cambiumref03_Check.l0 (k + 1) y0 y1 y2 y3 y4 y5 y6 y7)) ∧ (∀ y0 y1 y2 y3 y4 y5 y6 y7, LeO (cambiumref03_Check.l1 k y0 y1 y2 y3 y4 y5 y6 y7) (cambiumref03_Check.l1 (k + 1) y0 y1 y2 y3 y4 y5 y6 y7))
  | 0 => ⟨fun _ _ _ _ _ _ r h => by simp [cambiumref03_Check.j0] at h, fun _ _ _ _ _ _ _ _ r h => by simp [cambiumref03_Check.l0] at h, fun _ _ _ _ _ _ _ _ r h => by simp [cambiumref03_Check.l1] at h⟩
  | k + 1 => by
    obtain ⟨ih0, ih1, ih2⟩ := cambiumref03_Check.mono_l k
    refine ⟨?_, ?_, ?_⟩
    · intro y0 y1 y2 y3 y4 y5
      unfold cambiumref03_Check.j0
      repeat' first
      | (with_reducible exact ih0 _ _ _ _ _ _)
      | (with_reducible exact ih1 _ _ _ _ _ _ _ _)
      | (with_reducible exact ih2 _ _ _ _ _ _ _ _)
      | (with_reducible exact LeO.refl _)
      | (with_reducible exact LeO.none _)
      | (with_reducible refine LeO.ite ?_ ?_)
      | (with_reducible refine LeO.bind ?_ (fun _ => ?_))
      | exact ih0 _ _ _ _ _ _
      | exact ih1 _ _ _ _ _ _ _ _
      | exact ih2 _ _ _ _ _ _ _ _
      | exact LeO.none _
      | refine LeO.ite ?_ ?_
      | refine LeO.bind ?_ (fun _ => ?_)
    · intro y0 y1 y2 y3 y4 y5 y6 y7
      unfold cambiumref03_Check.l0
      repeat' first
      | (with_reducible exact ih0 _ _ _ _ _ _)
      | (with_reducible exact ih1 _ _ _ _ _ _ _ _)
      | (with_reducible exact ih2 _ _ _ _ _ _ _ _)
      | (with_reducible exact LeO.refl _)
      | (with_reducible exact LeO.none _)
      | (with_reducible refine LeO.ite ?_ ?_)
      | (with_reducible refine LeO.bind ?_ (fun _ => ?_))
      | exact ih0 _ _ _ _ _ _
      | exact ih1 _ _ _ _ _ _ _ _
      | exact ih2 _ _ _ _ _ _ _ _
      | exact LeO.none _
      | refine LeO.ite ?_ ?_
      | refine LeO.bind ?_ (fun _ => ?_)
    intro y0 y1 y2 y3 y4 y5 y6 y7
    unfold cambiumref03_Check.l1
    repeat' first
    | (with_reducible exact ih0 _ _ _ _ _ _)
    | (with_reducible exact ih1 _ _ _ _ _ _ _ _)
    | (with_reducible exact ih2 _ _ _ _ _ _ _ _)
    | (with_reducible exact LeO.refl _)
    | (with_reducible exact LeO.none _)
    | (with_reducible refine LeO.ite ?_ ?_)
    | (with_reducible refine LeO.bind ?_ (fun _ => ?_))
    | exact ih0 _ _ _ _ _ _
    | exact ih1 _ _ _ _ _ _ _ _
    | exact ih2 _ _ _ _ _ _ _ _
    | exact LeO.none _
    | refine LeO.ite ?_ ?_
    | refine LeO.bind ?_ (fun _ => ?_)
theorem cambiumref03_Check.mono : ∀ a0 a1 a2 a3 a4 k, LeO (cambiumref03_Check.f k a0 a1 a2 a3 a4) (cambiumref03_Check.f (k + 1) a0 a1 a2 a3 a4) := by
  intro a0 a1 a2 a3 a4 k
  obtain ⟨ih0, ih1, ih2⟩ := cambiumref03_Check.mono_l k
  unfold cambiumref03_Check.f
  repeat' first
      | (with_reducible exact ih0 _ _ _ _ _ _)
      | (with_reducible exact ih1 _ _ _ _ _ _ _ _)
      | (with_reducible exact ih2 _ _ _ _ _ _ _ _)
      | (with_reducible exact LeO.refl _)
      | (with_reducible exact LeO.none _)
      | (with_reducible refine LeO.ite ?_ ?_)
      | (with_reducible refine LeO.bind ?_ (fun _ => ?_))
      | exact ih0 _ _ _ _ _ _
      | exact ih1 _ _ _ _ _ _ _ _
      | exact ih2 _ _ _ _ _ _ _ _
      | exact LeO.none _
      | refine LeO.ite ?_ ?_
      | refine LeO.bind ?_ (fun _ => ?_)
def cambiumref03_Check.T6 : Bool × List (List Nat × List Nat) := (true, [([], []), ([0], [0]), ([], []), ([2], [2]), ([1, 3], [1, 3]), ([4], [4]), ([5], [5]), ([6, 5], [5, 6]), ([7, 5, 5], [5, 7]), ([8, 5], [5, 8]), ([5, 9], [5, 9]), ([10, 8], [10]), ([11], [11]), ([12, 11], [11, 12]), ([13, 11], [11, 13]), ([11, 14], [11, 14]), ([15, 11], [15]), ([16], [16]), ([17, 16], [16, 17]), ([18, 16, 16], [16, 18]), ([19], [19]), ([20, 19], [19, 20]), ([19], [19]), ([22, 19], [19, 22]), ([21, 23, 19], [19, 21, 23]), ([24, 19], [19, 24]), ([25, 19], [19, 25]), ([19], [19]), ([27, 19], [19, 27]), ([26, 28, 19], [19, 26, 28]), ([19, 29, 16], [16, 19, 29]), ([16, 30], [16, 30])])
def cambiumref03_Check.B6 : List Nat := [0, 1, 0, 4, 15, 31, 63, 127, 255, 511, 1023, 2047, 4095, 8191, 16383, 32767, 65535, 131071, 262143, 524287, 1048575, 2097151, 1048575, 5242879, 16777215, 33554431, 67108863, 1048575, 135266303, 536870911, 1073741823, 2147483647]
theorem cambiumref03_Check.tab6 : rtab .any (opsOf Tryd.f22 6) = cambiumref03_Check.T6 := by kernel_rfl
theorem cambiumref03_Check.bits6 : waitsOk cambiumref03_Check.T6.2 cambiumref03_Check.B6 = true := by kernel_rfl
set_option maxHeartbeats 8000000 in
set_option maxRecDepth 100000 in
theorem cambiumref03_Check.calls (k : Nat) (a0_0 : Int) (A0_1 : Option Addr) (c0_1 : Nat) (l0_1 : List (S39)) (A0_2 : Option Addr) (c0_2 : Nat) (l0_2 : List (S39)) (a0_3 : Bool) (a0_4 : Int) (r : Int) (w : World) (hr0_1 : Kd.C k39 w A0_1 l0_1.length l0_1) (hc0_1 : l0_1.length ≤ c0_1) (hr0_2 : Kd.C k39 w A0_2 l0_2.length l0_2) (hc0_2 : l0_2.length ≤ c0_2) (h : cambiumref03_Check.f k a0_0 l0_1 l0_2 a0_3 a0_4 = some r) :
    Calls Tryd.prog 22 #[.agg #[.int .u32 a0_0, .slice A0_1 l0_1.length c0_1, .slice A0_2 l0_2.length c0_2, .bool a0_3, .int .i64 a0_4]] w fun e w' => e = .returned (.int .i64 r) ∧ Below w.heap.size w w' := by
  have hu25 := Tryd.underlying25
  have hu39 := Tryd.underlying39
  have HR0_1 := Aside0.mk hr0_1
  have HC0_1 := Aside0.mk hc0_1
  clear hr0_1 hc0_1
  have HR0_2 := Aside0.mk hr0_2
  have HC0_2 := Aside0.mk hc0_2
  clear hr0_2 hc0_2
  have HB := Aside0.mk (Below.refl w.heap.size w)
  have H : (if a0_0 < 16 then (cambiumref03_Check.j0 k true a0_0 l0_1 l0_2 a0_3 a0_4) else (if a0_0 > 65536 then (cambiumref03_Check.j0 k true a0_0 l0_1 l0_2 a0_3 a0_4) else (cambiumref03_Check.j0 k (decide ((l0_2.length : Int) > 16384)) a0_0 l0_1 l0_2 a0_3 a0_4))) = some r := h
  clear h
  have HC2 := Aside0.mk H
  clear H
  go_enter Tryd.func22, Tryd.ntmps22
  go_upto_region 1 with (first | ((with_reducible refine gate_dst (N := 1) rfl ?_); (try (refine gate_guard (by rfl) ?_; dsimp only)); refine bx_ (N := 1) (cs := #[.int .u32 a0_0, .slice A0_1 l0_1.length c0_1, .slice A0_2 l0_2.length c0_2, .bool a0_3, .int .i64 a0_4]) (t := 25) ?_; intro gb133 hg w3 hbox hb; have n0_ := Aside0.mk (below_step bel_ hb); have n1_ := Aside0.mk (hbox); have n2_ := Aside0.mk ((by rw [hg]; exact (below_size bel_) : w.heap.size ≤ gb133)); have n3_ := Aside0.mk ((by rw [hg]; exact (below_size bel_) : w.heap.size ≤ gb133)); clear HB; have HB := n0_; have BK133 := n1_; have GW133 := n2_; have GE133 := n3_; clear n0_ n1_ n2_ n3_; clear hb hbox hg))
  (try simp only [Act.put, List.setIfInBounds_toArray, List.set_cons_zero, List.set_cons_succ])
  go_cut [20] (fun v20 wc => ∃ (kq : Nat) (x20_1 : Bool), v20 = .bool x20_1 ∧ Aside0 (cambiumref03_Check.j0 kq x20_1 a0_0 l0_1 l0_2 a0_3 a0_4 = some r) ∧ Aside0 (kq ≤ k) ∧ Aside0 (wc.heap[gb133]? = some (.cells #[.int .u32 a0_0, (.slice A0_1 l0_1.length c0_1), (.slice A0_2 l0_2.length c0_2), .bool a0_3, .int .i64 a0_4] 25 (0, 0))) ∧ Aside0 (Below w.heap.size w wc))
  case first =>
    have H := HC2.out
    clear HC2
    by_cases c4 : a0_0 < 16
    · rw [if_pos c4] at H
      have c4b0 : decide (a0_0 < 16) = true := decide_eq_true c4
      clear c4
      (first | rw [c4b0] | (simp only [i64_w, i32_w]; rw [c4b0]) | skip)
      have H' := Aside0.mk H
      clear H
      obtain ⟨hcz5_0, hcz5_1, hcz5_2, hcz5_3, hcz5_4⟩ := cl5_ BK133
      obtain ⟨hfz5_0, hfz5_1, hfz5_2, hfz5_3, hfz5_4⟩ := fz5_ BK133
      go_wp2
      go_meet
      case rel => exact ⟨_, (true), (by first | rfl | (simp; done) | (simp [*]; done)), H', ⟨by first | omega | exact Nat.le_refl _⟩, ⟨bk_ BK133⟩, ⟨bel_⟩⟩
    rw [if_neg c4] at H
    have c4b0 : decide (a0_0 < 16) = false := decide_eq_false c4
    clear c4
    (first | rw [c4b0] | (simp only [i64_w, i32_w]; rw [c4b0]) | skip)
    by_cases c6 : a0_0 > 65536
    · rw [if_pos c6] at H
      have c6b0 : decide (65536 < a0_0) = true := decide_eq_true c6
      clear c6
      have H' := Aside0.mk H
      clear H
      obtain ⟨hcz7_0, hcz7_1, hcz7_2, hcz7_3, hcz7_4⟩ := cl5_ BK133
      obtain ⟨hfz7_0, hfz7_1, hfz7_2, hfz7_3, hfz7_4⟩ := fz5_ BK133
      go_wp2
      go_meet
      case rel => exact ⟨_, (true), (by first | rfl | (simp; done) | (simp [*]; done)), H', ⟨by first | omega | exact Nat.le_refl _⟩, ⟨bk_ BK133⟩, ⟨bel_⟩⟩
    rw [if_neg c6] at H
    have c6b0 : decide (65536 < a0_0) = false := decide_eq_false c6
    clear c6
    have H' := Aside0.mk H
    clear H
    obtain ⟨hcz8_0, hcz8_1, hcz8_2, hcz8_3, hcz8_4⟩ := cl5_ BK133
    obtain ⟨hfz8_0, hfz8_1, hfz8_2, hfz8_3, hfz8_4⟩ := fz5_ BK133
    go_wp2
    go_meet
    case rel => exact ⟨_, (decide ((l0_2.length : Int) > 16384)), (by first | rfl | (simp; done) | (simp [*]; done)), H', ⟨by first | omega | exact Nat.le_refl _⟩, ⟨bk_ BK133⟩, ⟨bel_⟩⟩
  case rest =>
    clear HC2
    try clear c2
    try clear p2
    try clear c4
    try clear c4b0
    try clear c6
    try clear c6b0
    try clear hcz5_0
    try clear hcz5_1
    try clear hcz5_2
    try clear hcz5_3
    try clear hcz5_4
    try clear hcz7_0
    try clear hcz7_1
    try clear hcz7_2
    try clear hcz7_3
    try clear hcz7_4
    try clear hcz8_0
    try clear hcz8_1
    try clear hcz8_2
    try clear hcz8_3
    try clear hcz8_4
    try clear hfz5_0
    try clear hfz5_1
    try clear hfz5_2
    try clear hfz5_3
    try clear hfz5_4
    try clear hfz7_0
    try clear hfz7_1
    try clear hfz7_2
    try clear hfz7_3
    try clear hfz7_4
    try clear hfz8_0
    try clear hfz8_1
    try clear hfz8_2
    try clear hfz8_3
    try clear hfz8_4
    obtain ⟨kq, x20_1, rfl, HA, HJ1, BK133, HB⟩ := hcut
    cases kq with
    | zero => exact absurd HA.out (by simp [cambiumref03_Check.j0])
    | succ kj1 =>
      have H := HA.out
      clear HA
      simp only [cambiumref03_Check.j0] at H
      by_cases c9 : x20_1 = true
      · subst c9
        have H1 : (some 7) = some r := by rw [if_pos rfl] at H; exact H
        clear H
        have H := H1
        clear H1
        obtain rfl := Option.some.inj H
        go_wp2
        go_ret
        exact ⟨by first | rfl | (simp [errW_none, errW_some] <;> rfl) | (simp [*, errW_none, errW_some] <;> rfl), bel_⟩
      replace c9 := Bool.eq_false_iff.mpr c9
      subst c9
      have H1 : (cambiumref03_Check.l0 kj1 l0_1 (l0_1.length : Int) 0 a0_0 l0_1 l0_2 a0_3 a0_4) = some r := by rw [if_neg (show ¬ (false = true) by decide)] at H; exact H
      clear H
      have H := H1
      clear H1
      have H' := Aside0.mk H
      clear H
      obtain ⟨hcz10_0, hcz10_1, hcz10_2, hcz10_3, hcz10_4⟩ := cl5_ BK133
      obtain ⟨hfz10_0, hfz10_1, hfz10_2, hfz10_3, hfz10_4⟩ := fz5_ BK133
      go_wp2
      go_loopg [24] kj1 (fun kq v24 w' => ∃ (x24_2 : Int), v24 = .int .i64 x24_2 ∧ Aside0 (cambiumref03_Check.l0 kq l0_1 (l0_1.length : Int) x24_2 a0_0 l0_1 l0_2 a0_3 a0_4 = some r) ∧ Aside0 (kq ≤ kj1) ∧ Aside0 (w'.heap[gb133]? = some (.cells #[.int .u32 a0_0, (.slice A0_1 l0_1.length c0_1), (.slice A0_2 l0_2.length c0_2), .bool a0_3, .int .i64 a0_4] 25 (0, 0))) ∧ Aside0 (Below w.heap.size w w'))
      case atStart => exact ⟨(0), (by first | rfl | (simp; done) | (simp [*]; done)), H', ⟨Nat.le_refl _⟩, ⟨bk_ BK133⟩, ⟨bel_⟩⟩
      case round =>
        clear H'
        try clear c2
        try clear p2
        try clear c4
        try clear c4b0
        try clear c6
        try clear c6b0
        try clear c9
        try clear hcz10_0
        try clear hcz10_1
        try clear hcz10_2
        try clear hcz10_3
        try clear hcz10_4
        try clear hcz5_0
        try clear hcz5_1
        try clear hcz5_2
        try clear hcz5_3
        try clear hcz5_4
        try clear hcz7_0
        try clear hcz7_1
        try clear hcz7_2
        try clear hcz7_3
        try clear hcz7_4
        try clear hcz8_0
        try clear hcz8_1
        try clear hcz8_2
        try clear hcz8_3
        try clear hcz8_4
        try clear hfz10_0
        try clear hfz10_1
        try clear hfz10_2
        try clear hfz10_3
        try clear hfz10_4
        try clear hfz5_0
        try clear hfz5_1
        try clear hfz5_2
        try clear hfz5_3
        try clear hfz5_4
        try clear hfz7_0
        try clear hfz7_1
        try clear hfz7_2
        try clear hfz7_3
        try clear hfz7_4
        try clear hfz8_0
        try clear hfz8_1
        try clear hfz8_2
        try clear hfz8_3
        try clear hfz8_4
        try clear p2
        obtain ⟨x24_2, rfl, HA, HK2, BK133, HB⟩ := hrel
        cases gk with
        | zero => exact absurd HA.out (by simp [cambiumref03_Check.l0])
        | succ k2 =>
          have H := HA.out
          clear HA
          simp only [cambiumref03_Check.l0] at H
          by_cases c11 : x24_2 < (l0_1.length : Int)
          · rw [if_pos c11] at H
            have c11b0 : decide (x24_2 < (l0_1.length : Int)) = true := decide_eq_true c11
            clear c11
            by_cases c12 : 0 ≤ x24_2
            · rw [if_pos c12] at H
              have c12b0 : decide (0 ≤ x24_2) = true := decide_eq_true c12
              clear c12
              by_cases c13 : x24_2 < (l0_1.length : Int)
              · rw [if_pos c13] at H
                have c13b0 : decide (x24_2 < (l0_1.length : Int)) = true := decide_eq_true c13
                clear c13
                by_cases c14 : ((rd_T39 l0_1 x24_2).f0) ≥ a0_0
                · rw [if_pos c14] at H
                  have c14b0 : decide (a0_0 ≤ ((rd_T39 l0_1 x24_2).f0)) = true := decide_eq_true c14
                  clear c14
                  obtain rfl := Option.some.inj H
                  have p134 : 0 ≤ (x24_2 : Int) := of_decide_eq_true (by first | (with_reducible assumption) | assumption)
                  have q134 : x24_2 < (l0_1.length : Int) := of_decide_eq_true (by first | (with_reducible assumption) | assumption)
                  obtain ⟨ad134, e134, hx134_0, hx134_1⟩ := at_T39 HR0_1.out x24_2 p134 q134
                  cases e134
                  replace hx134_0 := (HB.out.cell (World.block_lt_of_cell? w _ hx134_0)).trans hx134_0
                  replace hx134_1 := (HB.out.cell (World.block_lt_of_cell? w _ hx134_1)).trans hx134_1
                  replace p134 := eq_true p134
                  replace q134 := eq_true q134
                  try go_wp2_with (first | ((with_reducible refine gate_dst (N := 4) rfl ?_); (try (refine gate_guard (by rfl) ?_; dsimp only)); refine bx_ (N := 4) (cs := #[.int .u32 0, .string (⟨#[]⟩ : ByteArray)]) (t := 39) ?_; intro gb135 hg w15 hbox hb; have BK135 := Aside0.mk (hbox); have GW135 := ge_ hg; have GE135 := ge_ hg; have NB133_135 := nl_ BK133 hg; have NB135_133 := ng_ BK133 hg; replace BK133 := kb_ BK133 hb; replace HB := hb_ hb; clear hb hbox hg; have hnb16 := NB135_133.out; have hnc16 := NB133_135.out; obtain ⟨hcz17_0, hcz17_1⟩ := cl2_ BK135; obtain ⟨hfz17_0, hfz17_1⟩ := fz2_ BK135))
                  have n0_ : Aside0 (((w15.setCell ⟨gb135, 0, none⟩ (.int .u32 ((rd_T39 l0_1 x24_2).f0))).setCell ⟨gb135, 1, none⟩ (.string ((rd_T39 l0_1 x24_2).f1))).heap[gb133]? = some (.cells #[.int .u32 a0_0, .slice (some ad134) l0_1.length c0_1, .slice A0_2 l0_2.length c0_2, .bool a0_3, .int .i64 a0_4] 25 (0, 0))) := ⟨bs_⟩
                  have n1_ : Aside0 (((w15.setCell ⟨gb135, 0, none⟩ (.int .u32 ((rd_T39 l0_1 x24_2).f0))).setCell ⟨gb135, 1, none⟩ (.string ((rd_T39 l0_1 x24_2).f1))).heap[gb135]? = some (.cells #[.int .u32 ((rd_T39 l0_1 x24_2).f0), .string ((rd_T39 l0_1 x24_2).f1)] 39 (0, 0))) := ⟨bs_⟩
                  have n2_ : Aside0 (Below w.heap.size w ((w15.setCell ⟨gb135, 0, none⟩ (.int .u32 ((rd_T39 l0_1 x24_2).f0))).setCell ⟨gb135, 1, none⟩ (.string ((rd_T39 l0_1 x24_2).f1)))) := ⟨bel_⟩
                  (try clear BK133)
                  (try clear BK135)
                  (try clear HB)
                  generalize ((w15.setCell ⟨gb135, 0, none⟩ (.int .u32 ((rd_T39 l0_1 x24_2).f0))).setCell ⟨gb135, 1, none⟩ (.string ((rd_T39 l0_1 x24_2).f1))) = w18 at n0_ n1_ n2_ ⊢
                  have BK133 := n0_
                  have BK135 := n1_
                  have HB := n2_
                  clear n0_ n1_ n2_
                  replace BK133 := Aside0.mk (blk_drew BK133.out)
                  replace BK135 := Aside0.mk (blk_drew BK135.out)
                  replace HB := Aside0.mk (below_drew1 HB.out)
                  refine start_ (n := 32) (S := fun w' => w'.cell? ⟨gb135, 0, none⟩ = some (.int .u32 ((rd_T39 l0_1 x24_2).f0)) ∧ w'.cell? ⟨gb135, 1, none⟩ = some (.string ((rd_T39 l0_1 x24_2).f1)) ∧ w'.cell? ⟨gb133, 0, none⟩ = some (.int .u32 a0_0) ∧ w'.cell? ⟨gb133, 1, none⟩ = some (.slice (some ad134) l0_1.length c0_1) ∧ w'.cell? ⟨gb133, 2, none⟩ = some (.slice A0_2 l0_2.length c0_2) ∧ w'.cell? ⟨gb133, 3, none⟩ = some (.bool a0_3) ∧ w'.cell? ⟨gb133, 4, none⟩ = some (.int .i64 a0_4)) (ds := []) #[false, false, false, false, false, false, false, false, false, false, false, false, false, false, false, false, false, false, false, false, false, false, false, false, false, false, false, false, false, false, false, false] (by kernel_rfl) rfl rfl hc_ (fun hHeld => ?_); refine with_tabW cambiumref03_Check.tab6 cambiumref03_Check.bits6 (fun HT_ HW_ => ?_)
                  generalize w18.drew = w19 at BK133 BK135 HB hHeld ⊢
                  refine pu_ 0 29 ?_
                  refine pu_ 2 31 ?_
                  refine tk7_ 1 30 ?_
                  refine tk7_ 3 32 ?_
                  refine pu_ 4 33 ?_
                  refine pu_ 5 34 ?_
                  refine un_ 6 35 ?_
                  refine un_ 7 36 ?_
                  refine un_ 8 37 ?_
                  refine un_ 9 38 ?_
                  refine pu_ 10 39 ?_
                  refine pu_ 11 40 ?_
                  refine un_ 12 41 ?_
                  refine un_ 13 42 ?_
                  refine un_ 14 43 ?_
                  refine pu_ 15 44 ?_
                  refine pu_ 16 45 ?_
                  refine un_ 17 46 ?_
                  refine un_ 18 47 ?_
                  refine un_ 19 48 ?_
                  refine un_ 20 49 ?_
                  refine un_ 21 50 ?_
                  refine un_ 22 51 ?_
                  refine un_ 23 52 ?_
                  refine un_ 24 53 ?_
                  refine un_ 25 54 ?_
                  refine un_ 26 55 ?_
                  refine un_ 27 56 ?_
                  refine un_ 28 57 ?_
                  refine un_ 29 58 ?_
                  refine un_ 30 59 ?_
                  refine pu_ 31 60 ?_
                  refine done_ (done_of HT_.out (by kernel_rfl)) ?_
                  try go_wp2
                  go_ret
                  exact ⟨by first | rfl | (simp [errW_none, errW_some] <;> rfl) | (simp [*, errW_none, errW_some] <;> rfl), bel_⟩
                rw [if_neg c14] at H
                have c14b0 : decide (a0_0 ≤ ((rd_T39 l0_1 x24_2).f0)) = false := decide_eq_false c14
                clear c14
                replace H := Option.bind_eq_some_iff.mp H
                obtain ⟨t136, A200, H⟩ := H
                replace H : (if t136 = true then (if ((rd_T39 l0_1 x24_2).f1).toList = ([] : List UInt8) then (some 7) else (if x24_2 > 0 then (if 0 ≤ (wrap64 (x24_2 - 1)) then (if (wrap64 (x24_2 - 1)) < (l0_1.length : Int) then (if ((rd_T39 l0_1 (wrap64 (x24_2 - 1))).f0) ≥ ((rd_T39 l0_1 x24_2).f0) then (some 7) else (cambiumref03_Check.l0 k2 l0_1 (l0_1.length : Int) (wrap64 (x24_2 + 1)) a0_0 l0_1 l0_2 a0_3 a0_4)) else (none)) else (none)) else (cambiumref03_Check.l0 k2 l0_1 (l0_1.length : Int) (wrap64 (x24_2 + 1)) a0_0 l0_1 l0_2 a0_3 a0_4))) else (some 7)) = some r := H
                have A20 := Aside0.mk A200
                clear A200
                by_cases c21 : t136 = true
                · subst c21
                  have H1 : (if ((rd_T39 l0_1 x24_2).f1).toList = ([] : List UInt8) then (some 7) else (if x24_2 > 0 then (if 0 ≤ (wrap64 (x24_2 - 1)) then (if (wrap64 (x24_2 - 1)) < (l0_1.length : Int) then (if ((rd_T39 l0_1 (wrap64 (x24_2 - 1))).f0) ≥ ((rd_T39 l0_1 x24_2).f0) then (some 7) else (cambiumref03_Check.l0 k2 l0_1 (l0_1.length : Int) (wrap64 (x24_2 + 1)) a0_0 l0_1 l0_2 a0_3 a0_4)) else (none)) else (none)) else (cambiumref03_Check.l0 k2 l0_1 (l0_1.length : Int) (wrap64 (x24_2 + 1)) a0_0 l0_1 l0_2 a0_3 a0_4))) = some r := by rw [if_pos rfl] at H; exact H
                  clear H
                  have H := H1
                  clear H1
                  by_cases c22 : ((rd_T39 l0_1 x24_2).f1).toList = ([] : List UInt8)
                  · rw [if_pos c22] at H
                    have c22b0 : (((rd_T39 l0_1 x24_2).f1).toList == ([] : List UInt8)) = true := beq_iff_eq.mpr c22
                    have c22b1 : (((rd_T39 l0_1 x24_2).f1).toList != ([] : List UInt8)) = false := bne_eq_false_iff_eq.mpr c22
                    clear c22
                    obtain rfl := Option.some.inj H
                    have p134 : 0 ≤ (x24_2 : Int) := of_decide_eq_true (by first | (with_reducible assumption) | assumption)
                    have q134 : x24_2 < (l0_1.length : Int) := of_decide_eq_true (by first | (with_reducible assumption) | assumption)
                    obtain ⟨ad134, e134, hx134_0, hx134_1⟩ := at_T39 HR0_1.out x24_2 p134 q134
                    cases e134
                    replace hx134_0 := (HB.out.cell (World.block_lt_of_cell? w _ hx134_0)).trans hx134_0
                    replace hx134_1 := (HB.out.cell (World.block_lt_of_cell? w _ hx134_1)).trans hx134_1
                    replace p134 := eq_true p134
                    replace q134 := eq_true q134
                    try go_wp2_with (first | ((with_reducible refine gate_dst (N := 4) rfl ?_); (try (refine gate_guard (by rfl) ?_; dsimp only)); refine bx_ (N := 4) (cs := #[.int .u32 0, .string (⟨#[]⟩ : ByteArray)]) (t := 39) ?_; intro gb135 hg w23 hbox hb; have BK135 := Aside0.mk (hbox); have GW135 := ge_ hg; have GE135 := ge_ hg; have NB133_135 := nl_ BK133 hg; have NB135_133 := ng_ BK133 hg; replace BK133 := kb_ BK133 hb; replace HB := hb_ hb; clear hb hbox hg; have hnb24 := NB135_133.out; have hnc24 := NB133_135.out; obtain ⟨hcz25_0, hcz25_1⟩ := cl2_ BK135; obtain ⟨hfz25_0, hfz25_1⟩ := fz2_ BK135))
                    have n0_ : Aside0 (((w23.setCell ⟨gb135, 0, none⟩ (.int .u32 ((rd_T39 l0_1 x24_2).f0))).setCell ⟨gb135, 1, none⟩ (.string ((rd_T39 l0_1 x24_2).f1))).heap[gb133]? = some (.cells #[.int .u32 a0_0, .slice (some ad134) l0_1.length c0_1, .slice A0_2 l0_2.length c0_2, .bool a0_3, .int .i64 a0_4] 25 (0, 0))) := ⟨bs_⟩
                    have n1_ : Aside0 (((w23.setCell ⟨gb135, 0, none⟩ (.int .u32 ((rd_T39 l0_1 x24_2).f0))).setCell ⟨gb135, 1, none⟩ (.string ((rd_T39 l0_1 x24_2).f1))).heap[gb135]? = some (.cells #[.int .u32 ((rd_T39 l0_1 x24_2).f0), .string ((rd_T39 l0_1 x24_2).f1)] 39 (0, 0))) := ⟨bs_⟩
                    have n2_ : Aside0 (Below w.heap.size w ((w23.setCell ⟨gb135, 0, none⟩ (.int .u32 ((rd_T39 l0_1 x24_2).f0))).setCell ⟨gb135, 1, none⟩ (.string ((rd_T39 l0_1 x24_2).f1)))) := ⟨bel_⟩
                    (try clear BK133)
                    (try clear BK135)
                    (try clear HB)
                    generalize ((w23.setCell ⟨gb135, 0, none⟩ (.int .u32 ((rd_T39 l0_1 x24_2).f0))).setCell ⟨gb135, 1, none⟩ (.string ((rd_T39 l0_1 x24_2).f1))) = w26 at n0_ n1_ n2_ ⊢
                    have BK133 := n0_
                    have BK135 := n1_
                    have HB := n2_
                    clear n0_ n1_ n2_
                    replace BK133 := Aside0.mk (blk_drew BK133.out)
                    replace BK135 := Aside0.mk (blk_drew BK135.out)
                    replace HB := Aside0.mk (below_drew1 HB.out)
                    refine start_ (n := 32) (S := fun w' => w'.cell? ⟨gb135, 0, none⟩ = some (.int .u32 ((rd_T39 l0_1 x24_2).f0)) ∧ w'.cell? ⟨gb135, 1, none⟩ = some (.string ((rd_T39 l0_1 x24_2).f1)) ∧ w'.cell? ⟨gb133, 0, none⟩ = some (.int .u32 a0_0) ∧ w'.cell? ⟨gb133, 1, none⟩ = some (.slice (some ad134) l0_1.length c0_1) ∧ w'.cell? ⟨gb133, 2, none⟩ = some (.slice A0_2 l0_2.length c0_2) ∧ w'.cell? ⟨gb133, 3, none⟩ = some (.bool a0_3) ∧ w'.cell? ⟨gb133, 4, none⟩ = some (.int .i64 a0_4)) (ds := []) #[false, false, false, false, false, false, false, false, false, false, false, false, false, false, false, false, false, false, false, false, false, false, false, false, false, false, false, false, false, false, false, false] (by kernel_rfl) rfl rfl hc_ (fun hHeld => ?_); refine with_tabW cambiumref03_Check.tab6 cambiumref03_Check.bits6 (fun HT_ HW_ => ?_)
                    generalize w26.drew = w27 at BK133 BK135 HB hHeld ⊢
                    refine pu_ 0 29 ?_
                    refine pu_ 2 31 ?_
                    refine tk7_ 1 30 ?_
                    refine tk7_ 3 32 ?_
                    refine pu_ 4 33 ?_
                    refine pu_ 5 34 ?_
                    refine pu_ 6 35 ?_
                    refine tk7_ 7 36 ?_
                    refine on_ 8 37 (fun K hK => ?_)
                    refine goes_ Tryd.func38 (by kernel_rfl) rfl #[.string ((rd_T39 l0_1 x24_2).f1)] (by rfl) rfl rfl (by (try simp only [List.map_toArray, List.map_cons, List.map_nil]); first | done | rfl | (simp only [List.length_drop, List.length_take]; rfl)) ?_
                    with_reducible refine (cambiumref03_right.calls ((rd_T39 l0_1 x24_2).f1) true _ A20.out).mono ?_
                    rintro e w' ⟨rfl, ⟨nd, rfl⟩⟩
                    refine ⟨_, rfl, ?_⟩
                    refine hK.out _ _ hc_ (fun hHeld => ?_)
                    clear hK K
                    refine nm_ 37 ?_
                    refine pu_ 9 38 ?_
                    refine pu_ 10 39 ?_
                    refine pu_ 11 40 ?_
                    refine pu_ 12 41 ?_
                    refine tk7_ 13 42 ?_
                    refine pu_ 14 43 ?_
                    refine pu_ 15 44 ?_
                    refine pu_ 16 45 ?_
                    refine un_ 17 46 ?_
                    refine un_ 18 47 ?_
                    refine un_ 19 48 ?_
                    refine un_ 20 49 ?_
                    refine un_ 21 50 ?_
                    refine un_ 22 51 ?_
                    refine un_ 23 52 ?_
                    refine un_ 24 53 ?_
                    refine un_ 25 54 ?_
                    refine un_ 26 55 ?_
                    refine un_ 27 56 ?_
                    refine un_ 28 57 ?_
                    refine un_ 29 58 ?_
                    refine un_ 30 59 ?_
                    refine pu_ 31 60 ?_
                    refine done_ (done_of HT_.out (by kernel_rfl)) ?_
                    try go_wp2
                    go_ret
                    exact ⟨by first | rfl | (simp [errW_none, errW_some] <;> rfl) | (simp [*, errW_none, errW_some] <;> rfl), bel_⟩
                  rw [if_neg c22] at H
                  have c22b0 : (((rd_T39 l0_1 x24_2).f1).toList == ([] : List UInt8)) = false := beq_eq_false_iff_ne.mpr c22
                  have c22b1 : (((rd_T39 l0_1 x24_2).f1).toList != ([] : List UInt8)) = true := bne_iff_ne.mpr c22
                  by_cases c28 : x24_2 > 0
                  · rw [if_pos c28] at H
                    have c28b0 : decide (0 < x24_2) = true := decide_eq_true c28
                    clear c28
                    obtain ⟨ji29, hji29⟩ : ∃ j_ : Int, (wrap64 (x24_2 - 1)) = j_ := ⟨_, rfl⟩
                    replace H : (if 0 ≤ (ji29) then (if (ji29) < (l0_1.length : Int) then (if ((rd_T39 l0_1 (ji29)).f0) ≥ ((rd_T39 l0_1 x24_2).f0) then (some 7) else (cambiumref03_Check.l0 k2 l0_1 (l0_1.length : Int) (wrap64 (x24_2 + 1)) a0_0 l0_1 l0_2 a0_3 a0_4)) else (none)) else (none)) = some r := by first | (rw [hji29] at H; exact H) | (simp only [hji29] at H ⊢; exact H)
                    (try rw [hji29] at A20)
                    have hji29w : (IntKind.i64.wrap (x24_2 - 1)) = ji29 := (i64_w _).trans hji29
                    by_cases c30 : 0 ≤ (ji29)
                    · rw [if_pos c30] at H
                      have c30b0 : decide (0 ≤ (ji29)) = true := decide_eq_true c30
                      clear c30
                      by_cases c31 : (ji29) < (l0_1.length : Int)
                      · rw [if_pos c31] at H
                        have c31b0 : decide ((ji29) < (l0_1.length : Int)) = true := decide_eq_true c31
                        clear c31
                        by_cases c32 : ((rd_T39 l0_1 (ji29)).f0) ≥ ((rd_T39 l0_1 x24_2).f0)
                        · rw [if_pos c32] at H
                          have c32b0 : decide (((rd_T39 l0_1 x24_2).f0) ≤ ((rd_T39 l0_1 (ji29)).f0)) = true := decide_eq_true c32
                          clear c32
                          obtain rfl := Option.some.inj H
                          have p134 : 0 ≤ (x24_2 : Int) := of_decide_eq_true (by first | (with_reducible assumption) | assumption)
                          have q134 : x24_2 < (l0_1.length : Int) := of_decide_eq_true (by first | (with_reducible assumption) | assumption)
                          obtain ⟨ad134, e134, hx134_0, hx134_1⟩ := at_T39 HR0_1.out x24_2 p134 q134
                          cases e134
                          replace hx134_0 := (HB.out.cell (World.block_lt_of_cell? w _ hx134_0)).trans hx134_0
                          replace hx134_1 := (HB.out.cell (World.block_lt_of_cell? w _ hx134_1)).trans hx134_1
                          replace p134 := eq_true p134
                          replace q134 := eq_true q134
                          try go_wp2_with (first | ((with_reducible refine gate_dst (N := 4) rfl ?_); (try (refine gate_guard (by rfl) ?_; dsimp only)); refine bx_ (N := 4) (cs := #[.int .u32 0, .string (⟨#[]⟩ : ByteArray)]) (t := 39) ?_; intro gb135 hg w33 hbox hb; have BK135 := Aside0.mk (hbox); have GW135 := ge_ hg; have GE135 := ge_ hg; have NB133_135 := nl_ BK133 hg; have NB135_133 := ng_ BK133 hg; replace BK133 := kb_ BK133 hb; replace HB := hb_ hb; clear hb hbox hg; have hnb34 := NB135_133.out; have hnc34 := NB133_135.out; obtain ⟨hcz35_0, hcz35_1⟩ := cl2_ BK135; obtain ⟨hfz35_0, hfz35_1⟩ := fz2_ BK135))
                          have n0_ : Aside0 (((w33.setCell ⟨gb135, 0, none⟩ (.int .u32 ((rd_T39 l0_1 x24_2).f0))).setCell ⟨gb135, 1, none⟩ (.string ((rd_T39 l0_1 x24_2).f1))).heap[gb133]? = some (.cells #[.int .u32 a0_0, .slice (some ad134) l0_1.length c0_1, .slice A0_2 l0_2.length c0_2, .bool a0_3, .int .i64 a0_4] 25 (0, 0))) := ⟨bs_⟩
                          have n1_ : Aside0 (((w33.setCell ⟨gb135, 0, none⟩ (.int .u32 ((rd_T39 l0_1 x24_2).f0))).setCell ⟨gb135, 1, none⟩ (.string ((rd_T39 l0_1 x24_2).f1))).heap[gb135]? = some (.cells #[.int .u32 ((rd_T39 l0_1 x24_2).f0), .string ((rd_T39 l0_1 x24_2).f1)] 39 (0, 0))) := ⟨bs_⟩
                          have n2_ : Aside0 (Below w.heap.size w ((w33.setCell ⟨gb135, 0, none⟩ (.int .u32 ((rd_T39 l0_1 x24_2).f0))).setCell ⟨gb135, 1, none⟩ (.string ((rd_T39 l0_1 x24_2).f1)))) := ⟨bel_⟩
                          (try clear BK133)
                          (try clear BK135)
                          (try clear HB)
                          generalize ((w33.setCell ⟨gb135, 0, none⟩ (.int .u32 ((rd_T39 l0_1 x24_2).f0))).setCell ⟨gb135, 1, none⟩ (.string ((rd_T39 l0_1 x24_2).f1))) = w36 at n0_ n1_ n2_ ⊢
                          have BK133 := n0_
                          have BK135 := n1_
                          have HB := n2_
                          clear n0_ n1_ n2_
                          replace BK133 := Aside0.mk (blk_drew BK133.out)
                          replace BK135 := Aside0.mk (blk_drew BK135.out)
                          replace HB := Aside0.mk (below_drew1 HB.out)
                          have p137 : 0 ≤ ((ji29) : Int) := of_decide_eq_true (by first | (with_reducible assumption) | assumption)
                          have q137 : (ji29) < (l0_1.length : Int) := of_decide_eq_true (by first | (with_reducible assumption) | assumption)
                          obtain ⟨ad137, e137, hx137_0, hx137_1⟩ := at_T39 HR0_1.out (ji29) p137 q137
                          have hw137_1 := hx137_1
                          have hw137_0 := hx137_0
                          obtain rfl : ad134 = ad137 := (by injection e137)
                          replace hx137_0 := (HB.out.cell (World.block_lt_of_cell? w _ hx137_0)).trans hx137_0
                          replace hx137_1 := (HB.out.cell (World.block_lt_of_cell? w _ hx137_1)).trans hx137_1
                          replace p137 := eq_true p137
                          replace q137 := eq_true q137
                          refine start_ (n := 32) (S := fun w' => w'.cell? ⟨gb135, 0, none⟩ = some (.int .u32 ((rd_T39 l0_1 x24_2).f0)) ∧ w'.cell? ⟨gb135, 1, none⟩ = some (.string ((rd_T39 l0_1 x24_2).f1)) ∧ w'.cell? ⟨gb133, 0, none⟩ = some (.int .u32 a0_0) ∧ w'.cell? ⟨gb133, 1, none⟩ = some (.slice (some ad134) l0_1.length c0_1) ∧ w'.cell? ⟨gb133, 2, none⟩ = some (.slice A0_2 l0_2.length c0_2) ∧ w'.cell? ⟨gb133, 3, none⟩ = some (.bool a0_3) ∧ w'.cell? ⟨gb133, 4, none⟩ = some (.int .i64 a0_4) ∧ w'.cell? (ad134.add (((ji29)).toNat * 2)) = some (.int .u32 ((rd_T39 l0_1 (ji29)).f0)) ∧ w'.cell? ⟨(ad134.add (((ji29)).toNat * 2)).block, (ad134.add (((ji29)).toNat * 2)).off + 1, none⟩ = some (.string ((rd_T39 l0_1 (ji29)).f1))) (ds := []) #[false, false, false, false, false, false, false, false, false, false, false, false, false, false, false, false, false, false, false, false, false, false, false, false, false, false, false, false, false, false, false, false] (by kernel_rfl) rfl rfl ⟨(blk_cell BK135.out 0).trans rfl, (blk_cell BK135.out 1).trans rfl, (blk_cell BK133.out 0).trans rfl, (blk_cell BK133.out 1).trans rfl, (blk_cell BK133.out 2).trans rfl, (blk_cell BK133.out 3).trans rfl, (blk_cell BK133.out 4).trans rfl, ((HB.out.cell (World.block_lt_of_cell? w _ hw137_0)).trans hw137_0), ((HB.out.cell (World.block_lt_of_cell? w _ hw137_1)).trans hw137_1)⟩ (fun hHeld => ?_); refine with_tabW cambiumref03_Check.tab6 cambiumref03_Check.bits6 (fun HT_ HW_ => ?_)
                          generalize w36.drew = w37 at BK133 BK135 HB hx137_0 hx137_1 hHeld ⊢
                          refine pu_ 0 29 ?_
                          refine pu_ 2 31 ?_
                          refine tk9_ 1 30 ?_
                          refine tk9_ 3 32 ?_
                          refine pu_ 4 33 ?_
                          refine pu_ 5 34 ?_
                          refine pu_ 6 35 ?_
                          refine tk9_ 7 36 ?_
                          refine on_ 8 37 (fun K hK => ?_)
                          refine goes_ Tryd.func38 (by kernel_rfl) rfl #[.string ((rd_T39 l0_1 x24_2).f1)] (by rfl) rfl rfl (by (try simp only [List.map_toArray, List.map_cons, List.map_nil]); first | done | rfl | (simp only [List.length_drop, List.length_take]; rfl)) ?_
                          with_reducible refine (cambiumref03_right.calls ((rd_T39 l0_1 x24_2).f1) true _ A20.out).mono ?_
                          rintro e w' ⟨rfl, ⟨nd, rfl⟩⟩
                          refine ⟨_, rfl, ?_⟩
                          refine hK.out _ _ ⟨(blk_cell BK135.out 0).trans rfl, (blk_cell BK135.out 1).trans rfl, (blk_cell BK133.out 0).trans rfl, (blk_cell BK133.out 1).trans rfl, (blk_cell BK133.out 2).trans rfl, (blk_cell BK133.out 3).trans rfl, (blk_cell BK133.out 4).trans rfl, ((HB.out.cell (World.block_lt_of_cell? w _ hw137_0)).trans hw137_0), ((HB.out.cell (World.block_lt_of_cell? w _ hw137_1)).trans hw137_1)⟩ (fun hHeld => ?_)
                          clear hK K
                          refine nm_ 37 ?_
                          refine pu_ 9 38 ?_
                          refine pu_ 10 39 ?_
                          refine pu_ 11 40 ?_
                          refine pu_ 12 41 ?_
                          refine tk9_ 13 42 ?_
                          refine pu_ 14 43 ?_
                          refine pu_ 15 44 ?_
                          refine pu_ 16 45 ?_
                          refine pu_ 17 46 ?_
                          refine pu_ 18 47 ?_
                          refine pu_ 19 48 ?_
                          refine pu_ 20 49 ?_
                          refine pu_ 22 51 ?_
                          refine pu_ 23 52 ?_
                          refine pu_ 27 56 ?_
                          refine tk9_ 21 50 ?_
                          refine pu_ 24 53 ?_
                          refine pu_ 25 54 ?_
                          refine tk9_ 26 55 ?_
                          refine tk9_ 28 57 ?_
                          refine pu_ 29 58 ?_
                          refine pu_ 30 59 ?_
                          refine pu_ 31 60 ?_
                          refine done_ (done_of HT_.out (by kernel_rfl)) ?_
                          try go_wp2
                          go_ret
                          exact ⟨by first | rfl | (simp [errW_none, errW_some] <;> rfl) | (simp only [← hji29]; first | rfl | (simp [errW_none, errW_some] <;> rfl)) | (simp [*, errW_none, errW_some] <;> rfl), bel_⟩
                        rw [if_neg c32] at H
                        have c32b0 : decide (((rd_T39 l0_1 x24_2).f0) ≤ ((rd_T39 l0_1 (ji29)).f0)) = false := decide_eq_false c32
                        clear c32
                        have H' := Aside0.mk H
                        clear H
                        have p134 : 0 ≤ (x24_2 : Int) := of_decide_eq_true (by first | (with_reducible assumption) | assumption)
                        have q134 : x24_2 < (l0_1.length : Int) := of_decide_eq_true (by first | (with_reducible assumption) | assumption)
                        obtain ⟨ad134, e134, hx134_0, hx134_1⟩ := at_T39 HR0_1.out x24_2 p134 q134
                        cases e134
                        replace hx134_0 := (HB.out.cell (World.block_lt_of_cell? w _ hx134_0)).trans hx134_0
                        replace hx134_1 := (HB.out.cell (World.block_lt_of_cell? w _ hx134_1)).trans hx134_1
                        replace p134 := eq_true p134
                        replace q134 := eq_true q134
                        try go_wp2_with (first | ((with_reducible refine gate_dst (N := 4) rfl ?_); (try (refine gate_guard (by rfl) ?_; dsimp only)); refine bx_ (N := 4) (cs := #[.int .u32 0, .string (⟨#[]⟩ : ByteArray)]) (t := 39) ?_; intro gb135 hg w38 hbox hb; have BK135 := Aside0.mk (hbox); have GW135 := ge_ hg; have GE135 := ge_ hg; have NB133_135 := nl_ BK133 hg; have NB135_133 := ng_ BK133 hg; replace BK133 := kb_ BK133 hb; replace HB := hb_ hb; clear hb hbox hg; have hnb39 := NB135_133.out; have hnc39 := NB133_135.out; obtain ⟨hcz40_0, hcz40_1⟩ := cl2_ BK135; obtain ⟨hfz40_0, hfz40_1⟩ := fz2_ BK135))
                        have n0_ : Aside0 (((w38.setCell ⟨gb135, 0, none⟩ (.int .u32 ((rd_T39 l0_1 x24_2).f0))).setCell ⟨gb135, 1, none⟩ (.string ((rd_T39 l0_1 x24_2).f1))).heap[gb133]? = some (.cells #[.int .u32 a0_0, .slice (some ad134) l0_1.length c0_1, .slice A0_2 l0_2.length c0_2, .bool a0_3, .int .i64 a0_4] 25 (0, 0))) := ⟨bs_⟩
                        have n1_ : Aside0 (((w38.setCell ⟨gb135, 0, none⟩ (.int .u32 ((rd_T39 l0_1 x24_2).f0))).setCell ⟨gb135, 1, none⟩ (.string ((rd_T39 l0_1 x24_2).f1))).heap[gb135]? = some (.cells #[.int .u32 ((rd_T39 l0_1 x24_2).f0), .string ((rd_T39 l0_1 x24_2).f1)] 39 (0, 0))) := ⟨bs_⟩
                        have n2_ : Aside0 (Below w.heap.size w ((w38.setCell ⟨gb135, 0, none⟩ (.int .u32 ((rd_T39 l0_1 x24_2).f0))).setCell ⟨gb135, 1, none⟩ (.string ((rd_T39 l0_1 x24_2).f1)))) := ⟨bel_⟩
                        (try clear BK133)
                        (try clear BK135)
                        (try clear HB)
                        generalize ((w38.setCell ⟨gb135, 0, none⟩ (.int .u32 ((rd_T39 l0_1 x24_2).f0))).setCell ⟨gb135, 1, none⟩ (.string ((rd_T39 l0_1 x24_2).f1))) = w41 at n0_ n1_ n2_ ⊢
                        have BK133 := n0_
                        have BK135 := n1_
                        have HB := n2_
                        clear n0_ n1_ n2_
                        replace BK133 := Aside0.mk (blk_drew BK133.out)
                        replace BK135 := Aside0.mk (blk_drew BK135.out)
                        replace HB := Aside0.mk (below_drew1 HB.out)
                        have p137 : 0 ≤ ((ji29) : Int) := of_decide_eq_true (by first | (with_reducible assumption) | assumption)
                        have q137 : (ji29) < (l0_1.length : Int) := of_decide_eq_true (by first | (with_reducible assumption) | assumption)
                        obtain ⟨ad137, e137, hx137_0, hx137_1⟩ := at_T39 HR0_1.out (ji29) p137 q137
                        have hw137_1 := hx137_1
                        have hw137_0 := hx137_0
                        obtain rfl : ad134 = ad137 := (by injection e137)
                        replace hx137_0 := (HB.out.cell (World.block_lt_of_cell? w _ hx137_0)).trans hx137_0
                        replace hx137_1 := (HB.out.cell (World.block_lt_of_cell? w _ hx137_1)).trans hx137_1
                        replace p137 := eq_true p137
                        replace q137 := eq_true q137
                        refine start_ (n := 32) (S := fun w' => w'.cell? ⟨gb135, 0, none⟩ = some (.int .u32 ((rd_T39 l0_1 x24_2).f0)) ∧ w'.cell? ⟨gb135, 1, none⟩ = some (.string ((rd_T39 l0_1 x24_2).f1)) ∧ w'.cell? ⟨gb133, 0, none⟩ = some (.int .u32 a0_0) ∧ w'.cell? ⟨gb133, 1, none⟩ = some (.slice (some ad134) l0_1.length c0_1) ∧ w'.cell? ⟨gb133, 2, none⟩ = some (.slice A0_2 l0_2.length c0_2) ∧ w'.cell? ⟨gb133, 3, none⟩ = some (.bool a0_3) ∧ w'.cell? ⟨gb133, 4, none⟩ = some (.int .i64 a0_4) ∧ w'.cell? (ad134.add (((ji29)).toNat * 2)) = some (.int .u32 ((rd_T39 l0_1 (ji29)).f0)) ∧ w'.cell? ⟨(ad134.add (((ji29)).toNat * 2)).block, (ad134.add (((ji29)).toNat * 2)).off + 1, none⟩ = some (.string ((rd_T39 l0_1 (ji29)).f1))) (ds := []) #[false, false, false, false, false, false, false, false, false, false, false, false, false, false, false, false, false, false, false, false, false, false, false, false, false, false, false, false, false, false, false, false] (by kernel_rfl) rfl rfl ⟨(blk_cell BK135.out 0).trans rfl, (blk_cell BK135.out 1).trans rfl, (blk_cell BK133.out 0).trans rfl, (blk_cell BK133.out 1).trans rfl, (blk_cell BK133.out 2).trans rfl, (blk_cell BK133.out 3).trans rfl, (blk_cell BK133.out 4).trans rfl, ((HB.out.cell (World.block_lt_of_cell? w _ hw137_0)).trans hw137_0), ((HB.out.cell (World.block_lt_of_cell? w _ hw137_1)).trans hw137_1)⟩ (fun hHeld => ?_); refine with_tabW cambiumref03_Check.tab6 cambiumref03_Check.bits6 (fun HT_ HW_ => ?_)
                        generalize w41.drew = w42 at BK133 BK135 HB hx137_0 hx137_1 hHeld ⊢
                        refine pu_ 0 29 ?_
                        refine pu_ 2 31 ?_
                        refine tk9_ 1 30 ?_
                        refine tk9_ 3 32 ?_
                        refine pu_ 4 33 ?_
                        refine pu_ 5 34 ?_
                        refine pu_ 6 35 ?_
                        refine tk9_ 7 36 ?_
                        refine on_ 8 37 (fun K hK => ?_)
                        refine goes_ Tryd.func38 (by kernel_rfl) rfl #[.string ((rd_T39 l0_1 x24_2).f1)] (by rfl) rfl rfl (by (try simp only [List.map_toArray, List.map_cons, List.map_nil]); first | done | rfl | (simp only [List.length_drop, List.length_take]; rfl)) ?_
                        with_reducible refine (cambiumref03_right.calls ((rd_T39 l0_1 x24_2).f1) true _ A20.out).mono ?_
                        rintro e w' ⟨rfl, ⟨nd, rfl⟩⟩
                        refine ⟨_, rfl, ?_⟩
                        refine hK.out _ _ ⟨(blk_cell BK135.out 0).trans rfl, (blk_cell BK135.out 1).trans rfl, (blk_cell BK133.out 0).trans rfl, (blk_cell BK133.out 1).trans rfl, (blk_cell BK133.out 2).trans rfl, (blk_cell BK133.out 3).trans rfl, (blk_cell BK133.out 4).trans rfl, ((HB.out.cell (World.block_lt_of_cell? w _ hw137_0)).trans hw137_0), ((HB.out.cell (World.block_lt_of_cell? w _ hw137_1)).trans hw137_1)⟩ (fun hHeld => ?_)
                        clear hK K
                        refine nm_ 37 ?_
                        refine pu_ 9 38 ?_
                        refine pu_ 10 39 ?_
                        refine pu_ 11 40 ?_
                        refine pu_ 12 41 ?_
                        refine tk9_ 13 42 ?_
                        refine pu_ 14 43 ?_
                        refine pu_ 15 44 ?_
                        refine pu_ 16 45 ?_
                        refine pu_ 17 46 ?_
                        refine pu_ 18 47 ?_
                        refine pu_ 19 48 ?_
                        refine pu_ 20 49 ?_
                        refine pu_ 22 51 ?_
                        refine pu_ 23 52 ?_
                        refine pu_ 27 56 ?_
                        refine tk9_ 21 50 ?_
                        refine pu_ 24 53 ?_
                        refine pu_ 25 54 ?_
                        refine tk9_ 26 55 ?_
                        refine tk9_ 28 57 ?_
                        refine pu_ 29 58 ?_
                        refine pu_ 30 59 ?_
                        refine pu_ 31 60 ?_
                        refine done_ (done_of HT_.out (by kernel_rfl)) ?_
                        try go_wp2
                        go_roundg k2
                        case measure => have := HJ1.out; have := HK2.out; omega
                        case rel => exact ⟨(wrap64 (x24_2 + 1)), (by first | rfl | (simp; done) | (simp [*]; done)), H', ⟨by have := HJ1.out; have := HK2.out; omega⟩, ⟨bk_ BK133⟩, ⟨bel_⟩⟩
                      rw [if_neg c31] at H
                      exact absurd H (by simp)
                    rw [if_neg c30] at H
                    exact absurd H (by simp)
                  rw [if_neg c28] at H
                  have c28b0 : decide (0 < x24_2) = false := decide_eq_false c28
                  clear c28
                  have H' := Aside0.mk H
                  clear H
                  have p134 : 0 ≤ (x24_2 : Int) := of_decide_eq_true (by first | (with_reducible assumption) | assumption)
                  have q134 : x24_2 < (l0_1.length : Int) := of_decide_eq_true (by first | (with_reducible assumption) | assumption)
                  obtain ⟨ad134, e134, hx134_0, hx134_1⟩ := at_T39 HR0_1.out x24_2 p134 q134
                  cases e134
                  replace hx134_0 := (HB.out.cell (World.block_lt_of_cell? w _ hx134_0)).trans hx134_0
                  replace hx134_1 := (HB.out.cell (World.block_lt_of_cell? w _ hx134_1)).trans hx134_1
                  replace p134 := eq_true p134
                  replace q134 := eq_true q134
                  try go_wp2_with (first | ((with_reducible refine gate_dst (N := 4) rfl ?_); (try (refine gate_guard (by rfl) ?_; dsimp only)); refine bx_ (N := 4) (cs := #[.int .u32 0, .string (⟨#[]⟩ : ByteArray)]) (t := 39) ?_; intro gb135 hg w43 hbox hb; have BK135 := Aside0.mk (hbox); have GW135 := ge_ hg; have GE135 := ge_ hg; have NB133_135 := nl_ BK133 hg; have NB135_133 := ng_ BK133 hg; replace BK133 := kb_ BK133 hb; replace HB := hb_ hb; clear hb hbox hg; have hnb44 := NB135_133.out; have hnc44 := NB133_135.out; obtain ⟨hcz45_0, hcz45_1⟩ := cl2_ BK135; obtain ⟨hfz45_0, hfz45_1⟩ := fz2_ BK135))
                  have n0_ : Aside0 (((w43.setCell ⟨gb135, 0, none⟩ (.int .u32 ((rd_T39 l0_1 x24_2).f0))).setCell ⟨gb135, 1, none⟩ (.string ((rd_T39 l0_1 x24_2).f1))).heap[gb133]? = some (.cells #[.int .u32 a0_0, .slice (some ad134) l0_1.length c0_1, .slice A0_2 l0_2.length c0_2, .bool a0_3, .int .i64 a0_4] 25 (0, 0))) := ⟨bs_⟩
                  have n1_ : Aside0 (((w43.setCell ⟨gb135, 0, none⟩ (.int .u32 ((rd_T39 l0_1 x24_2).f0))).setCell ⟨gb135, 1, none⟩ (.string ((rd_T39 l0_1 x24_2).f1))).heap[gb135]? = some (.cells #[.int .u32 ((rd_T39 l0_1 x24_2).f0), .string ((rd_T39 l0_1 x24_2).f1)] 39 (0, 0))) := ⟨bs_⟩
                  have n2_ : Aside0 (Below w.heap.size w ((w43.setCell ⟨gb135, 0, none⟩ (.int .u32 ((rd_T39 l0_1 x24_2).f0))).setCell ⟨gb135, 1, none⟩ (.string ((rd_T39 l0_1 x24_2).f1)))) := ⟨bel_⟩
                  (try clear BK133)
                  (try clear BK135)
                  (try clear HB)
                  generalize ((w43.setCell ⟨gb135, 0, none⟩ (.int .u32 ((rd_T39 l0_1 x24_2).f0))).setCell ⟨gb135, 1, none⟩ (.string ((rd_T39 l0_1 x24_2).f1))) = w46 at n0_ n1_ n2_ ⊢
                  have BK133 := n0_
                  have BK135 := n1_
                  have HB := n2_
                  clear n0_ n1_ n2_
                  replace BK133 := Aside0.mk (blk_drew BK133.out)
                  replace BK135 := Aside0.mk (blk_drew BK135.out)
                  replace HB := Aside0.mk (below_drew1 HB.out)
                  refine start_ (n := 32) (S := fun w' => w'.cell? ⟨gb135, 0, none⟩ = some (.int .u32 ((rd_T39 l0_1 x24_2).f0)) ∧ w'.cell? ⟨gb135, 1, none⟩ = some (.string ((rd_T39 l0_1 x24_2).f1)) ∧ w'.cell? ⟨gb133, 0, none⟩ = some (.int .u32 a0_0) ∧ w'.cell? ⟨gb133, 1, none⟩ = some (.slice (some ad134) l0_1.length c0_1) ∧ w'.cell? ⟨gb133, 2, none⟩ = some (.slice A0_2 l0_2.length c0_2) ∧ w'.cell? ⟨gb133, 3, none⟩ = some (.bool a0_3) ∧ w'.cell? ⟨gb133, 4, none⟩ = some (.int .i64 a0_4)) (ds := []) #[false, false, false, false, false, false, false, false, false, false, false, false, false, false, false, false, false, false, false, false, false, false, false, false, false, false, false, false, false, false, false, false] (by kernel_rfl) rfl rfl hc_ (fun hHeld => ?_); refine with_tabW cambiumref03_Check.tab6 cambiumref03_Check.bits6 (fun HT_ HW_ => ?_)
                  generalize w46.drew = w47 at BK133 BK135 HB hHeld ⊢
                  refine pu_ 0 29 ?_
                  refine pu_ 2 31 ?_
                  refine tk7_ 1 30 ?_
                  refine tk7_ 3 32 ?_
                  refine pu_ 4 33 ?_
                  refine pu_ 5 34 ?_
                  refine pu_ 6 35 ?_
                  refine tk7_ 7 36 ?_
                  refine on_ 8 37 (fun K hK => ?_)
                  refine goes_ Tryd.func38 (by kernel_rfl) rfl #[.string ((rd_T39 l0_1 x24_2).f1)] (by rfl) rfl rfl (by (try simp only [List.map_toArray, List.map_cons, List.map_nil]); first | done | rfl | (simp only [List.length_drop, List.length_take]; rfl)) ?_
                  with_reducible refine (cambiumref03_right.calls ((rd_T39 l0_1 x24_2).f1) true _ A20.out).mono ?_
                  rintro e w' ⟨rfl, ⟨nd, rfl⟩⟩
                  refine ⟨_, rfl, ?_⟩
                  refine hK.out _ _ hc_ (fun hHeld => ?_)
                  clear hK K
                  refine nm_ 37 ?_
                  refine pu_ 9 38 ?_
                  refine pu_ 10 39 ?_
                  refine pu_ 11 40 ?_
                  refine pu_ 12 41 ?_
                  refine tk7_ 13 42 ?_
                  refine pu_ 14 43 ?_
                  refine pu_ 15 44 ?_
                  refine pu_ 16 45 ?_
                  refine pu_ 17 46 ?_
                  refine pu_ 18 47 ?_
                  refine pu_ 19 48 ?_
                  refine un_ 20 49 ?_
                  refine un_ 21 50 ?_
                  refine un_ 22 51 ?_
                  refine un_ 23 52 ?_
                  refine un_ 24 53 ?_
                  refine un_ 25 54 ?_
                  refine un_ 26 55 ?_
                  refine un_ 27 56 ?_
                  refine un_ 28 57 ?_
                  refine un_ 29 58 ?_
                  refine pu_ 30 59 ?_
                  refine pu_ 31 60 ?_
                  refine done_ (done_of HT_.out (by kernel_rfl)) ?_
                  try go_wp2
                  go_roundg k2
                  case measure => have := HJ1.out; have := HK2.out; omega
                  case rel => exact ⟨(wrap64 (x24_2 + 1)), (by first | rfl | (simp; done) | (simp [*]; done)), H', ⟨by have := HJ1.out; have := HK2.out; omega⟩, ⟨bk_ BK133⟩, ⟨bel_⟩⟩
                replace c21 := Bool.eq_false_iff.mpr c21
                subst c21
                have H1 : (some 7) = some r := by rw [if_neg (show ¬ (false = true) by decide)] at H; exact H
                clear H
                have H := H1
                clear H1
                obtain rfl := Option.some.inj H
                have p134 : 0 ≤ (x24_2 : Int) := of_decide_eq_true (by first | (with_reducible assumption) | assumption)
                have q134 : x24_2 < (l0_1.length : Int) := of_decide_eq_true (by first | (with_reducible assumption) | assumption)
                obtain ⟨ad134, e134, hx134_0, hx134_1⟩ := at_T39 HR0_1.out x24_2 p134 q134
                cases e134
                replace hx134_0 := (HB.out.cell (World.block_lt_of_cell? w _ hx134_0)).trans hx134_0
                replace hx134_1 := (HB.out.cell (World.block_lt_of_cell? w _ hx134_1)).trans hx134_1
                replace p134 := eq_true p134
                replace q134 := eq_true q134
                try go_wp2_with (first | ((with_reducible refine gate_dst (N := 4) rfl ?_); (try (refine gate_guard (by rfl) ?_; dsimp only)); refine bx_ (N := 4) (cs := #[.int .u32 0, .string (⟨#[]⟩ : ByteArray)]) (t := 39) ?_; intro gb135 hg w48 hbox hb; have BK135 := Aside0.mk (hbox); have GW135 := ge_ hg; have GE135 := ge_ hg; have NB133_135 := nl_ BK133 hg; have NB135_133 := ng_ BK133 hg; replace BK133 := kb_ BK133 hb; replace HB := hb_ hb; clear hb hbox hg; have hnb49 := NB135_133.out; have hnc49 := NB133_135.out; obtain ⟨hcz50_0, hcz50_1⟩ := cl2_ BK135; obtain ⟨hfz50_0, hfz50_1⟩ := fz2_ BK135))
                have n0_ : Aside0 (((w48.setCell ⟨gb135, 0, none⟩ (.int .u32 ((rd_T39 l0_1 x24_2).f0))).setCell ⟨gb135, 1, none⟩ (.string ((rd_T39 l0_1 x24_2).f1))).heap[gb133]? = some (.cells #[.int .u32 a0_0, .slice (some ad134) l0_1.length c0_1, .slice A0_2 l0_2.length c0_2, .bool a0_3, .int .i64 a0_4] 25 (0, 0))) := ⟨bs_⟩
                have n1_ : Aside0 (((w48.setCell ⟨gb135, 0, none⟩ (.int .u32 ((rd_T39 l0_1 x24_2).f0))).setCell ⟨gb135, 1, none⟩ (.string ((rd_T39 l0_1 x24_2).f1))).heap[gb135]? = some (.cells #[.int .u32 ((rd_T39 l0_1 x24_2).f0), .string ((rd_T39 l0_1 x24_2).f1)] 39 (0, 0))) := ⟨bs_⟩
                have n2_ : Aside0 (Below w.heap.size w ((w48.setCell ⟨gb135, 0, none⟩ (.int .u32 ((rd_T39 l0_1 x24_2).f0))).setCell ⟨gb135, 1, none⟩ (.string ((rd_T39 l0_1 x24_2).f1)))) := ⟨bel_⟩
                (try clear BK133)
                (try clear BK135)
                (try clear HB)
                generalize ((w48.setCell ⟨gb135, 0, none⟩ (.int .u32 ((rd_T39 l0_1 x24_2).f0))).setCell ⟨gb135, 1, none⟩ (.string ((rd_T39 l0_1 x24_2).f1))) = w51 at n0_ n1_ n2_ ⊢
                have BK133 := n0_
                have BK135 := n1_
                have HB := n2_
                clear n0_ n1_ n2_
                replace BK133 := Aside0.mk (blk_drew BK133.out)
                replace BK135 := Aside0.mk (blk_drew BK135.out)
                replace HB := Aside0.mk (below_drew1 HB.out)
                refine start_ (n := 32) (S := fun w' => w'.cell? ⟨gb135, 0, none⟩ = some (.int .u32 ((rd_T39 l0_1 x24_2).f0)) ∧ w'.cell? ⟨gb135, 1, none⟩ = some (.string ((rd_T39 l0_1 x24_2).f1)) ∧ w'.cell? ⟨gb133, 0, none⟩ = some (.int .u32 a0_0) ∧ w'.cell? ⟨gb133, 1, none⟩ = some (.slice (some ad134) l0_1.length c0_1) ∧ w'.cell? ⟨gb133, 2, none⟩ = some (.slice A0_2 l0_2.length c0_2) ∧ w'.cell? ⟨gb133, 3, none⟩ = some (.bool a0_3) ∧ w'.cell? ⟨gb133, 4, none⟩ = some (.int .i64 a0_4)) (ds := []) #[false, false, false, false, false, false, false, false, false, false, false, false, false, false, false, false, false, false, false, false, false, false, false, false, false, false, false, false, false, false, false, false] (by kernel_rfl) rfl rfl hc_ (fun hHeld => ?_); refine with_tabW cambiumref03_Check.tab6 cambiumref03_Check.bits6 (fun HT_ HW_ => ?_)
                generalize w51.drew = w52 at BK133 BK135 HB hHeld ⊢
                refine pu_ 0 29 ?_
                refine pu_ 2 31 ?_
                refine tk7_ 1 30 ?_
                refine tk7_ 3 32 ?_
                refine pu_ 4 33 ?_
                refine pu_ 5 34 ?_
                refine pu_ 6 35 ?_
                refine tk7_ 7 36 ?_
                refine on_ 8 37 (fun K hK => ?_)
                refine goes_ Tryd.func38 (by kernel_rfl) rfl #[.string ((rd_T39 l0_1 x24_2).f1)] (by rfl) rfl rfl (by (try simp only [List.map_toArray, List.map_cons, List.map_nil]); first | done | rfl | (simp only [List.length_drop, List.length_take]; rfl)) ?_
                with_reducible refine (cambiumref03_right.calls ((rd_T39 l0_1 x24_2).f1) false _ A20.out).mono ?_
                rintro e w' ⟨rfl, ⟨nd, rfl⟩⟩
                refine ⟨_, rfl, ?_⟩
                refine hK.out _ _ hc_ (fun hHeld => ?_)
                clear hK K
                refine nm_ 37 ?_
                refine pu_ 9 38 ?_
                refine pu_ 10 39 ?_
                refine pu_ 11 40 ?_
                refine un_ 12 41 ?_
                refine un_ 13 42 ?_
                refine un_ 14 43 ?_
                refine pu_ 15 44 ?_
                refine pu_ 16 45 ?_
                refine un_ 17 46 ?_
                refine un_ 18 47 ?_
                refine un_ 19 48 ?_
                refine un_ 20 49 ?_
                refine un_ 21 50 ?_
                refine un_ 22 51 ?_
                refine un_ 23 52 ?_
                refine un_ 24 53 ?_
                refine un_ 25 54 ?_
                refine un_ 26 55 ?_
                refine un_ 27 56 ?_
                refine un_ 28 57 ?_
                refine un_ 29 58 ?_
                refine un_ 30 59 ?_
                refine pu_ 31 60 ?_
                refine done_ (done_of HT_.out (by kernel_rfl)) ?_
                try go_wp2
                go_ret
                exact ⟨by first | rfl | (simp [errW_none, errW_some] <;> rfl) | (simp [*, errW_none, errW_some] <;> rfl), bel_⟩
              rw [if_neg c13] at H
              exact absurd H (by simp)
            rw [if_neg c12] at H
            exact absurd H (by simp)
          rw [if_neg c11] at H
          have c11b0 : decide (x24_2 < (l0_1.length : Int)) = false := decide_eq_false c11
          clear c11
          have H' := Aside0.mk H
          clear H
          obtain ⟨hcz53_0, hcz53_1, hcz53_2, hcz53_3, hcz53_4⟩ := cl5_ BK133
          obtain ⟨hfz53_0, hfz53_1, hfz53_2, hfz53_3, hfz53_4⟩ := fz5_ BK133
          go_wp2
          go_loopg [65] k2 (fun kq v65 w' => ∃ (x65_3 : Int), v65 = .int .i64 x65_3 ∧ Aside0 (cambiumref03_Check.l1 kq l0_2 (l0_2.length : Int) x65_3 a0_0 l0_1 l0_2 a0_3 a0_4 = some r) ∧ Aside0 (kq ≤ k2) ∧ Aside0 (w'.heap[gb133]? = some (.cells #[.int .u32 a0_0, (.slice A0_1 l0_1.length c0_1), (.slice A0_2 l0_2.length c0_2), .bool a0_3, .int .i64 a0_4] 25 (0, 0))) ∧ Aside0 (Below w.heap.size w w'))
          case atStart => exact ⟨(0), (by first | rfl | (simp; done) | (simp [*]; done)), H', ⟨Nat.le_refl _⟩, ⟨bk_ BK133⟩, ⟨bel_⟩⟩
          case round =>
            clear H'
            try clear c1
            try clear p1
            try clear q1
            try clear hx1
            try clear c2
            try clear p2
            try clear c3
            try clear c4
            try clear p6
            try clear c11
            try clear c11b0
            try clear c12
            try clear c13
            try clear p13
            try clear q13
            try clear hx13
            try clear c21
            try clear c28
            try clear c28b0
            try clear c30
            try clear c31
            try clear c38
            try clear c44
            try clear c49
            try clear hcz45_0
            try clear hcz45_1
            try clear hcz50_0
            try clear hcz50_1
            try clear hcz53_0
            try clear hcz53_1
            try clear hcz53_2
            try clear hcz53_3
            try clear hcz53_4
            try clear hfz45_0
            try clear hfz45_1
            try clear hfz50_0
            try clear hfz50_1
            try clear hfz53_0
            try clear hfz53_1
            try clear hfz53_2
            try clear hfz53_3
            try clear hfz53_4
            try clear hx134_0
            try clear hx134_1
            try clear p134
            try clear q134
            obtain ⟨x65_3, rfl, HA, HK3, BK133, HB⟩ := hrel
            cases gk with
            | zero => exact absurd HA.out (by simp [cambiumref03_Check.l1])
            | succ k3 =>
              have H := HA.out
              clear HA
              simp only [cambiumref03_Check.l1] at H
              by_cases c54 : x65_3 < (l0_2.length : Int)
              · rw [if_pos c54] at H
                have c54b0 : decide (x65_3 < (l0_2.length : Int)) = true := decide_eq_true c54
                clear c54
                by_cases c55 : 0 ≤ x65_3
                · rw [if_pos c55] at H
                  have c55b0 : decide (0 ≤ x65_3) = true := decide_eq_true c55
                  clear c55
                  by_cases c56 : x65_3 < (l0_2.length : Int)
                  · rw [if_pos c56] at H
                    have c56b0 : decide (x65_3 < (l0_2.length : Int)) = true := decide_eq_true c56
                    clear c56
                    by_cases c57 : ((rd_T39 l0_2 x65_3).f0) ≥ a0_0
                    · rw [if_pos c57] at H
                      have c57b0 : decide (a0_0 ≤ ((rd_T39 l0_2 x65_3).f0)) = true := decide_eq_true c57
                      clear c57
                      obtain rfl := Option.some.inj H
                      have p138 : 0 ≤ (x65_3 : Int) := of_decide_eq_true (by first | (with_reducible assumption) | assumption)
                      have q138 : x65_3 < (l0_2.length : Int) := of_decide_eq_true (by first | (with_reducible assumption) | assumption)
                      obtain ⟨ad138, e138, hx138_0, hx138_1⟩ := at_T39 HR0_2.out x65_3 p138 q138
                      cases e138
                      replace hx138_0 := (HB.out.cell (World.block_lt_of_cell? w _ hx138_0)).trans hx138_0
                      replace hx138_1 := (HB.out.cell (World.block_lt_of_cell? w _ hx138_1)).trans hx138_1
                      replace p138 := eq_true p138
                      replace q138 := eq_true q138
                      go_wp2_with (first | ((with_reducible refine gate_dst (N := 6) rfl ?_); (try (refine gate_guard (by rfl) ?_; dsimp only)); refine bx_ (N := 6) (cs := #[.int .u32 0, .string (⟨#[]⟩ : ByteArray)]) (t := 39) ?_; intro gb139 hg w58 hbox hb; have BK139 := Aside0.mk (hbox); have GW139 := ge_ hg; have GE139 := ge_ hg; have NB133_139 := nl_ BK133 hg; have NB139_133 := ng_ BK133 hg; replace BK133 := kb_ BK133 hb; replace HB := hb_ hb; clear hb hbox hg; have hnb59 := NB139_133.out; have hnc59 := NB133_139.out; obtain ⟨hcz60_0, hcz60_1⟩ := cl2_ BK139; obtain ⟨hfz60_0, hfz60_1⟩ := fz2_ BK139; obtain ⟨hcz61_0, hcz61_1, hcz61_2, hcz61_3, hcz61_4⟩ := cl5_ BK133; obtain ⟨hfz61_0, hfz61_1, hfz61_2, hfz61_3, hfz61_4⟩ := fz5_ BK133))
                      go_ret
                      exact ⟨by first | rfl | (simp [errW_none, errW_some] <;> rfl) | (simp [*, errW_none, errW_some] <;> rfl), bel_⟩
                    rw [if_neg c57] at H
                    have c57b0 : decide (a0_0 ≤ ((rd_T39 l0_2 x65_3).f0)) = false := decide_eq_false c57
                    clear c57
                    replace H := Option.bind_eq_some_iff.mp H
                    obtain ⟨t140, A620, H⟩ := H
                    replace H : (if t140 = true then (cambiumref03_Check.l1 k3 l0_2 (l0_2.length : Int) (wrap64 (x65_3 + 1)) a0_0 l0_1 l0_2 a0_3 a0_4) else (some 7)) = some r := H
                    have A62 := Aside0.mk A620
                    clear A620
                    by_cases c63 : t140 = true
                    · subst c63
                      have H1 : (cambiumref03_Check.l1 k3 l0_2 (l0_2.length : Int) (wrap64 (x65_3 + 1)) a0_0 l0_1 l0_2 a0_3 a0_4) = some r := by rw [if_pos rfl] at H; exact H
                      clear H
                      have H := H1
                      clear H1
                      have H' := Aside0.mk H
                      clear H
                      have p138 : 0 ≤ (x65_3 : Int) := of_decide_eq_true (by first | (with_reducible assumption) | assumption)
                      have q138 : x65_3 < (l0_2.length : Int) := of_decide_eq_true (by first | (with_reducible assumption) | assumption)
                      obtain ⟨ad138, e138, hx138_0, hx138_1⟩ := at_T39 HR0_2.out x65_3 p138 q138
                      cases e138
                      replace hx138_0 := (HB.out.cell (World.block_lt_of_cell? w _ hx138_0)).trans hx138_0
                      replace hx138_1 := (HB.out.cell (World.block_lt_of_cell? w _ hx138_1)).trans hx138_1
                      replace p138 := eq_true p138
                      replace q138 := eq_true q138
                      go_wp2_with (first | ((with_reducible refine gate_dst (N := 6) rfl ?_); (try (refine gate_guard (by rfl) ?_; dsimp only)); refine bx_ (N := 6) (cs := #[.int .u32 0, .string (⟨#[]⟩ : ByteArray)]) (t := 39) ?_; intro gb139 hg w64 hbox hb; have BK139 := Aside0.mk (hbox); have GW139 := ge_ hg; have GE139 := ge_ hg; have NB133_139 := nl_ BK133 hg; have NB139_133 := ng_ BK133 hg; replace BK133 := kb_ BK133 hb; replace HB := hb_ hb; clear hb hbox hg; have hnb65 := NB139_133.out; have hnc65 := NB133_139.out; obtain ⟨hcz66_0, hcz66_1⟩ := cl2_ BK139; obtain ⟨hfz66_0, hfz66_1⟩ := fz2_ BK139; obtain ⟨hcz67_0, hcz67_1, hcz67_2, hcz67_3, hcz67_4⟩ := cl5_ BK133; obtain ⟨hfz67_0, hfz67_1, hfz67_2, hfz67_3, hfz67_4⟩ := fz5_ BK133) | (go_at_call 38; (with_reducible refine (cambiumref03_right.calls ((rd_T39 l0_2 x65_3).f1) true _ A62.out).mono ?_); rintro e w' ⟨rfl, ⟨nd, rfl⟩⟩))
                      go_roundg k3
                      case measure => have := HJ1.out; have := HK2.out; have := HK3.out; omega
                      case rel => exact ⟨(wrap64 (x65_3 + 1)), (by first | rfl | (simp; done) | (simp [*]; done)), H', ⟨by have := HJ1.out; have := HK2.out; have := HK3.out; omega⟩, ⟨bs_⟩, ⟨bel_⟩⟩
                    replace c63 := Bool.eq_false_iff.mpr c63
                    subst c63
                    have H1 : (some 7) = some r := by rw [if_neg (show ¬ (false = true) by decide)] at H; exact H
                    clear H
                    have H := H1
                    clear H1
                    obtain rfl := Option.some.inj H
                    have p138 : 0 ≤ (x65_3 : Int) := of_decide_eq_true (by first | (with_reducible assumption) | assumption)
                    have q138 : x65_3 < (l0_2.length : Int) := of_decide_eq_true (by first | (with_reducible assumption) | assumption)
                    obtain ⟨ad138, e138, hx138_0, hx138_1⟩ := at_T39 HR0_2.out x65_3 p138 q138
                    cases e138
                    replace hx138_0 := (HB.out.cell (World.block_lt_of_cell? w _ hx138_0)).trans hx138_0
                    replace hx138_1 := (HB.out.cell (World.block_lt_of_cell? w _ hx138_1)).trans hx138_1
                    replace p138 := eq_true p138
                    replace q138 := eq_true q138
                    go_wp2_with (first | ((with_reducible refine gate_dst (N := 6) rfl ?_); (try (refine gate_guard (by rfl) ?_; dsimp only)); refine bx_ (N := 6) (cs := #[.int .u32 0, .string (⟨#[]⟩ : ByteArray)]) (t := 39) ?_; intro gb139 hg w68 hbox hb; have BK139 := Aside0.mk (hbox); have GW139 := ge_ hg; have GE139 := ge_ hg; have NB133_139 := nl_ BK133 hg; have NB139_133 := ng_ BK133 hg; replace BK133 := kb_ BK133 hb; replace HB := hb_ hb; clear hb hbox hg; have hnb69 := NB139_133.out; have hnc69 := NB133_139.out; obtain ⟨hcz70_0, hcz70_1⟩ := cl2_ BK139; obtain ⟨hfz70_0, hfz70_1⟩ := fz2_ BK139; obtain ⟨hcz71_0, hcz71_1, hcz71_2, hcz71_3, hcz71_4⟩ := cl5_ BK133; obtain ⟨hfz71_0, hfz71_1, hfz71_2, hfz71_3, hfz71_4⟩ := fz5_ BK133) | (go_at_call 38; (with_reducible refine (cambiumref03_right.calls ((rd_T39 l0_2 x65_3).f1) false _ A62.out).mono ?_); rintro e w' ⟨rfl, ⟨nd, rfl⟩⟩))
                    go_ret
                    exact ⟨by first | rfl | (simp [errW_none, errW_some] <;> rfl) | (simp [*, errW_none, errW_some] <;> rfl), bel_⟩
                  rw [if_neg c56] at H
                  exact absurd H (by simp)
                rw [if_neg c55] at H
                exact absurd H (by simp)
              rw [if_neg c54] at H
              have c54b0 : decide (x65_3 < (l0_2.length : Int)) = false := decide_eq_false c54
              clear c54
              obtain rfl := Option.some.inj H
              go_wp2
              go_ret
              exact ⟨by first | rfl | (simp [errW_none, errW_some] <;> rfl) | (simp [*, errW_none, errW_some] <;> rfl), bel_⟩

end Go.Proofs.YtcphflfjhkeooaaDoor.Z
end

section
-- Printed by a program of this session (mp.py) out of the translation.
namespace Go.Proofs.YtcphflfjhkeooaaDoor.Z
open Go.RowKit Go.Proofs.YtcphflfjhkeooaaDoorW.PrintWords Go.Proofs.YtcphflfjhkeooaaDoorW.PrintLast Go.Proofs.YtcphflfjhkeooaaDoorW.PrintMore
attribute [local go_sem] max2_int min2_int max_two min_two max_three min_three max_four min_four   -- for this text's walks alone
set_option linter.unusedVariables false
set_option linter.unusedSimpArgs false

/-! ### cambiumref03_put: function 32 -/
mutual
def cambiumref03_put.l0 : Nat → List (S39) → Bool → List (S39) → Int → Int → Int → ByteArray → Option ((List (S39)))
  | 0, _, _, _, _, _, _, _ => none
  | k + 1, x5, x6, x12, x13, x14, x166000, x166001 => if x14 < x13 then (if 0 ≤ x14 then (if x14 < (x12.length : Int) then (if x6 = true then (cambiumref03_put.j1 k x5 x6 x12 x13 x14 false x166000 x166001 ((rd_T39 x12 x14).f0) ((rd_T39 x12 x14).f1)) else (cambiumref03_put.j1 k x5 x6 x12 x13 x14 (decide (((rd_T39 x12 x14).f0) ≥ x166000)) x166000 x166001 ((rd_T39 x12 x14).f0) ((rd_T39 x12 x14).f1))) else (none)) else (none)) else (if x6 = true then (some x5) else (if x5.length < 5864062014805 then (some (x5 ++ [(⟨x166000, x166001⟩ : S39)])) else (none)))
def cambiumref03_put.j1 : Nat → List (S39) → Bool → List (S39) → Int → Int → Bool → Int → ByteArray → Int → ByteArray → Option ((List (S39)))
  | 0, _, _, _, _, _, _, _, _, _, _ => none
  | k + 1, x5, x6, x12, x13, x14, x26, x166000, x166001, x171000, x171001 => if x26 = true then (if x5.length < 5864062014805 then ((some (x5 ++ [(⟨x166000, x166001⟩ : S39)] : List (S39))).bind fun y171 => (if x171000 = x166000 then (cambiumref03_put.l0 k y171 true x12 x13 (wrap64 (x14 + 1)) x166000 x166001) else (if y171.length < 5864062014805 then (cambiumref03_put.l0 k (y171 ++ [(⟨x171000, x171001⟩ : S39)]) true x12 x13 (wrap64 (x14 + 1)) x166000 x166001) else (none)))) else (none)) else (if x171000 = x166000 then (cambiumref03_put.l0 k x5 x6 x12 x13 (wrap64 (x14 + 1)) x166000 x166001) else (if x5.length < 5864062014805 then (cambiumref03_put.l0 k (x5 ++ [(⟨x171000, x171001⟩ : S39)]) x6 x12 x13 (wrap64 (x14 + 1)) x166000 x166001) else (none)))
end
def cambiumref03_put.f (k : Nat) (l0 : List (S39)) (a1_0 : Int) (a1_1 : ByteArray) : Option ((List (S39))) := cambiumref03_put.l0 k ([] : List (S39)) (a1_1.toList == ([] : List UInt8)) l0 (l0.length : Int) 0 a1_0 a1_1
theorem cambiumref03_put.mono_l : ∀ k, (∀ y0 y1 y2 y3 y4 y5 y6, LeO (cambiumref03_put.l0 k y0 y1 y2 y3 y4 y5 y6) (cambiumref03_put.l0 (k + 1) y0 y1 y2 y3 y4 y5 y6)) ∧ (∀ y0 y1 y2 y3 y4 y5 y6 y7 y8 y9, LeO (cambiumref03_put.j1 k y0 y1 y2 y3 y4 y5 y6 y7 y8 y9) (cambiumref03_put.j1 (k + 1) y0 y1 y2 y3 y4 y5 y6 y7 y8 y9))
  | 0 => ⟨fun _ _ _ _ _ _ _ r h => by simp [cambiumref03_put.l0] at h, fun _ _ _ _ _ _ _ _ _ _ r h => by simp [cambiumref03_put.j1] at h⟩
  | k + 1 => by
    obtain ⟨ih0, ih1⟩ := cambiumref03_put.mono_l k
    refine ⟨?_, ?_⟩
    · intro y0 y1 y2 y3 y4 y5 y6
      unfold cambiumref03_put.l0
      repeat' first
      | (with_reducible exact ih0 _ _ _ _ _ _ _)
      | (with_reducible exact ih1 _ _ _ _ _ _ _ _ _ _)
      | (with_reducible exact LeO.refl _)
      | (with_reducible exact LeO.none _)
      | (with_reducible refine LeO.ite ?_ ?_)
      | (with_reducible refine LeO.bind ?_ (fun _ => ?_))
      | exact ih0 _ _ _ _ _ _ _
      | exact ih1 _ _ _ _ _ _ _ _ _ _
      | exact LeO.none _
      | refine LeO.ite ?_ ?_
      | refine LeO.bind ?_ (fun _ => ?_)
    intro y0 y1 y2 y3 y4 y5 y6 y7 y8 y9
    unfold cambiumref03_put.j1
    repeat' first
    | (with_reducible exact ih0 _ _ _ _ _ _ _)
    | (with_reducible exact ih1 _ _ _ _ _ _ _ _ _ _)
    | (with_reducible exact LeO.refl _)
    | (with_reducible exact LeO.none _)
    | (with_reducible refine LeO.ite ?_ ?_)
    | (with_reducible refine LeO.bind ?_ (fun _ => ?_))
    | exact ih0 _ _ _ _ _ _ _
    | exact ih1 _ _ _ _ _ _ _ _ _ _
    | exact LeO.none _
    | refine LeO.ite ?_ ?_
    | refine LeO.bind ?_ (fun _ => ?_)
theorem cambiumref03_put.mono : ∀ a0 a1 a2 k, LeO (cambiumref03_put.f k a0 a1 a2) (cambiumref03_put.f (k + 1) a0 a1 a2) := by
  intro a0 a1 a2 k
  obtain ⟨ih0, ih1⟩ := cambiumref03_put.mono_l k
  unfold cambiumref03_put.f
  repeat' first
      | (with_reducible exact ih0 _ _ _ _ _ _ _)
      | (with_reducible exact ih1 _ _ _ _ _ _ _ _ _ _)
      | (with_reducible exact LeO.refl _)
      | (with_reducible exact LeO.none _)
      | (with_reducible refine LeO.ite ?_ ?_)
      | (with_reducible refine LeO.bind ?_ (fun _ => ?_))
      | exact ih0 _ _ _ _ _ _ _
      | exact ih1 _ _ _ _ _ _ _ _ _ _
      | exact LeO.none _
      | refine LeO.ite ?_ ?_
      | refine LeO.bind ?_ (fun _ => ?_)
set_option maxHeartbeats 8000000 in
set_option maxRecDepth 100000 in
theorem cambiumref03_put.calls (k : Nat) (A0 : Option Addr) (c0 : Nat) (l0 : List (S39)) (a1_0 : Int) (a1_1 : ByteArray) (r : List (S39)) (w : World) (hr0 : Kd.C k39 w A0 l0.length l0) (hc0 : l0.length ≤ c0) (h : cambiumref03_put.f k l0 a1_0 a1_1 = some r) :
    Calls Tryd.prog 32 #[.slice A0 l0.length c0, .agg #[.int .u32 a1_0, .string a1_1]] w fun e w' => ∃ v0_ : Value, e = .returned (v0_) ∧ Kd.R k39 39 w' w.heap.size (fun _ => True) v0_ r ∧ Below w.heap.size w w' := by
  have hu39 := Tryd.underlying39
  have HR0 := Aside0.mk hr0
  have HC0 := Aside0.mk hc0
  clear hr0 hc0
  have HB := Aside0.mk (Below.refl w.heap.size w)
  have H : (cambiumref03_put.l0 k ([] : List (S39)) (a1_1.toList == ([] : List UInt8)) l0 (l0.length : Int) 0 a1_0 a1_1) = some r := h
  clear h
  have H' := Aside0.mk H
  clear H
  go_enter Tryd.func32, Tryd.ntmps32
  go_wp2_with (first | ((with_reducible refine gate_dst (N := 3) rfl ?_); refine bx_ (N := 3) (cs := #[.int .u32 a1_0, .string a1_1]) (t := 39) ?_; intro gb165 hg w3 hbox hb; have BK165 := Aside0.mk (hbox); have GW165 := ge_ hg; have GE165 := ge_ hg; replace HB := hb_ hb; clear hb hbox hg; obtain ⟨hcz4_0, hcz4_1⟩ := cl2_ BK165; obtain ⟨hfz4_0, hfz4_1⟩ := fz2_ BK165))
  go_loopg [5, 6, 14] k (fun kq v5 v6 v14 w' => ∃ (x5_1 : List (S39)) (x6_1 : Bool) (x14_1 : Int), v6 = .bool x6_1 ∧ v14 = .int .i64 x14_1 ∧ Aside0 (cambiumref03_put.l0 kq x5_1 x6_1 l0 (l0.length : Int) x14_1 a1_0 a1_1 = some r) ∧ Aside0 (kq ≤ k) ∧ Aside0 (Kd.R k39 39 w' w.heap.size (fun k_ => k_ ≠ gb165) v5 x5_1) ∧ Aside0 (w'.heap[gb165]? = some (.cells #[.int .u32 a1_0, .string a1_1] 39 (0, 0))) ∧ Aside0 (Below w.heap.size w w'))
  case atStart => exact ⟨(([] : List (S39))), ((a1_1.toList == ([] : List UInt8))), (0), (by first | rfl | (simp; done) | (simp [*]; done)), (by first | rfl | (simp; done) | (simp [*]; done)), H', ⟨Nat.le_refl _⟩, ⟨by first | exact Kd.R_nil _ _ _ _ _ | exact Kd.N_nil _ _ _ _ _ | exact Kd.V_nil _ _ _ _ _ | exact Kd.Q_nil _ _ _ _ _ | exact Kd.S_nil _ _ _ _ _⟩, ⟨bk_ BK165⟩, ⟨bel_⟩⟩
  case round =>
    clear H'
    try clear p2
    try clear c3
    try clear hcz4_0
    try clear hcz4_1
    try clear hfz4_0
    try clear hfz4_1
    obtain ⟨x5_1, x6_1, x14_1, rfl, rfl, HA, HK1, HO_5, BK165, HB⟩ := hrel
    cases gk with
    | zero => exact absurd HA.out (by simp [cambiumref03_put.l0])
    | succ k1 =>
      have H := HA.out
      clear HA
      simp only [cambiumref03_put.l0] at H
      by_cases c5 : x14_1 < (l0.length : Int)
      · rw [if_pos c5] at H
        have c5b0 : decide (x14_1 < (l0.length : Int)) = true := decide_eq_true c5
        clear c5
        by_cases c6 : 0 ≤ x14_1
        · rw [if_pos c6] at H
          have c6b0 : decide (0 ≤ x14_1) = true := decide_eq_true c6
          clear c6
          by_cases c7 : x14_1 < (l0.length : Int)
          · rw [if_pos c7] at H
            have c7b0 : decide (x14_1 < (l0.length : Int)) = true := decide_eq_true c7
            clear c7
            have HC8 := Aside0.mk H
            clear H
            have p169 : 0 ≤ (x14_1 : Int) := of_decide_eq_true (by first | (with_reducible assumption) | assumption)
            have q169 : x14_1 < (l0.length : Int) := of_decide_eq_true (by first | (with_reducible assumption) | assumption)
            obtain ⟨ad169, e169, hx169_0, hx169_1⟩ := at_T39 HR0.out x14_1 p169 q169
            cases e169
            replace hx169_0 := (HB.out.cell (World.block_lt_of_cell? w _ hx169_0)).trans hx169_0
            replace hx169_1 := (HB.out.cell (World.block_lt_of_cell? w _ hx169_1)).trans hx169_1
            replace p169 := eq_true p169
            replace q169 := eq_true q169
            go_upto_region 6 with (first | ((with_reducible refine gate_dst (N := 8) rfl ?_); refine bx_ (N := 8) (cs := #[.int .u32 0, .string (⟨#[]⟩ : ByteArray)]) (t := 39) ?_; intro gb170 hg w9 hbox hb; have n0_ := Aside0.mk (Kd.R_below (Kd.R_elderB (ra_ HO_5) gb170 (Nat.le_of_eq hg.symm)) hb); have n1_ := Aside0.mk (blk_below (bk_ BK165) hb); have n2_ := Aside0.mk (below_step bel_ hb); have n3_ := Aside0.mk (hbox); have n4_ := Aside0.mk ((by rw [hg]; exact (below_size bel_) : w.heap.size ≤ gb170)); have n5_ := Aside0.mk ((by rw [hg]; exact (below_size bel_) : w.heap.size ≤ gb170)); have n6_ := Aside0.mk ((by rw [hg]; exact Nat.ne_of_lt (blk_lt (bk_ BK165)) : gb165 ≠ gb170)); have n7_ := Aside0.mk ((by rw [hg]; exact Nat.ne_of_gt (blk_lt (bk_ BK165)) : gb170 ≠ gb165)); clear HO_5; clear BK165; clear HB; have HO_5 := n0_; have BK165 := n1_; have HB := n2_; have BK170 := n3_; have GW170 := n4_; have GE170 := n5_; have NB165_170 := n6_; have NB170_165 := n7_; clear n0_ n1_ n2_ n3_ n4_ n5_ n6_ n7_; clear hb hbox hg; have hnb10 := NB170_165.out; have hnc10 := NB165_170.out; have hcz11_0 : w9.cell? ⟨gb170, 0, none⟩ = some (.int .u32 0) := (blk_cell BK170.out 0).trans rfl; have hcz11_1 : w9.cell? ⟨gb170, 1, none⟩ = some (.string (⟨#[]⟩ : ByteArray)) := (blk_cell BK170.out 1).trans rfl; have hfz11_0 := blk_frozen BK170.out 0; have hfz11_1 := blk_frozen BK170.out 1))
            (try simp only [Act.put, List.setIfInBounds_toArray, List.set_cons_zero, List.set_cons_succ])
            go_cut [26] (fun v26 wc => ∃ (kq : Nat) (x26_7 : Bool), v26 = .bool x26_7 ∧ Aside0 (cambiumref03_put.j1 kq x5_1 x6_1 l0 (l0.length : Int) x14_1 x26_7 a1_0 a1_1 ((rd_T39 l0 x14_1).f0) ((rd_T39 l0 x14_1).f1) = some r) ∧ Aside0 (kq ≤ k1) ∧ Aside0 (Kd.R k39 39 wc w.heap.size (fun k_ => k_ ≠ gb165 ∧ k_ ≠ gb170) u5 x5_1) ∧ Aside0 (wc.heap[gb165]? = some (.cells #[.int .u32 a1_0, .string a1_1] 39 (0, 0))) ∧ Aside0 (wc.heap[gb170]? = some (.cells #[.int .u32 ((rd_T39 l0 x14_1).f0), .string ((rd_T39 l0 x14_1).f1)] 39 (0, 0))) ∧ Aside0 (Below w.heap.size w wc))
            case first =>
              have H := HC8.out
              clear HC8
              by_cases c12 : x6_1 = true
              · subst c12
                have H1 : (cambiumref03_put.j1 k1 x5_1 true l0 (l0.length : Int) x14_1 false a1_0 a1_1 ((rd_T39 l0 x14_1).f0) ((rd_T39 l0 x14_1).f1)) = some r := by rw [if_pos rfl] at H; exact H
                clear H
                have H := H1
                clear H1
                have H' := Aside0.mk H
                clear H
                go_wp2
                go_meet
                case rel => exact ⟨_, (false), (by first | rfl | (simp; done) | (simp [*]; done)), H', ⟨by have := HK1.out; first | omega | exact Nat.le_refl _⟩, ⟨by (with_reducible repeat (first | apply Kd.R_alloc | apply Kd.R_drewN | apply Kd.R_drew)); exact Kd.R_mono (Kd.R_far (p := ⟨gb170, 1, none⟩) (Kd.R_far (p := ⟨gb170, 0, none⟩) (Kd.R_mono HO_5.out (fun k_ hk => (⟨hk, hk.2⟩ : _ ∧ k_ ≠ gb170))) (fun _ hk => hk.2) (.int .u32 ((rd_T39 l0 x14_1).f0))) (fun _ hk => hk.2) (.string ((rd_T39 l0 x14_1).f1))) (fun _ hk => ⟨hk.1.1, hk.1.2⟩)⟩, ⟨bs_⟩, ⟨bs_⟩, ⟨bel_⟩⟩
              replace c12 := Bool.eq_false_iff.mpr c12
              subst c12
              have H1 : (cambiumref03_put.j1 k1 x5_1 false l0 (l0.length : Int) x14_1 (decide (((rd_T39 l0 x14_1).f0) ≥ a1_0)) a1_0 a1_1 ((rd_T39 l0 x14_1).f0) ((rd_T39 l0 x14_1).f1)) = some r := by rw [if_neg (show ¬ (false = true) by decide)] at H; exact H
              clear H
              have H := H1
              clear H1
              have H' := Aside0.mk H
              clear H
              have hnb13 := NB170_165.out
              have hnc13 := NB165_170.out
              obtain ⟨hcz14_0, hcz14_1⟩ := cl2_ BK170
              obtain ⟨hfz14_0, hfz14_1⟩ := fz2_ BK170
              obtain ⟨hcz15_0, hcz15_1⟩ := cl2_ BK165
              obtain ⟨hfz15_0, hfz15_1⟩ := fz2_ BK165
              go_wp2
              go_meet
              case rel => exact ⟨_, (decide (((rd_T39 l0 x14_1).f0) ≥ a1_0)), (by first | rfl | (simp; done) | (simp [*]; done)), H', ⟨by have := HK1.out; first | omega | exact Nat.le_refl _⟩, ⟨by (with_reducible repeat (first | apply Kd.R_alloc | apply Kd.R_drewN | apply Kd.R_drew)); exact Kd.R_mono (Kd.R_far (p := ⟨gb170, 1, none⟩) (Kd.R_far (p := ⟨gb170, 0, none⟩) (Kd.R_mono HO_5.out (fun k_ hk => (⟨hk, hk.2⟩ : _ ∧ k_ ≠ gb170))) (fun _ hk => hk.2) (.int .u32 ((rd_T39 l0 x14_1).f0))) (fun _ hk => hk.2) (.string ((rd_T39 l0 x14_1).f1))) (fun _ hk => ⟨hk.1.1, hk.1.2⟩)⟩, ⟨bs_⟩, ⟨bs_⟩, ⟨bel_⟩⟩
            case rest =>
              clear HC8
              try clear c1
              try clear p1
              try clear q1
              try clear hx1
              try clear p2
              try clear c3
              try clear c5
              try clear c5b0
              try clear c6
              try clear c6b0
              try clear c7
              try clear c7b0
              try clear c10
              try clear c12
              try clear c13
              try clear hcz11_0
              try clear hcz11_1
              try clear hcz14_0
              try clear hcz14_1
              try clear hcz15_0
              try clear hcz15_1
              try clear hcz4_0
              try clear hcz4_1
              try clear hfz11_0
              try clear hfz11_1
              try clear hfz14_0
              try clear hfz14_1
              try clear hfz15_0
              try clear hfz15_1
              try clear hfz4_0
              try clear hfz4_1
              try clear hx169_0
              try clear hx169_1
              try clear p169
              try clear p2
              try clear q169
              obtain ⟨kq, x26_7, rfl, HA, HJ7, HO_5, BK165, BK170, HB⟩ := hcut
              cases kq with
              | zero => exact absurd HA.out (by simp [cambiumref03_put.j1])
              | succ kj7 =>
                have H := HA.out
                clear HA
                simp only [cambiumref03_put.j1] at H
                by_cases c16 : x26_7 = true
                · subst c16
                  have H1 : (if x5_1.length < 5864062014805 then ((some (x5_1 ++ [(⟨a1_0, a1_1⟩ : S39)] : List (S39))).bind fun y171 => (if ((rd_T39 l0 x14_1).f0) = a1_0 then (cambiumref03_put.l0 kj7 y171 true l0 (l0.length : Int) (wrap64 (x14_1 + 1)) a1_0 a1_1) else (if y171.length < 5864062014805 then (cambiumref03_put.l0 kj7 (y171 ++ [(⟨((rd_T39 l0 x14_1).f0), ((rd_T39 l0 x14_1).f1)⟩ : S39)]) true l0 (l0.length : Int) (wrap64 (x14_1 + 1)) a1_0 a1_1) else (none)))) else (none)) = some r := by rw [if_pos rfl] at H; exact H
                  clear H
                  have H := H1
                  clear H1
                  by_cases c17 : x5_1.length < 5864062014805
                  · rw [if_pos c17] at H
                    have LMc17 := Aside0.mk c17
                    clear c17
                    obtain ⟨y171, hy171⟩ : ∃ y_ : List (S39), y_ = (x5_1 ++ [(⟨a1_0, a1_1⟩ : S39)]) := ⟨_, rfl⟩
                    replace H : (if ((rd_T39 l0 x14_1).f0) = a1_0 then (cambiumref03_put.l0 kj7 y171 true l0 (l0.length : Int) (wrap64 (x14_1 + 1)) a1_0 a1_1) else (if y171.length < 5864062014805 then (cambiumref03_put.l0 kj7 (y171 ++ [(⟨((rd_T39 l0 x14_1).f0), ((rd_T39 l0 x14_1).f1)⟩ : S39)]) true l0 (l0.length : Int) (wrap64 (x14_1 + 1)) a1_0 a1_1) else (none))) = some r := by first | (rw [hy171]; with_reducible exact H) | (have H2_ := (Option.bind_some _ _).symm.trans H; rw [hy171]; with_reducible exact H2_) | (have H2_ := (Option.bind_some _ _).symm.trans H; with_reducible exact H2_) | with_reducible exact H | (rw [hy171]; exact H) | exact H
                    have Ny171 := Aside0.mk hy171
                    clear hy171
                    by_cases c18 : ((rd_T39 l0 x14_1).f0) = a1_0
                    · rw [if_pos c18] at H
                      have c18b0 : (((rd_T39 l0 x14_1).f0) == a1_0) = true := beq_iff_eq.mpr c18
                      have c18b1 : (((rd_T39 l0 x14_1).f0) != a1_0) = false := bne_eq_false_iff_eq.mpr c18
                      clear c18
                      have H' := Aside0.mk H
                      clear H
                      have hnb19 := NB165_170.out
                      have hnc19 := NB170_165.out
                      obtain ⟨hcz20_0, hcz20_1⟩ := cl2_ BK165
                      obtain ⟨hfz20_0, hfz20_1⟩ := fz2_ BK165
                      go_wp2_with (first | ((with_reducible refine gate_builtin (b := .append) (xs := #[.tmp 27, .tmp 29]) rfl ?_); at_builtin; refine Kd.R_append k39 (w0 := w) w.heap.size rfl (.tmp 27) (.tmp 29) 23 39 (.agg #[(.int .u32 0), (.string ⟨#[]⟩)]) 24 rfl Tryd.underlying23 info39 rfl (by decide) (by omega) u5 x5_1 (⟨a1_0, a1_1⟩ : S39) [.int .u32 a1_0, .string a1_1] (fun k_ => k_ ≠ gb165 ∧ k_ ≠ gb170) (fun _ => False) rfl rfl ?aP (fun _ hk => hk.elim) ?aF ?aO ?aB ?aS ?aL ?_; (case aP => exact k39_mkM _ _ _ (⟨a1_0, a1_1⟩ : S39)); (case aB => exact bel_); (case aF => exact (fun k_ hk => ⟨Kd.freshB (bk_ BK165) k_ hk, Kd.freshB (bk_ BK170) k_ hk⟩)); (case aO => exact (ra_ HO_5)); (case aS => exact (below_size bel_)); (case aL => have := LMc17.out; omega); intro v172 w21 ho hb hg hat; rw [← Ny171.out] at ho; have HO173 := Aside0.mk (ho); replace BK165 := Aside0.mk (blk_grown (bk_ BK165) hg (Kd.R_away HO_5.out (fun _ hk => hk.1))); replace BK170 := Aside0.mk (blk_grown (bk_ BK170) hg (Kd.R_away HO_5.out (fun _ hk => hk.2))); replace HB := Aside0.mk (hb); clear HO_5; clear ho hb hg hat; obtain ⟨hcz22_0, hcz22_1⟩ := cl2_ BK170; obtain ⟨hfz22_0, hfz22_1⟩ := fz2_ BK170; obtain ⟨hcz23_0, hcz23_1⟩ := cl2_ BK165; obtain ⟨hfz23_0, hfz23_1⟩ := fz2_ BK165))
                      go_roundg kj7
                      case measure => have := HK1.out; have := HJ7.out; omega
                      case rel => exact ⟨(y171), (true), (wrap64 (x14_1 + 1)), (by first | rfl | (simp; done) | (simp [*]; done)), (by first | rfl | (simp; done) | (simp [*]; done)), H', ⟨by have := HK1.out; have := HJ7.out; omega⟩, ⟨by (with_reducible repeat (first | apply Kd.R_alloc | apply Kd.R_drewN | apply Kd.R_drew)); exact Kd.R_mono HO173.out (fun _ hk => hk.1)⟩, ⟨bk_ BK165⟩, ⟨bel_⟩⟩
                    rw [if_neg c18] at H
                    have c18b0 : (((rd_T39 l0 x14_1).f0) == a1_0) = false := beq_eq_false_iff_ne.mpr c18
                    have c18b1 : (((rd_T39 l0 x14_1).f0) != a1_0) = true := bne_iff_ne.mpr c18
                    by_cases c24 : y171.length < 5864062014805
                    · rw [if_pos c24] at H
                      have LMc24 := Aside0.mk c24
                      clear c24
                      obtain ⟨y174, hy174⟩ : ∃ y_ : List (S39), y_ = (y171 ++ [(⟨((rd_T39 l0 x14_1).f0), ((rd_T39 l0 x14_1).f1)⟩ : S39)]) := ⟨_, rfl⟩
                      replace H : (cambiumref03_put.l0 kj7 y174 true l0 (l0.length : Int) (wrap64 (x14_1 + 1)) a1_0 a1_1) = some r := by first | (rw [hy174]; with_reducible exact H) | (have H2_ := (Option.bind_some _ _).symm.trans H; rw [hy174]; with_reducible exact H2_) | (have H2_ := (Option.bind_some _ _).symm.trans H; with_reducible exact H2_) | with_reducible exact H | (rw [hy174]; exact H) | exact H
                      have Ny174 := Aside0.mk hy174
                      clear hy174
                      have H' := Aside0.mk H
                      clear H
                      have hnb25 := NB165_170.out
                      have hnc25 := NB170_165.out
                      obtain ⟨hcz26_0, hcz26_1⟩ := cl2_ BK165
                      obtain ⟨hfz26_0, hfz26_1⟩ := fz2_ BK165
                      go_wp2_with (first | ((with_reducible refine gate_builtin (b := .append) (xs := #[.tmp 27, .tmp 29]) rfl ?_); at_builtin; refine Kd.R_append k39 (w0 := w) w.heap.size rfl (.tmp 27) (.tmp 29) 23 39 (.agg #[(.int .u32 0), (.string ⟨#[]⟩)]) 24 rfl Tryd.underlying23 info39 rfl (by decide) (by omega) u5 x5_1 (⟨a1_0, a1_1⟩ : S39) [.int .u32 a1_0, .string a1_1] (fun k_ => k_ ≠ gb165 ∧ k_ ≠ gb170) (fun _ => False) rfl rfl ?aP (fun _ hk => hk.elim) ?aF ?aO ?aB ?aS ?aL ?_; (case aP => exact k39_mkM _ _ _ (⟨a1_0, a1_1⟩ : S39)); (case aB => exact bel_); (case aF => exact (fun k_ hk => ⟨Kd.freshB (bk_ BK165) k_ hk, Kd.freshB (bk_ BK170) k_ hk⟩)); (case aO => exact (ra_ HO_5)); (case aS => exact (below_size bel_)); (case aL => have := LMc17.out; omega); intro v172 w27 ho hb hg hat; rw [← Ny171.out] at ho; have HO173 := Aside0.mk (ho); replace BK165 := Aside0.mk (blk_grown (bk_ BK165) hg (Kd.R_away HO_5.out (fun _ hk => hk.1))); replace BK170 := Aside0.mk (blk_grown (bk_ BK170) hg (Kd.R_away HO_5.out (fun _ hk => hk.2))); replace HB := Aside0.mk (hb); clear HO_5; clear ho hb hg hat; obtain ⟨hcz28_0, hcz28_1⟩ := cl2_ BK170; obtain ⟨hfz28_0, hfz28_1⟩ := fz2_ BK170; obtain ⟨hcz29_0, hcz29_1⟩ := cl2_ BK165; obtain ⟨hfz29_0, hfz29_1⟩ := fz2_ BK165) | ((with_reducible refine gate_builtin (b := .append) (xs := #[.tmp 36, .tmp 38]) rfl ?_); at_builtin; refine Kd.R_append k39 (w0 := w) w.heap.size rfl (.tmp 36) (.tmp 38) 23 39 (.agg #[(.int .u32 0), (.string ⟨#[]⟩)]) 24 rfl Tryd.underlying23 info39 rfl (by decide) (by omega) v172 y171 (⟨((rd_T39 l0 x14_1).f0), ((rd_T39 l0 x14_1).f1)⟩ : S39) [.int .u32 ((rd_T39 l0 x14_1).f0), .string ((rd_T39 l0 x14_1).f1)] (fun k_ => k_ ≠ gb165 ∧ k_ ≠ gb170) (fun _ => False) rfl rfl ?aP (fun _ hk => hk.elim) ?aF ?aO ?aB ?aS ?aL ?_; (case aP => exact k39_mkM _ _ _ (⟨((rd_T39 l0 x14_1).f0), ((rd_T39 l0 x14_1).f1)⟩ : S39)); (case aB => exact bel_); (case aF => exact (fun k_ hk => ⟨Kd.freshB (bk_ BK165) k_ hk, Kd.freshB (bk_ BK170) k_ hk⟩)); (case aO => exact (ra_ HO173)); (case aS => exact (below_size bel_)); (case aL => have := LMc24.out; omega); intro v175 w30 ho hb hg hat; rw [← Ny174.out] at ho; have HO176 := Aside0.mk (ho); replace BK165 := Aside0.mk (blk_grown (bk_ BK165) hg (Kd.R_away HO173.out (fun _ hk => hk.1))); replace BK170 := Aside0.mk (blk_grown (bk_ BK170) hg (Kd.R_away HO173.out (fun _ hk => hk.2))); replace HB := Aside0.mk (hb); clear HO173; clear ho hb hg hat))
                      go_roundg kj7
                      case measure => have := HK1.out; have := HJ7.out; omega
                      case rel => exact ⟨(y174), (true), (wrap64 (x14_1 + 1)), (by first | rfl | (simp; done) | (simp [*]; done)), (by first | rfl | (simp; done) | (simp [*]; done)), H', ⟨by have := HK1.out; have := HJ7.out; omega⟩, ⟨by (with_reducible repeat (first | apply Kd.R_alloc | apply Kd.R_drewN | apply Kd.R_drew)); exact Kd.R_mono HO176.out (fun _ hk => hk.1)⟩, ⟨bk_ BK165⟩, ⟨bel_⟩⟩
                    rw [if_neg c24] at H
                    exact absurd H (by simp)
                  rw [if_neg c17] at H
                  exact absurd H (by simp)
                replace c16 := Bool.eq_false_iff.mpr c16
                subst c16
                have H1 : (if ((rd_T39 l0 x14_1).f0) = a1_0 then (cambiumref03_put.l0 kj7 x5_1 x6_1 l0 (l0.length : Int) (wrap64 (x14_1 + 1)) a1_0 a1_1) else (if x5_1.length < 5864062014805 then (cambiumref03_put.l0 kj7 (x5_1 ++ [(⟨((rd_T39 l0 x14_1).f0), ((rd_T39 l0 x14_1).f1)⟩ : S39)]) x6_1 l0 (l0.length : Int) (wrap64 (x14_1 + 1)) a1_0 a1_1) else (none))) = some r := by rw [if_neg (show ¬ (false = true) by decide)] at H; exact H
                clear H
                have H := H1
                clear H1
                by_cases c31 : ((rd_T39 l0 x14_1).f0) = a1_0
                · rw [if_pos c31] at H
                  have c31b0 : (((rd_T39 l0 x14_1).f0) == a1_0) = true := beq_iff_eq.mpr c31
                  have c31b1 : (((rd_T39 l0 x14_1).f0) != a1_0) = false := bne_eq_false_iff_eq.mpr c31
                  clear c31
                  have H' := Aside0.mk H
                  clear H
                  have hnb32 := NB170_165.out
                  have hnc32 := NB165_170.out
                  obtain ⟨hcz33_0, hcz33_1⟩ := cl2_ BK170
                  obtain ⟨hfz33_0, hfz33_1⟩ := fz2_ BK170
                  obtain ⟨hcz34_0, hcz34_1⟩ := cl2_ BK165
                  obtain ⟨hfz34_0, hfz34_1⟩ := fz2_ BK165
                  go_wp2
                  go_roundg kj7
                  case measure => have := HK1.out; have := HJ7.out; omega
                  case rel => exact ⟨(x5_1), (x6_1), (wrap64 (x14_1 + 1)), (by first | rfl | (simp; done) | (simp [*]; done)), (by first | rfl | (simp; done) | (simp [*]; done)), H', ⟨by have := HK1.out; have := HJ7.out; omega⟩, ⟨by (with_reducible repeat (first | apply Kd.R_alloc | apply Kd.R_drewN | apply Kd.R_drew)); exact Kd.R_mono HO_5.out (fun _ hk => hk.1)⟩, ⟨bk_ BK165⟩, ⟨bel_⟩⟩
                rw [if_neg c31] at H
                have c31b0 : (((rd_T39 l0 x14_1).f0) == a1_0) = false := beq_eq_false_iff_ne.mpr c31
                have c31b1 : (((rd_T39 l0 x14_1).f0) != a1_0) = true := bne_iff_ne.mpr c31
                by_cases c35 : x5_1.length < 5864062014805
                · rw [if_pos c35] at H
                  have LMc35 := Aside0.mk c35
                  clear c35
                  obtain ⟨y177, hy177⟩ : ∃ y_ : List (S39), y_ = (x5_1 ++ [(⟨((rd_T39 l0 x14_1).f0), ((rd_T39 l0 x14_1).f1)⟩ : S39)]) := ⟨_, rfl⟩
                  replace H : (cambiumref03_put.l0 kj7 y177 x6_1 l0 (l0.length : Int) (wrap64 (x14_1 + 1)) a1_0 a1_1) = some r := by first | (rw [hy177]; with_reducible exact H) | (have H2_ := (Option.bind_some _ _).symm.trans H; rw [hy177]; with_reducible exact H2_) | (have H2_ := (Option.bind_some _ _).symm.trans H; with_reducible exact H2_) | with_reducible exact H | (rw [hy177]; exact H) | exact H
                  have Ny177 := Aside0.mk hy177
                  clear hy177
                  have H' := Aside0.mk H
                  clear H
                  have hnb36 := NB170_165.out
                  have hnc36 := NB165_170.out
                  obtain ⟨hcz37_0, hcz37_1⟩ := cl2_ BK170
                  obtain ⟨hfz37_0, hfz37_1⟩ := fz2_ BK170
                  obtain ⟨hcz38_0, hcz38_1⟩ := cl2_ BK165
                  obtain ⟨hfz38_0, hfz38_1⟩ := fz2_ BK165
                  go_wp2_with (first | ((with_reducible refine gate_builtin (b := .append) (xs := #[.tmp 36, .tmp 38]) rfl ?_); at_builtin; refine Kd.R_append k39 (w0 := w) w.heap.size rfl (.tmp 36) (.tmp 38) 23 39 (.agg #[(.int .u32 0), (.string ⟨#[]⟩)]) 24 rfl Tryd.underlying23 info39 rfl (by decide) (by omega) u5 x5_1 (⟨((rd_T39 l0 x14_1).f0), ((rd_T39 l0 x14_1).f1)⟩ : S39) [.int .u32 ((rd_T39 l0 x14_1).f0), .string ((rd_T39 l0 x14_1).f1)] (fun k_ => k_ ≠ gb165 ∧ k_ ≠ gb170) (fun _ => False) rfl rfl ?aP (fun _ hk => hk.elim) ?aF ?aO ?aB ?aS ?aL ?_; (case aP => exact k39_mkM _ _ _ (⟨((rd_T39 l0 x14_1).f0), ((rd_T39 l0 x14_1).f1)⟩ : S39)); (case aB => exact bel_); (case aF => exact (fun k_ hk => ⟨Kd.freshB (bk_ BK165) k_ hk, Kd.freshB (bk_ BK170) k_ hk⟩)); (case aO => exact (ra_ HO_5)); (case aS => exact (below_size bel_)); (case aL => have := LMc35.out; omega); intro v178 w39 ho hb hg hat; rw [← Ny177.out] at ho; have HO179 := Aside0.mk (ho); replace BK165 := Aside0.mk (blk_grown (bk_ BK165) hg (Kd.R_away HO_5.out (fun _ hk => hk.1))); replace BK170 := Aside0.mk (blk_grown (bk_ BK170) hg (Kd.R_away HO_5.out (fun _ hk => hk.2))); replace HB := Aside0.mk (hb); clear HO_5; clear ho hb hg hat))
                  go_roundg kj7
                  case measure => have := HK1.out; have := HJ7.out; omega
                  case rel => exact ⟨(y177), (x6_1), (wrap64 (x14_1 + 1)), (by first | rfl | (simp; done) | (simp [*]; done)), (by first | rfl | (simp; done) | (simp [*]; done)), H', ⟨by have := HK1.out; have := HJ7.out; omega⟩, ⟨by (with_reducible repeat (first | apply Kd.R_alloc | apply Kd.R_drewN | apply Kd.R_drew)); exact Kd.R_mono HO179.out (fun _ hk => hk.1)⟩, ⟨bk_ BK165⟩, ⟨bel_⟩⟩
                rw [if_neg c35] at H
                exact absurd H (by simp)
          rw [if_neg c7] at H
          exact absurd H (by simp)
        rw [if_neg c6] at H
        exact absurd H (by simp)
      rw [if_neg c5] at H
      have c5b0 : decide (x14_1 < (l0.length : Int)) = false := decide_eq_false c5
      clear c5
      by_cases c40 : x6_1 = true
      · subst c40
        have H1 : (some x5_1) = some r := by rw [if_pos rfl] at H; exact H
        clear H
        have H := H1
        clear H1
        obtain rfl := Option.some.inj H
        go_wp2
        go_ret
        exact ⟨_, by first | rfl | (simp [errW_none, errW_some] <;> rfl) | (simp [*, errW_none, errW_some] <;> rfl), by (with_reducible repeat (first | apply Kd.R_alloc | apply Kd.R_drewN | apply Kd.R_drew)); exact Kd.R_mono HO_5.out (fun _ hk => trivial), bel_⟩
      replace c40 := Bool.eq_false_iff.mpr c40
      subst c40
      have H1 : (if x5_1.length < 5864062014805 then (some (x5_1 ++ [(⟨a1_0, a1_1⟩ : S39)])) else (none)) = some r := by rw [if_neg (show ¬ (false = true) by decide)] at H; exact H
      clear H
      have H := H1
      clear H1
      by_cases c41 : x5_1.length < 5864062014805
      · rw [if_pos c41] at H
        have LMc41 := Aside0.mk c41
        clear c41
        obtain ⟨y166, hy166⟩ : ∃ y_ : List (S39), y_ = (x5_1 ++ [(⟨a1_0, a1_1⟩ : S39)]) := ⟨_, rfl⟩
        replace H : (some y166) = some r := by first | (rw [hy166]; with_reducible exact H) | (have H2_ := (Option.bind_some _ _).symm.trans H; rw [hy166]; with_reducible exact H2_) | (have H2_ := (Option.bind_some _ _).symm.trans H; with_reducible exact H2_) | with_reducible exact H | (rw [hy166]; exact H) | exact H
        have Ny166 := Aside0.mk hy166
        clear hy166
        obtain rfl := Option.some.inj H
        obtain ⟨hcz42_0, hcz42_1⟩ := cl2_ BK165
        obtain ⟨hfz42_0, hfz42_1⟩ := fz2_ BK165
        go_wp2_with (first | ((with_reducible refine gate_builtin (b := .append) (xs := #[.tmp 43, .tmp 45]) rfl ?_); at_builtin; refine Kd.R_append k39 (w0 := w) w.heap.size rfl (.tmp 43) (.tmp 45) 23 39 (.agg #[(.int .u32 0), (.string ⟨#[]⟩)]) 24 rfl Tryd.underlying23 info39 rfl (by decide) (by omega) u5 x5_1 (⟨a1_0, a1_1⟩ : S39) [.int .u32 a1_0, .string a1_1] (fun k_ => k_ ≠ gb165) (fun _ => False) rfl rfl ?aP (fun _ hk => hk.elim) ?aF ?aO ?aB ?aS ?aL ?_; (case aP => exact k39_mkM _ _ _ (⟨a1_0, a1_1⟩ : S39)); (case aB => exact bel_); (case aF => exact (fun k_ hk => Kd.freshB (bk_ BK165) k_ hk)); (case aO => exact (ra_ HO_5)); (case aS => exact (below_size bel_)); (case aL => have := LMc41.out; omega); intro v167 w43 ho hb hg hat; rw [← Ny166.out] at ho; have HO168 := Aside0.mk (ho); replace BK165 := Aside0.mk (blk_grown (bk_ BK165) hg (Kd.R_away HO_5.out (fun _ hk => hk))); replace HB := Aside0.mk (hb); clear HO_5; clear ho hb hg hat))
        go_ret
        exact ⟨_, by first | rfl | (simp [errW_none, errW_some] <;> rfl) | (simp [*, errW_none, errW_some] <;> rfl), by (with_reducible repeat (first | apply Kd.R_alloc | apply Kd.R_drewN | apply Kd.R_drew)); exact Kd.R_mono HO168.out (fun _ hk => trivial), bel_⟩
      rw [if_neg c41] at H
      exact absurd H (by simp)

end Go.Proofs.YtcphflfjhkeooaaDoor.Z
end

section
-- Printed by a program of this session (mp.py) out of the translation.
namespace Go.Proofs.YtcphflfjhkeooaaDoor.Z
open Go.RowKit Go.Proofs.YtcphflfjhkeooaaDoorW.PrintWords Go.Proofs.YtcphflfjhkeooaaDoorW.PrintLast Go.Proofs.YtcphflfjhkeooaaDoorW.PrintMore
attribute [local go_sem] max2_int min2_int max_two min_two max_three min_three max_four min_four   -- for this text's walks alone
set_option linter.unusedVariables false
set_option linter.unusedSimpArgs false

/-! ### cambiumref03_Crash: function 25 -/
def cambiumref03_Crash.l0 : Nat → List Bool → List (S39) → Int → Int → Int → List (S39) → List (S39) → Bool → Int → Option (Int × (List (S39)) × (List (S39)) × Bool × Int × Int)
  | 0, _, _, _, _, _, _, _, _, _ => none
  | k + 1, x1, x15, x16, x17, x354000, x354001, x354002, x354003, x354004 => if x17 < x16 then (if 0 ≤ x17 then (if x17 < (x15.length : Int) then (if x17 < (x1.length : Int) then (if rdOf false x1 x17 = true then ((cambiumref03_put.f k x354001 ((rd_T39 x15 x17).f0) ((rd_T39 x15 x17).f1)).bind fun t368 => (cambiumref03_Crash.l0 k x1 x15 x16 (wrap64 (x17 + 1)) x354000 t368 x354002 x354003 x354004)) else (cambiumref03_Crash.l0 k x1 x15 x16 (wrap64 (x17 + 1)) x354000 x354001 x354002 x354003 x354004)) else (cambiumref03_Crash.l0 k x1 x15 x16 (wrap64 (x17 + 1)) x354000 x354001 x354002 x354003 x354004)) else (none)) else (none)) else (some (x354000, x354001, ([] : List (S39)), false, (-1), 0))
def cambiumref03_Crash.f (k : Nat) (a0_0 : Int) (l0_1 : List (S39)) (l0_2 : List (S39)) (a0_3 : Bool) (a0_4 : Int) (l1 : List Bool) : Option (Int × (List (S39)) × (List (S39)) × Bool × Int × Int) := (cambiumref03_Check.f k a0_0 l0_1 l0_2 a0_3 a0_4).bind fun t355 => (if t355 = 0 then ((cambiumref03_Copy.f a0_0 l0_1 l0_2 a0_3 a0_4).bind fun bt356 => (cambiumref03_Crash.l0 k l1 bt356.2.2.1 (bt356.2.2.1.length : Int) 0 bt356.1 bt356.2.1 bt356.2.2.1 bt356.2.2.2.1 bt356.2.2.2.2)) else (some (0, ([] : List (S39)), ([] : List (S39)), false, 0, 7)))
theorem cambiumref03_Crash.mono_l : ∀ k, (∀ y0 y1 y2 y3 y4 y5 y6 y7 y8, LeO (cambiumref03_Crash.l0 k y0 y1 y2 y3 y4 y5 y6 y7 y8) (cambiumref03_Crash.l0 (k + 1) y0 y1 y2 y3 y4 y5 y6 y7 y8))
  | 0 => fun _ _ _ _ _ _ _ _ _ r h => by simp [cambiumref03_Crash.l0] at h
  | k + 1 => by
    have ih0 := cambiumref03_Crash.mono_l k
    · intro y0 y1 y2 y3 y4 y5 y6 y7 y8
      unfold cambiumref03_Crash.l0
      repeat' first
      | (with_reducible exact ih0 _ _ _ _ _ _ _ _ _)
      | (with_reducible exact cambiumref03_Check.mono _ _ _ _ _ _)
      | (with_reducible exact cambiumref03_put.mono _ _ _ _)
      | (with_reducible exact LeO.refl _)
      | (with_reducible exact LeO.none _)
      | (with_reducible refine LeO.ite ?_ ?_)
      | (with_reducible refine LeO.bind ?_ (fun _ => ?_))
      | exact ih0 _ _ _ _ _ _ _ _ _
      | exact cambiumref03_Check.mono _ _ _ _ _ _
      | exact cambiumref03_put.mono _ _ _ _
      | exact LeO.none _
      | refine LeO.ite ?_ ?_
      | refine LeO.bind ?_ (fun _ => ?_)
theorem cambiumref03_Crash.mono : ∀ a0 a1 a2 a3 a4 a5 k, LeO (cambiumref03_Crash.f k a0 a1 a2 a3 a4 a5) (cambiumref03_Crash.f (k + 1) a0 a1 a2 a3 a4 a5) := by
  intro a0 a1 a2 a3 a4 a5 k
  have ih0 := cambiumref03_Crash.mono_l k
  unfold cambiumref03_Crash.f
  repeat' first
      | (with_reducible exact ih0 _ _ _ _ _ _ _ _ _)
      | (with_reducible exact cambiumref03_Check.mono _ _ _ _ _ _)
      | (with_reducible exact cambiumref03_put.mono _ _ _ _)
      | (with_reducible exact LeO.refl _)
      | (with_reducible exact LeO.none _)
      | (with_reducible refine LeO.ite ?_ ?_)
      | (with_reducible refine LeO.bind ?_ (fun _ => ?_))
      | exact ih0 _ _ _ _ _ _ _ _ _
      | exact cambiumref03_Check.mono _ _ _ _ _ _
      | exact cambiumref03_put.mono _ _ _ _
      | exact LeO.none _
      | refine LeO.ite ?_ ?_
      | refine LeO.bind ?_ (fun _ => ?_)
set_option maxHeartbeats 8000000 in
set_option maxRecDepth 100000 in
theorem cambiumref03_Crash.calls (k : Nat) (a0_0 : Int) (A0_1 : Option Addr) (c0_1 : Nat) (l0_1 : List (S39)) (A0_2 : Option Addr) (c0_2 : Nat) (l0_2 : List (S39)) (a0_3 : Bool) (a0_4 : Int) (A1 : Option Addr) (c1 : Nat) (l1 : List Bool) (r1 : Int) (r2 : List (S39)) (r3 : List (S39)) (r4 : Bool) (r5 : Int) (r6 : Int) (w : World) (hr0_1 : Kd.C k39 w A0_1 l0_1.length l0_1) (hc0_1 : l0_1.length ≤ c0_1) (hr0_2 : Kd.C k39 w A0_2 l0_2.length l0_2) (hc0_2 : l0_2.length ≤ c0_2) (hr1 : Kd.C Kd.bool w A1 l1.length l1) (hc1 : l1.length ≤ c1) (h : cambiumref03_Crash.f k a0_0 l0_1 l0_2 a0_3 a0_4 l1 = some (r1, r2, r3, r4, r5, r6)) :
    Calls Tryd.prog 25 #[.agg #[.int .u32 a0_0, .slice A0_1 l0_1.length c0_1, .slice A0_2 l0_2.length c0_2, .bool a0_3, .int .i64 a0_4], .slice A1 l1.length c1] w fun e w' => ∃ v1_ v2_ : Value, e = .returned (.tuple #[.agg #[.int .u32 r1, v1_, v2_, .bool r4, .int .i64 r5], .int .i64 r6]) ∧ Kd.R k39 39 w' w.heap.size (fun k_ => some k_ ≠ (v2_ : Value).ownBlock) v1_ r2 ∧ Kd.R k39 39 w' w.heap.size (fun k_ => some k_ ≠ (v1_ : Value).ownBlock) v2_ r3 ∧ Below w.heap.size w w' := by
  have hu25 := Tryd.underlying25
  have hu39 := Tryd.underlying39
  have HR0_1 := Aside0.mk hr0_1
  have HC0_1 := Aside0.mk hc0_1
  clear hr0_1 hc0_1
  have HR0_2 := Aside0.mk hr0_2
  have HC0_2 := Aside0.mk hc0_2
  clear hr0_2 hc0_2
  have HR1 := Aside0.mk hr1
  have HC1 := Aside0.mk hc1
  clear hr1 hc1
  have HB := Aside0.mk (Below.refl w.heap.size w)
  have H : ((cambiumref03_Check.f k a0_0 l0_1 l0_2 a0_3 a0_4).bind fun t355 => (if t355 = 0 then ((cambiumref03_Copy.f a0_0 l0_1 l0_2 a0_3 a0_4).bind fun bt356 => (cambiumref03_Crash.l0 k l1 bt356.2.2.1 (bt356.2.2.1.length : Int) 0 bt356.1 bt356.2.1 bt356.2.2.1 bt356.2.2.2.1 bt356.2.2.2.2)) else (some (0, ([] : List (S39)), ([] : List (S39)), false, 0, 7)))) = some (r1, r2, r3, r4, r5, r6) := h
  clear h
  replace H := Option.bind_eq_some_iff.mp H
  obtain ⟨t355, A30, H⟩ := H
  replace H : (if t355 = 0 then ((cambiumref03_Copy.f a0_0 l0_1 l0_2 a0_3 a0_4).bind fun bt356 => (cambiumref03_Crash.l0 k l1 bt356.2.2.1 (bt356.2.2.1.length : Int) 0 bt356.1 bt356.2.1 bt356.2.2.1 bt356.2.2.2.1 bt356.2.2.2.2)) else (some (0, ([] : List (S39)), ([] : List (S39)), false, 0, 7))) = some (r1, r2, r3, r4, r5, r6) := H
  have A3 := Aside0.mk A30
  clear A30
  by_cases c4 : t355 = 0
  · rw [if_pos c4] at H
    have c4b0 : (t355 == 0) = true := beq_iff_eq.mpr c4
    have c4b1 : (t355 != 0) = false := bne_eq_false_iff_eq.mpr c4
    clear c4
    replace H := Option.bind_eq_some_iff.mp H
    obtain ⟨⟨t356, t357, t360, t363, t364⟩, A50, H⟩ := H
    replace H : (cambiumref03_Crash.l0 k l1 t360 (t360.length : Int) 0 t356 t357 t360 t363 t364) = some (r1, r2, r3, r4, r5, r6) := H
    have A5 := Aside0.mk A50
    clear A50
    have H' := Aside0.mk H
    clear H
    go_enter Tryd.func25, Tryd.ntmps25
    go_wp2_with (first | ((with_reducible refine gate_dst (N := 2) rfl ?_); refine bx_ (N := 2) (cs := #[.int .u32 a0_0, .slice A0_1 l0_1.length c0_1, .slice A0_2 l0_2.length c0_2, .bool a0_3, .int .i64 a0_4]) (t := 25) ?_; intro gb353 hg w6 hbox hb; have BK353 := Aside0.mk (hbox); have GW353 := ge_ hg; have GE353 := ge_ hg; replace HB := hb_ hb; clear hb hbox hg) | ((with_reducible refine gate_dst (N := 4) rfl ?_); refine bx_ (N := 4) (cs := #[.int .u32 0, .slice none 0 0, .slice none 0 0, .bool false, .int .i64 0]) (t := 25) ?_; intro gb354 hg w7 hbox hb; have BK354 := Aside0.mk (hbox); have GW354 := ge_ hg; have GE354 := ge_ hg; have NB353_354 := nl_ BK353 hg; have NB354_353 := ng_ BK353 hg; replace BK353 := kb_ BK353 hb; replace HB := hb_ hb; clear hb hbox hg; have hnb8 := NB353_354.out; have hnc8 := NB354_353.out; obtain ⟨hcz9_0, hcz9_1, hcz9_2, hcz9_3, hcz9_4⟩ := cl5_ BK353; obtain ⟨hfz9_0, hfz9_1, hfz9_2, hfz9_3, hfz9_4⟩ := fz5_ BK353) | ((with_reducible refine gate_callee (f := 22) rfl ?_); refine gl_ (some 9) Tryd.func22 #[.agg #[.int .u32 a0_0, .slice A0_1 l0_1.length c0_1, .slice A0_2 l0_2.length c0_2, .bool a0_3, .int .i64 a0_4]] ?_; (with_reducible refine (cambiumref03_Check.calls k a0_0 _ _ l0_1 _ _ l0_2 a0_3 a0_4 t355 _ ?side1 ?side2 ?side3 ?side4 A3.out).mono ?_); (case side1 => exact cb_ HR0_1); (case side2 => exact HC0_1.out); (case side3 => exact cb_ HR0_2); (case side4 => exact HC0_2.out); rintro e w10 ⟨rfl, hb⟩; refine ⟨_, rfl, ?_⟩; replace BK353 := kb_ BK353 hb; replace BK354 := kb_ BK354 hb; replace HB := hb_ hb; (try clear hb); (try clear hb2); (try clear hk); (try clear hi); obtain ⟨hcz11_0, hcz11_1, hcz11_2, hcz11_3, hcz11_4⟩ := cl5_ BK353; obtain ⟨hfz11_0, hfz11_1, hfz11_2, hfz11_3, hfz11_4⟩ := fz5_ BK353) | ((with_reducible refine gate_callee (f := 12) rfl ?_); refine gl_ (some 13) Tryd.func12 #[.agg #[.int .u32 a0_0, .slice A0_1 l0_1.length c0_1, .slice A0_2 l0_2.length c0_2, .bool a0_3, .int .i64 a0_4]] ?_; (with_reducible refine (cambiumref03_Copy.calls a0_0 _ _ l0_1 _ _ l0_2 a0_3 a0_4 t356 t357 t360 t363 t364 _ ?side1 ?side2 ?side3 ?side4 A5.out).mono ?_); (case side1 => exact cb_ HR0_1); (case side2 => exact HC0_1.out); (case side3 => exact cb_ HR0_2); (case side4 => exact HC0_2.out); rintro e w12 ⟨v358, v361, rfl, ho0, ho1, hb⟩; refine ⟨_, rfl, ?_⟩; have HO359 := rl_ ho0; have HO362 := rl_ ho1; replace BK353 := kb_ BK353 hb; replace BK354 := kb_ BK354 hb; replace HB := hb_ hb; (try clear hb); (try clear hb2); (try clear hk); (try clear hi); (try clear ho0); (try clear ho1); obtain ⟨hcz13_0, hcz13_1, hcz13_2, hcz13_3, hcz13_4⟩ := cl5_ BK353; obtain ⟨hfz13_0, hfz13_1, hfz13_2, hfz13_3, hfz13_4⟩ := fz5_ BK353; obtain ⟨Ao14, co14, eo14⟩ := Kd.R_slice HO359.out; subst eo14; obtain ⟨Ao15, co15, eo15⟩ := Kd.R_slice HO362.out; subst eo15))
    go_loopg [17] k (fun kq v17 w' => ∃ (x17_1 : Int) (x354001_1 : List (S39)) (u354001 : Value), v17 = .int .i64 x17_1 ∧ Aside0 (cambiumref03_Crash.l0 kq l1 t360 (t360.length : Int) x17_1 t356 x354001_1 t360 t363 t364 = some (r1, r2, r3, r4, r5, r6)) ∧ Aside0 (kq ≤ k) ∧ Aside0 (Kd.R k39 39 w' w.heap.size (fun k_ => some k_ ≠ (u354001 : Value).ownBlock) (.slice Ao15 t360.length co15) t360) ∧ Aside0 (Kd.R k39 39 w' w.heap.size (fun k_ => some k_ ≠ ((.slice Ao15 t360.length co15) : Value).ownBlock ∧ some k_ ≠ ((.slice Ao15 t360.length co15) : Value).ownBlock) u354001 x354001_1) ∧ Aside0 (Kd.R k39 39 w' w.heap.size (fun k_ => some k_ ≠ (u354001 : Value).ownBlock) (.slice Ao15 t360.length co15) t360) ∧ Aside0 (w'.heap[gb353]? = some (.cells #[.int .u32 t356, u354001, (.slice Ao15 t360.length co15), .bool t363, .int .i64 t364] 25 (0, 0))) ∧ Aside0 (w'.heap[gb354]? = some (.cells #[.int .u32 0, (.slice none 0 0), (.slice none 0 0), .bool false, .int .i64 0] 25 (0, 0))) ∧ Aside0 (Below w.heap.size w w'))
    case atStart => exact ⟨(0), (t357), (.slice Ao14 t357.length co14), (by first | rfl | (simp; done) | (simp [*]; done)), H', ⟨Nat.le_refl _⟩, ⟨rw_ HO362⟩, ⟨by (with_reducible repeat (first | apply Kd.R_alloc | apply Kd.R_drewN | apply Kd.R_drew)); exact Kd.R_mono (Kd.R_far (p := ⟨gb353, 4, none⟩) (Kd.R_far (p := ⟨gb353, 3, none⟩) (Kd.R_far (p := ⟨gb353, 2, none⟩) (Kd.R_far (p := ⟨gb353, 1, none⟩) (Kd.R_far (p := ⟨gb353, 0, none⟩) (Kd.R_types HO359.out BK353.out (by decide)) (fun _ hk => hk.2) (.int .u32 t356)) (fun _ hk => hk.2) (.slice Ao14 t357.length co14)) (fun _ hk => hk.2) (.slice Ao15 t360.length co15)) (fun _ hk => hk.2) (.bool t363)) (fun _ hk => hk.2) (.int .i64 t364)) (fun _ hk => ⟨hk.1, hk.1⟩)⟩, ⟨rw_ HO362⟩, ⟨bs_⟩, ⟨bs_⟩, ⟨bel_⟩⟩
    case round =>
      clear H'
      try clear c1
      try clear c2
      try clear p2
      try clear c4
      try clear c4b0
      try clear c4b1
      try clear c8
      try clear c12
      try clear hcz11_0
      try clear hcz11_1
      try clear hcz11_2
      try clear hcz11_3
      try clear hcz11_4
      try clear hcz13_0
      try clear hcz13_1
      try clear hcz13_2
      try clear hcz13_3
      try clear hcz13_4
      try clear hcz9_0
      try clear hcz9_1
      try clear hcz9_2
      try clear hcz9_3
      try clear hcz9_4
      try clear hfz11_0
      try clear hfz11_1
      try clear hfz11_2
      try clear hfz11_3
      try clear hfz11_4
      try clear hfz13_0
      try clear hfz13_1
      try clear hfz13_2
      try clear hfz13_3
      try clear hfz13_4
      try clear hfz9_0
      try clear hfz9_1
      try clear hfz9_2
      try clear hfz9_3
      try clear hfz9_4
      obtain ⟨x17_1, x354001_1, u354001, rfl, HA, HK1, HO_15, HO_354001, HO_354002, BK353, BK354, HB⟩ := hrel
      cases gk with
      | zero => exact absurd HA.out (by simp [cambiumref03_Crash.l0])
      | succ k1 =>
        have H := HA.out
        clear HA
        simp only [cambiumref03_Crash.l0] at H
        by_cases c16 : x17_1 < (t360.length : Int)
        · rw [if_pos c16] at H
          have c16b0 : decide (x17_1 < (t360.length : Int)) = true := decide_eq_true c16
          clear c16
          by_cases c17 : 0 ≤ x17_1
          · rw [if_pos c17] at H
            have c17b0 : decide (0 ≤ x17_1) = true := decide_eq_true c17
            clear c17
            by_cases c18 : x17_1 < (t360.length : Int)
            · rw [if_pos c18] at H
              have c18b0 : decide (x17_1 < (t360.length : Int)) = true := decide_eq_true c18
              clear c18
              by_cases c19 : x17_1 < (l1.length : Int)
              · rw [if_pos c19] at H
                have c19b0 : decide (x17_1 < (l1.length : Int)) = true := decide_eq_true c19
                clear c19
                obtain ⟨bq20, hbq20⟩ : ∃ b_ : Bool, b_ = (rdOf false l1 x17_1) := ⟨_, rfl⟩
                replace H : (if bq20 = true then ((cambiumref03_put.f k1 x354001_1 ((rd_T39 t360 x17_1).f0) ((rd_T39 t360 x17_1).f1)).bind fun t368 => (cambiumref03_Crash.l0 k1 l1 t360 (t360.length : Int) (wrap64 (x17_1 + 1)) t356 t368 t360 t363 t364)) else (cambiumref03_Crash.l0 k1 l1 t360 (t360.length : Int) (wrap64 (x17_1 + 1)) t356 x354001_1 t360 t363 t364)) = some (r1, r2, r3, r4, r5, r6) := by rw [← hbq20] at H; exact H
                have Nbq20 := Aside0.mk hbq20
                clear hbq20
                by_cases c21 : bq20 = true
                · subst c21
                  have H1 : ((cambiumref03_put.f k1 x354001_1 ((rd_T39 t360 x17_1).f0) ((rd_T39 t360 x17_1).f1)).bind fun t368 => (cambiumref03_Crash.l0 k1 l1 t360 (t360.length : Int) (wrap64 (x17_1 + 1)) t356 t368 t360 t363 t364)) = some (r1, r2, r3, r4, r5, r6) := by rw [if_pos rfl] at H; exact H
                  clear H
                  have H := H1
                  clear H1
                  replace H := Option.bind_eq_some_iff.mp H
                  obtain ⟨t368, A220, H⟩ := H
                  replace H : (cambiumref03_Crash.l0 k1 l1 t360 (t360.length : Int) (wrap64 (x17_1 + 1)) t356 t368 t360 t363 t364) = some (r1, r2, r3, r4, r5, r6) := H
                  have A22 := Aside0.mk A220
                  clear A220
                  have H' := Aside0.mk H
                  clear H
                  have p365 : 0 ≤ (x17_1 : Int) := of_decide_eq_true (by first | (with_reducible assumption) | assumption)
                  have q365 : x17_1 < (t360.length : Int) := of_decide_eq_true (by first | (with_reducible assumption) | assumption)
                  obtain ⟨ad365, e365, hx365_0, hx365_1⟩ := at_T39 (Kd.R_reads' HO_15.out).2.2 x17_1 p365 q365
                  cases e365
                  replace p365 := eq_true p365
                  replace q365 := eq_true q365
                  go_wp2_with (first | ((with_reducible refine gate_dst (N := 7) rfl ?_); refine bx_ (N := 7) (cs := #[.int .u32 0, .string (⟨#[]⟩ : ByteArray)]) (t := 39) ?_; intro gb366 hg w23 hbox hb; have BK366 := Aside0.mk (hbox); have GW366 := ge_ hg; have GE366 := ge_ hg; have NB353_366 := nl_ BK353 hg; have NB366_353 := ng_ BK353 hg; have NB354_366 := nl_ BK354 hg; have NB366_354 := ng_ BK354 hg; replace HO_15 := Aside0.mk (Kd.R_below (Kd.R_elderB (ra_ HO_15) gb366 (Nat.le_of_eq hg.symm)) hb); replace HO_354001 := Aside0.mk (Kd.R_below (Kd.R_elderB (ra_ HO_354001) gb366 (Nat.le_of_eq hg.symm)) hb); replace HO_354002 := Aside0.mk (Kd.R_below (Kd.R_elderB (ra_ HO_354002) gb366 (Nat.le_of_eq hg.symm)) hb); replace BK353 := kb_ BK353 hb; replace BK354 := kb_ BK354 hb; replace HB := hb_ hb; clear hb hbox hg; have hnb24 := NB366_353.out; have hnc24 := NB353_366.out; have hnb25 := NB366_354.out; have hnc25 := NB354_366.out; obtain ⟨hcz26_0, hcz26_1⟩ := cl2_ BK366; obtain ⟨hfz26_0, hfz26_1⟩ := fz2_ BK366; have p367 : 0 ≤ (x17_1 : Int) := of_decide_eq_true (by first | (with_reducible assumption) | assumption); have q367 : x17_1 < (l1.length : Int) := of_decide_eq_true (by first | (with_reducible assumption) | assumption); obtain ⟨ad367, e367, hx367_0⟩ := Kd.at_bool HR1.out x17_1 p367 q367; (try rw [← Nbq20.out] at hx367_0); cases e367; have hn367_0 : ad367.block ≠ gb366 := Nat.ne_of_lt (Nat.lt_of_lt_of_le (by have := World.block_lt_of_cell? _ _ hx367_0; first | rwa [add_block] at this | exact this) GW366.out); have hn367_1 : ad367.block ≠ gb366 := Nat.ne_of_lt (Nat.lt_of_lt_of_le (by have := World.block_lt_of_cell? _ _ hx367_0; first | rwa [add_block] at this | exact this) GW366.out); replace hx367_0 := (HB.out.cell (World.block_lt_of_cell? w _ hx367_0)).trans hx367_0; replace hx367_0 := (cell_far (p := ⟨gb366, 0, none⟩) (by first | (rw [add_block]; exact hn367_0) | (show (Addr.add _ _).block ≠ _; rw [add_block]; exact hn367_0) | exact hn367_0) (.int .u32 ((rd_T39 t360 x17_1).f0))).trans hx367_0; replace hx367_0 := (cell_far (p := ⟨gb366, 1, none⟩) (by first | (rw [add_block]; exact hn367_1) | (show (Addr.add _ _).block ≠ _; rw [add_block]; exact hn367_1) | exact hn367_1) (.string ((rd_T39 t360 x17_1).f1))).trans hx367_0; clear hn367_0; clear hn367_1; replace p367 := eq_true p367; replace q367 := eq_true q367; have hnb27 := NB353_354.out; have hnc27 := NB354_353.out; obtain ⟨hcz28_0, hcz28_1, hcz28_2, hcz28_3, hcz28_4⟩ := cl5_ BK353; obtain ⟨hfz28_0, hfz28_1, hfz28_2, hfz28_3, hfz28_4⟩ := fz5_ BK353; obtain ⟨Ao29, co29, eo29⟩ := Kd.R_slice HO_354001.out; subst eo29) | ((with_reducible refine gate_callee (f := 32) rfl ?_); refine gl_ (some 35) Tryd.func32 #[.slice Ao29 x354001_1.length co29, .agg #[.int .u32 ((rd_T39 t360 x17_1).f0), .string ((rd_T39 t360 x17_1).f1)]] ?_; (with_reducible refine (cambiumref03_put.calls k1 _ _ x354001_1 ((rd_T39 t360 x17_1).f0) ((rd_T39 t360 x17_1).f1) t368 _ ?side1 ?side2 A22.out).mono ?_); (case side1 => refine (Kd.R_reads' (e := 39) (base := w.heap.size) (ok := fun k_ => ((some k_ ≠ (.slice (some ad365) t360.length co15 : Value).ownBlock ∧ some k_ ≠ (.slice (some ad365) t360.length co15 : Value).ownBlock) ∧ k_ ≠ gb366)) (n := x354001_1.length) (c := co29) ?_).2.2; exact (by (with_reducible repeat (first | apply Kd.R_alloc | apply Kd.R_drewN | apply Kd.R_drew)); exact (Kd.R_mono (Kd.R_far (p := ⟨gb366, 1, none⟩) (Kd.R_far (p := ⟨gb366, 0, none⟩) (Kd.R_mono HO_354001.out (fun k_ hk => (⟨hk, hk.2⟩ : _ ∧ k_ ≠ gb366))) (fun _ hk => hk.2) (.int .u32 ((rd_T39 t360 x17_1).f0))) (fun _ hk => hk.2) (.string ((rd_T39 t360 x17_1).f1))) (fun _ h_ => h_.1)))); (case side2 => exact (Kd.R_reads' HO_354001.out).2.1); rintro e w30 ⟨v369, rfl, ho0, hb⟩; refine ⟨_, rfl, ?_⟩; have HO370 := Aside0.mk (Kd.R_lower (Kd.R_newB (Kd.R_new' (Kd.R_new' (Kd.R_new' ho0 (Kd.R_lt (by (with_reducible repeat (first | apply Kd.R_alloc | apply Kd.R_drewN | apply Kd.R_drew)); exact (Kd.R_mono (Kd.R_far (p := ⟨gb366, 1, none⟩) (Kd.R_far (p := ⟨gb366, 0, none⟩) (Kd.R_mono HO_15.out (fun k_ hk => (⟨hk, hk.2⟩ : _ ∧ k_ ≠ gb366))) (fun _ hk => hk.2) (.int .u32 ((rd_T39 t360 x17_1).f0))) (fun _ hk => hk.2) (.string ((rd_T39 t360 x17_1).f1))) (fun _ h_ => h_.1))))) (Kd.R_lt (by (with_reducible repeat (first | apply Kd.R_alloc | apply Kd.R_drewN | apply Kd.R_drew)); exact (Kd.R_mono (Kd.R_far (p := ⟨gb366, 1, none⟩) (Kd.R_far (p := ⟨gb366, 0, none⟩) (Kd.R_mono HO_354001.out (fun k_ hk => (⟨hk, hk.2⟩ : _ ∧ k_ ≠ gb366))) (fun _ hk => hk.2) (.int .u32 ((rd_T39 t360 x17_1).f0))) (fun _ hk => hk.2) (.string ((rd_T39 t360 x17_1).f1))) (fun _ h_ => h_.1))))) (Kd.R_lt (by (with_reducible repeat (first | apply Kd.R_alloc | apply Kd.R_drewN | apply Kd.R_drew)); exact (Kd.R_mono (Kd.R_far (p := ⟨gb366, 1, none⟩) (Kd.R_far (p := ⟨gb366, 0, none⟩) (Kd.R_mono HO_354002.out (fun k_ hk => (⟨hk, hk.2⟩ : _ ∧ k_ ≠ gb366))) (fun _ hk => hk.2) (.int .u32 ((rd_T39 t360 x17_1).f0))) (fun _ hk => hk.2) (.string ((rd_T39 t360 x17_1).f1))) (fun _ h_ => h_.1))))) (g := gb366) (o := .cells #[.int .u32 ((rd_T39 t360 x17_1).f0), .string ((rd_T39 t360 x17_1).f1)] 39 (0, 0)) (bs_)) (below_size bel_)); replace HO_15 := Aside0.mk (Kd.R_elder' (by (with_reducible repeat (first | apply Kd.R_alloc | apply Kd.R_drewN | apply Kd.R_drew)); exact (Kd.R_mono (Kd.R_far (p := ⟨gb366, 1, none⟩) (Kd.R_far (p := ⟨gb366, 0, none⟩) (Kd.R_mono HO_15.out (fun k_ hk => (⟨hk, hk.2⟩ : _ ∧ k_ ≠ gb366))) (fun _ hk => hk.2) (.int .u32 ((rd_T39 t360 x17_1).f0))) (fun _ hk => hk.2) (.string ((rd_T39 t360 x17_1).f1))) (fun _ h_ => h_.1))) (Kd.R_base ho0) hb); replace HO_354001 := Aside0.mk (Kd.R_elder' (by (with_reducible repeat (first | apply Kd.R_alloc | apply Kd.R_drewN | apply Kd.R_drew)); exact (Kd.R_mono (Kd.R_far (p := ⟨gb366, 1, none⟩) (Kd.R_far (p := ⟨gb366, 0, none⟩) (Kd.R_mono HO_354001.out (fun k_ hk => (⟨hk, hk.2⟩ : _ ∧ k_ ≠ gb366))) (fun _ hk => hk.2) (.int .u32 ((rd_T39 t360 x17_1).f0))) (fun _ hk => hk.2) (.string ((rd_T39 t360 x17_1).f1))) (fun _ h_ => h_.1))) (Kd.R_base ho0) hb); replace HO_354002 := Aside0.mk (Kd.R_elder' (by (with_reducible repeat (first | apply Kd.R_alloc | apply Kd.R_drewN | apply Kd.R_drew)); exact (Kd.R_mono (Kd.R_far (p := ⟨gb366, 1, none⟩) (Kd.R_far (p := ⟨gb366, 0, none⟩) (Kd.R_mono HO_354002.out (fun k_ hk => (⟨hk, hk.2⟩ : _ ∧ k_ ≠ gb366))) (fun _ hk => hk.2) (.int .u32 ((rd_T39 t360 x17_1).f0))) (fun _ hk => hk.2) (.string ((rd_T39 t360 x17_1).f1))) (fun _ h_ => h_.1))) (Kd.R_base ho0) hb); replace BK353 := Aside0.mk (blk_below (g := gb353) (o := .cells #[.int .u32 t356, .slice Ao29 x354001_1.length co29, .slice (some ad365) t360.length co15, .bool t363, .int .i64 t364] 25 (0, 0)) (bs_) hb); replace BK354 := Aside0.mk (blk_below (g := gb354) (o := .cells #[.int .u32 0, .slice none 0 0, .slice none 0 0, .bool false, .int .i64 0] 25 (0, 0)) (bs_) hb); replace BK366 := Aside0.mk (blk_below (g := gb366) (o := .cells #[.int .u32 ((rd_T39 t360 x17_1).f0), .string ((rd_T39 t360 x17_1).f1)] 39 (0, 0)) (bs_) hb); replace HB := hb_ hb; (try clear hb); (try clear hb2); (try clear hk); (try clear hi); (try clear ho0); obtain ⟨Ao31, co31, eo31⟩ := Kd.R_slice HO370.out; subst eo31; obtain ⟨hcz32_0, hcz32_1, hcz32_2, hcz32_3, hcz32_4⟩ := cl5_ BK353; obtain ⟨hfz32_0, hfz32_1, hfz32_2, hfz32_3, hfz32_4⟩ := fz5_ BK353))
                  go_roundg k1
                  case measure => have := HK1.out; omega
                  case rel => exact ⟨(wrap64 (x17_1 + 1)), (t368), (.slice Ao31 t368.length co31), (by first | rfl | (simp; done) | (simp [*]; done)), H', ⟨by have := HK1.out; omega⟩, ⟨by (with_reducible repeat (first | apply Kd.R_alloc | apply Kd.R_drewN | apply Kd.R_drew)); exact Kd.R_mono (Kd.R_far (p := ⟨gb353, 1, none⟩) (Kd.R_types HO_15.out BK353.out (by decide)) (fun _ hk => hk.2) (.slice Ao31 t368.length co31)) (fun _ hk => hk.1.2)⟩, ⟨by (with_reducible repeat (first | apply Kd.R_alloc | apply Kd.R_drewN | apply Kd.R_drew)); exact Kd.R_mono (Kd.R_far (p := ⟨gb353, 1, none⟩) (Kd.R_types HO370.out BK353.out (by decide)) (fun _ hk => hk.2) (.slice Ao31 t368.length co31)) (fun _ hk => ⟨hk.1.1.1.1.2, hk.1.1.2⟩)⟩, ⟨by (with_reducible repeat (first | apply Kd.R_alloc | apply Kd.R_drewN | apply Kd.R_drew)); exact Kd.R_mono (Kd.R_far (p := ⟨gb353, 1, none⟩) (Kd.R_types HO_354002.out BK353.out (by decide)) (fun _ hk => hk.2) (.slice Ao31 t368.length co31)) (fun _ hk => hk.1.2)⟩, ⟨bs_⟩, ⟨bs_⟩, ⟨bel_⟩⟩
                replace c21 := Bool.eq_false_iff.mpr c21
                subst c21
                have H1 : (cambiumref03_Crash.l0 k1 l1 t360 (t360.length : Int) (wrap64 (x17_1 + 1)) t356 x354001_1 t360 t363 t364) = some (r1, r2, r3, r4, r5, r6) := by rw [if_neg (show ¬ (false = true) by decide)] at H; exact H
                clear H
                have H := H1
                clear H1
                have H' := Aside0.mk H
                clear H
                have p365 : 0 ≤ (x17_1 : Int) := of_decide_eq_true (by first | (with_reducible assumption) | assumption)
                have q365 : x17_1 < (t360.length : Int) := of_decide_eq_true (by first | (with_reducible assumption) | assumption)
                obtain ⟨ad365, e365, hx365_0, hx365_1⟩ := at_T39 (Kd.R_reads' HO_15.out).2.2 x17_1 p365 q365
                cases e365
                replace p365 := eq_true p365
                replace q365 := eq_true q365
                go_wp2_with (first | ((with_reducible refine gate_dst (N := 7) rfl ?_); refine bx_ (N := 7) (cs := #[.int .u32 0, .string (⟨#[]⟩ : ByteArray)]) (t := 39) ?_; intro gb366 hg w33 hbox hb; have BK366 := Aside0.mk (hbox); have GW366 := ge_ hg; have GE366 := ge_ hg; have NB353_366 := nl_ BK353 hg; have NB366_353 := ng_ BK353 hg; have NB354_366 := nl_ BK354 hg; have NB366_354 := ng_ BK354 hg; replace HO_15 := Aside0.mk (Kd.R_below (Kd.R_elderB (ra_ HO_15) gb366 (Nat.le_of_eq hg.symm)) hb); replace HO_354001 := Aside0.mk (Kd.R_below (Kd.R_elderB (ra_ HO_354001) gb366 (Nat.le_of_eq hg.symm)) hb); replace HO_354002 := Aside0.mk (Kd.R_below (Kd.R_elderB (ra_ HO_354002) gb366 (Nat.le_of_eq hg.symm)) hb); replace BK353 := kb_ BK353 hb; replace BK354 := kb_ BK354 hb; replace HB := hb_ hb; clear hb hbox hg; have hnb34 := NB366_353.out; have hnc34 := NB353_366.out; have hnb35 := NB366_354.out; have hnc35 := NB354_366.out; obtain ⟨hcz36_0, hcz36_1⟩ := cl2_ BK366; obtain ⟨hfz36_0, hfz36_1⟩ := fz2_ BK366; have p367 : 0 ≤ (x17_1 : Int) := of_decide_eq_true (by first | (with_reducible assumption) | assumption); have q367 : x17_1 < (l1.length : Int) := of_decide_eq_true (by first | (with_reducible assumption) | assumption); obtain ⟨ad367, e367, hx367_0⟩ := Kd.at_bool HR1.out x17_1 p367 q367; (try rw [← Nbq20.out] at hx367_0); cases e367; have hn367_0 : ad367.block ≠ gb366 := Nat.ne_of_lt (Nat.lt_of_lt_of_le (by have := World.block_lt_of_cell? _ _ hx367_0; first | rwa [add_block] at this | exact this) GW366.out); have hn367_1 : ad367.block ≠ gb366 := Nat.ne_of_lt (Nat.lt_of_lt_of_le (by have := World.block_lt_of_cell? _ _ hx367_0; first | rwa [add_block] at this | exact this) GW366.out); replace hx367_0 := (HB.out.cell (World.block_lt_of_cell? w _ hx367_0)).trans hx367_0; replace hx367_0 := (cell_far (p := ⟨gb366, 0, none⟩) (by first | (rw [add_block]; exact hn367_0) | (show (Addr.add _ _).block ≠ _; rw [add_block]; exact hn367_0) | exact hn367_0) (.int .u32 ((rd_T39 t360 x17_1).f0))).trans hx367_0; replace hx367_0 := (cell_far (p := ⟨gb366, 1, none⟩) (by first | (rw [add_block]; exact hn367_1) | (show (Addr.add _ _).block ≠ _; rw [add_block]; exact hn367_1) | exact hn367_1) (.string ((rd_T39 t360 x17_1).f1))).trans hx367_0; clear hn367_0; clear hn367_1; replace p367 := eq_true p367; replace q367 := eq_true q367))
                go_roundg k1
                case measure => have := HK1.out; omega
                case rel => exact ⟨(wrap64 (x17_1 + 1)), (x354001_1), (u354001), (by first | rfl | (simp; done) | (simp [*]; done)), H', ⟨by have := HK1.out; omega⟩, ⟨by (with_reducible repeat (first | apply Kd.R_alloc | apply Kd.R_drewN | apply Kd.R_drew)); exact Kd.R_mono (Kd.R_far (p := ⟨gb366, 1, none⟩) (Kd.R_far (p := ⟨gb366, 0, none⟩) (Kd.R_mono HO_15.out (fun k_ hk => (⟨hk, hk.2⟩ : _ ∧ k_ ≠ gb366))) (fun _ hk => hk.2) (.int .u32 ((rd_T39 t360 x17_1).f0))) (fun _ hk => hk.2) (.string ((rd_T39 t360 x17_1).f1))) (fun _ hk => hk.1.1)⟩, ⟨by (with_reducible repeat (first | apply Kd.R_alloc | apply Kd.R_drewN | apply Kd.R_drew)); exact Kd.R_mono (Kd.R_far (p := ⟨gb366, 1, none⟩) (Kd.R_far (p := ⟨gb366, 0, none⟩) (Kd.R_mono HO_354001.out (fun k_ hk => (⟨hk, hk.2⟩ : _ ∧ k_ ≠ gb366))) (fun _ hk => hk.2) (.int .u32 ((rd_T39 t360 x17_1).f0))) (fun _ hk => hk.2) (.string ((rd_T39 t360 x17_1).f1))) (fun _ hk => ⟨hk.1.1.1, hk.1.1.2⟩)⟩, ⟨by (with_reducible repeat (first | apply Kd.R_alloc | apply Kd.R_drewN | apply Kd.R_drew)); exact Kd.R_mono (Kd.R_far (p := ⟨gb366, 1, none⟩) (Kd.R_far (p := ⟨gb366, 0, none⟩) (Kd.R_mono HO_354002.out (fun k_ hk => (⟨hk, hk.2⟩ : _ ∧ k_ ≠ gb366))) (fun _ hk => hk.2) (.int .u32 ((rd_T39 t360 x17_1).f0))) (fun _ hk => hk.2) (.string ((rd_T39 t360 x17_1).f1))) (fun _ hk => hk.1.1)⟩, ⟨bs_⟩, ⟨bs_⟩, ⟨bel_⟩⟩
              rw [if_neg c19] at H
              have c19b0 : decide (x17_1 < (l1.length : Int)) = false := decide_eq_false c19
              clear c19
              have H' := Aside0.mk H
              clear H
              have p365 : 0 ≤ (x17_1 : Int) := of_decide_eq_true (by first | (with_reducible assumption) | assumption)
              have q365 : x17_1 < (t360.length : Int) := of_decide_eq_true (by first | (with_reducible assumption) | assumption)
              obtain ⟨ad365, e365, hx365_0, hx365_1⟩ := at_T39 (Kd.R_reads' HO_15.out).2.2 x17_1 p365 q365
              cases e365
              replace p365 := eq_true p365
              replace q365 := eq_true q365
              go_wp2_with (first | ((with_reducible refine gate_dst (N := 7) rfl ?_); refine bx_ (N := 7) (cs := #[.int .u32 0, .string (⟨#[]⟩ : ByteArray)]) (t := 39) ?_; intro gb366 hg w37 hbox hb; have BK366 := Aside0.mk (hbox); have GW366 := ge_ hg; have GE366 := ge_ hg; have NB353_366 := nl_ BK353 hg; have NB366_353 := ng_ BK353 hg; have NB354_366 := nl_ BK354 hg; have NB366_354 := ng_ BK354 hg; replace HO_15 := Aside0.mk (Kd.R_below (Kd.R_elderB (ra_ HO_15) gb366 (Nat.le_of_eq hg.symm)) hb); replace HO_354001 := Aside0.mk (Kd.R_below (Kd.R_elderB (ra_ HO_354001) gb366 (Nat.le_of_eq hg.symm)) hb); replace HO_354002 := Aside0.mk (Kd.R_below (Kd.R_elderB (ra_ HO_354002) gb366 (Nat.le_of_eq hg.symm)) hb); replace BK353 := kb_ BK353 hb; replace BK354 := kb_ BK354 hb; replace HB := hb_ hb; clear hb hbox hg; have hnb38 := NB366_353.out; have hnc38 := NB353_366.out; have hnb39 := NB366_354.out; have hnc39 := NB354_366.out; obtain ⟨hcz40_0, hcz40_1⟩ := cl2_ BK366; obtain ⟨hfz40_0, hfz40_1⟩ := fz2_ BK366))
              go_roundg k1
              case measure => have := HK1.out; omega
              case rel => exact ⟨(wrap64 (x17_1 + 1)), (x354001_1), (u354001), (by first | rfl | (simp; done) | (simp [*]; done)), H', ⟨by have := HK1.out; omega⟩, ⟨by (with_reducible repeat (first | apply Kd.R_alloc | apply Kd.R_drewN | apply Kd.R_drew)); exact Kd.R_mono (Kd.R_far (p := ⟨gb366, 1, none⟩) (Kd.R_far (p := ⟨gb366, 0, none⟩) (Kd.R_mono HO_15.out (fun k_ hk => (⟨hk, hk.2⟩ : _ ∧ k_ ≠ gb366))) (fun _ hk => hk.2) (.int .u32 ((rd_T39 t360 x17_1).f0))) (fun _ hk => hk.2) (.string ((rd_T39 t360 x17_1).f1))) (fun _ hk => hk.1.1)⟩, ⟨by (with_reducible repeat (first | apply Kd.R_alloc | apply Kd.R_drewN | apply Kd.R_drew)); exact Kd.R_mono (Kd.R_far (p := ⟨gb366, 1, none⟩) (Kd.R_far (p := ⟨gb366, 0, none⟩) (Kd.R_mono HO_354001.out (fun k_ hk => (⟨hk, hk.2⟩ : _ ∧ k_ ≠ gb366))) (fun _ hk => hk.2) (.int .u32 ((rd_T39 t360 x17_1).f0))) (fun _ hk => hk.2) (.string ((rd_T39 t360 x17_1).f1))) (fun _ hk => ⟨hk.1.1.1, hk.1.1.2⟩)⟩, ⟨by (with_reducible repeat (first | apply Kd.R_alloc | apply Kd.R_drewN | apply Kd.R_drew)); exact Kd.R_mono (Kd.R_far (p := ⟨gb366, 1, none⟩) (Kd.R_far (p := ⟨gb366, 0, none⟩) (Kd.R_mono HO_354002.out (fun k_ hk => (⟨hk, hk.2⟩ : _ ∧ k_ ≠ gb366))) (fun _ hk => hk.2) (.int .u32 ((rd_T39 t360 x17_1).f0))) (fun _ hk => hk.2) (.string ((rd_T39 t360 x17_1).f1))) (fun _ hk => hk.1.1)⟩, ⟨bs_⟩, ⟨bs_⟩, ⟨bel_⟩⟩
            rw [if_neg c18] at H
            exact absurd H (by simp)
          rw [if_neg c17] at H
          exact absurd H (by simp)
        rw [if_neg c16] at H
        have c16b0 : decide (x17_1 < (t360.length : Int)) = false := decide_eq_false c16
        clear c16
        simp only [Option.some.injEq, Prod.mk.injEq] at H
        obtain ⟨rfl, rfl, rfl, rfl, rfl, rfl⟩ := H
        have hnb41 := NB353_354.out
        have hnc41 := NB354_353.out
        obtain ⟨hcz42_0, hcz42_1, hcz42_2, hcz42_3, hcz42_4⟩ := cl5_ BK353
        obtain ⟨hfz42_0, hfz42_1, hfz42_2, hfz42_3, hfz42_4⟩ := fz5_ BK353
        obtain ⟨Ao43, co43, eo43⟩ := Kd.R_slice HO_354001.out
        subst eo43
        obtain ⟨hcz44_0, hcz44_1, hcz44_2, hcz44_3, hcz44_4⟩ := cl5_ BK354
        obtain ⟨hfz44_0, hfz44_1, hfz44_2, hfz44_3, hfz44_4⟩ := fz5_ BK354
        go_wp2
        refine bodyPost_ret (results_ct rfl _ _ gb354 25 #[.int .u32 t356, .slice Ao43 x354001_1.length co43, .slice none 0 0, .bool false, .int .i64 (-1)] (0, 0) _ rfl (bs_) Tryd.underlying25 rfl (by kernel_rfl)) rfl ?_
        exact ⟨_, _, by first | rfl | (simp [errW_none, errW_some] <;> rfl) | (simp [*, errW_none, errW_some] <;> rfl), by (with_reducible repeat (first | apply Kd.R_alloc | apply Kd.R_drewN | apply Kd.R_drew)); exact Kd.R_mono (Kd.R_far (p := ⟨gb354, 4, none⟩) (Kd.R_far (p := ⟨gb354, 3, none⟩) (Kd.R_far (p := ⟨gb354, 2, none⟩) (Kd.R_far (p := ⟨gb354, 1, none⟩) (Kd.R_far (p := ⟨gb354, 0, none⟩) (Kd.R_types HO_354001.out BK354.out (by decide)) (fun _ hk => hk.2) (.int .u32 t356)) (fun _ hk => hk.2) (.slice Ao43 x354001_1.length co43)) (fun _ hk => hk.2) (.slice none 0 0)) (fun _ hk => hk.2) (.bool false)) (fun _ hk => hk.2) (.int .i64 (-1))) (fun _ hk => (by simp [Value.ownBlock])), by first | exact Kd.R_nil _ _ _ _ _ | exact Kd.N_nil _ _ _ _ _ | exact Kd.V_nil _ _ _ _ _ | exact Kd.Q_nil _ _ _ _ _ | exact Kd.S_nil _ _ _ _ _, bel_⟩
  rw [if_neg c4] at H
  have c4b0 : (t355 == 0) = false := beq_eq_false_iff_ne.mpr c4
  have c4b1 : (t355 != 0) = true := bne_iff_ne.mpr c4
  simp only [Option.some.injEq, Prod.mk.injEq] at H
  obtain ⟨rfl, rfl, rfl, rfl, rfl, rfl⟩ := H
  go_enter Tryd.func25, Tryd.ntmps25
  go_wp2_with (first | ((with_reducible refine gate_dst (N := 2) rfl ?_); refine bx_ (N := 2) (cs := #[.int .u32 a0_0, .slice A0_1 l0_1.length c0_1, .slice A0_2 l0_2.length c0_2, .bool a0_3, .int .i64 a0_4]) (t := 25) ?_; intro gb353 hg w45 hbox hb; have BK353 := Aside0.mk (hbox); have GW353 := ge_ hg; have GE353 := ge_ hg; replace HB := hb_ hb; clear hb hbox hg) | ((with_reducible refine gate_dst (N := 4) rfl ?_); refine bx_ (N := 4) (cs := #[.int .u32 0, .slice none 0 0, .slice none 0 0, .bool false, .int .i64 0]) (t := 25) ?_; intro gb354 hg w46 hbox hb; have BK354 := Aside0.mk (hbox); have GW354 := ge_ hg; have GE354 := ge_ hg; have NB353_354 := nl_ BK353 hg; have NB354_353 := ng_ BK353 hg; replace BK353 := kb_ BK353 hb; replace HB := hb_ hb; clear hb hbox hg; have hnb47 := NB353_354.out; have hnc47 := NB354_353.out; obtain ⟨hcz48_0, hcz48_1, hcz48_2, hcz48_3, hcz48_4⟩ := cl5_ BK353; obtain ⟨hfz48_0, hfz48_1, hfz48_2, hfz48_3, hfz48_4⟩ := fz5_ BK353) | ((with_reducible refine gate_callee (f := 22) rfl ?_); refine gl_ (some 9) Tryd.func22 #[.agg #[.int .u32 a0_0, .slice A0_1 l0_1.length c0_1, .slice A0_2 l0_2.length c0_2, .bool a0_3, .int .i64 a0_4]] ?_; (with_reducible refine (cambiumref03_Check.calls k a0_0 _ _ l0_1 _ _ l0_2 a0_3 a0_4 t355 _ ?side1 ?side2 ?side3 ?side4 A3.out).mono ?_); (case side1 => exact cb_ HR0_1); (case side2 => exact HC0_1.out); (case side3 => exact cb_ HR0_2); (case side4 => exact HC0_2.out); rintro e w49 ⟨rfl, hb⟩; refine ⟨_, rfl, ?_⟩; replace BK353 := kb_ BK353 hb; replace BK354 := kb_ BK354 hb; replace HB := hb_ hb; (try clear hb); (try clear hb2); (try clear hk); (try clear hi); obtain ⟨hcz50_0, hcz50_1, hcz50_2, hcz50_3, hcz50_4⟩ := cl5_ BK354; obtain ⟨hfz50_0, hfz50_1, hfz50_2, hfz50_3, hfz50_4⟩ := fz5_ BK354))
  refine bodyPost_ret (results_ct rfl _ _ gb354 25 #[.int .u32 0, .slice none 0 0, .slice none 0 0, .bool false, .int .i64 0] (0, 0) _ rfl (bs_) Tryd.underlying25 rfl (by kernel_rfl)) rfl ?_
  exact ⟨_, _, by first | rfl | (simp [errW_none, errW_some] <;> rfl) | (simp [*, errW_none, errW_some] <;> rfl), by first | exact Kd.R_nil _ _ _ _ _ | exact Kd.N_nil _ _ _ _ _ | exact Kd.V_nil _ _ _ _ _ | exact Kd.Q_nil _ _ _ _ _ | exact Kd.S_nil _ _ _ _ _, by first | exact Kd.R_nil _ _ _ _ _ | exact Kd.N_nil _ _ _ _ _ | exact Kd.V_nil _ _ _ _ _ | exact Kd.Q_nil _ _ _ _ _ | exact Kd.S_nil _ _ _ _ _, bel_⟩

end Go.Proofs.YtcphflfjhkeooaaDoor.Z
end

section
-- Printed by a program of this session (mp.py) out of the translation.
namespace Go.Proofs.YtcphflfjhkeooaaDoor.Z
open Go.RowKit Go.Proofs.YtcphflfjhkeooaaDoorW.PrintWords Go.Proofs.YtcphflfjhkeooaaDoorW.PrintLast Go.Proofs.YtcphflfjhkeooaaDoorW.PrintMore
attribute [local go_sem] max2_int min2_int max_two min_two max_three min_three max_four min_four   -- for this text's walks alone
set_option linter.unusedVariables false
set_option linter.unusedSimpArgs false

/-! ### cambiumref03_Spoil: function 27 -/
def cambiumref03_Spoil.f (k : Nat) (a0_0 : Int) (l0_1 : List (S39)) (l0_2 : List (S39)) (a0_3 : Bool) (a0_4 : Int) (a1 : Int) (a2 : ByteArray) : Option (Int × (List (S39)) × (List (S39)) × Bool × Int × Int) := (cambiumref03_Check.f k a0_0 l0_1 l0_2 a0_3 a0_4).bind fun t373 => (if t373 = 0 then ((cambiumref03_Copy.f a0_0 l0_1 l0_2 a0_3 a0_4).bind fun bt374 => (if a1 ≥ bt374.1 then (some (bt374.1, bt374.2.1, bt374.2.2.1, bt374.2.2.2.1, bt374.2.2.2.2, 1)) else (if (a2.size : Int) > 512 then (some (bt374.1, bt374.2.1, bt374.2.2.1, bt374.2.2.2.1, bt374.2.2.2.2, 2)) else ((cambiumref03_Cut.f k a2).bind fun t383 => ((cambiumref03_put.f k bt374.2.1 a1 t383).bind fun t384 => (some (bt374.1, t384, bt374.2.2.1, bt374.2.2.2.1, bt374.2.2.2.2, 0))))))) else (some (0, ([] : List (S39)), ([] : List (S39)), false, 0, 7)))
theorem cambiumref03_Spoil.mono : ∀ a0 a1 a2 a3 a4 a5 a6 k, LeO (cambiumref03_Spoil.f k a0 a1 a2 a3 a4 a5 a6) (cambiumref03_Spoil.f (k + 1) a0 a1 a2 a3 a4 a5 a6) := by
  intro a0 a1 a2 a3 a4 a5 a6 k
  unfold cambiumref03_Spoil.f
  repeat' first
      | (with_reducible exact cambiumref03_Check.mono _ _ _ _ _ _)
      | (with_reducible exact cambiumref03_Cut.mono _ _)
      | (with_reducible exact cambiumref03_put.mono _ _ _ _)
      | (with_reducible exact LeO.refl _)
      | (with_reducible exact LeO.none _)
      | (with_reducible refine LeO.ite ?_ ?_)
      | (with_reducible refine LeO.bind ?_ (fun _ => ?_))
      | exact cambiumref03_Check.mono _ _ _ _ _ _
      | exact cambiumref03_Cut.mono _ _
      | exact cambiumref03_put.mono _ _ _ _
      | exact LeO.none _
      | refine LeO.ite ?_ ?_
      | refine LeO.bind ?_ (fun _ => ?_)
def cambiumref03_Spoil.T8 : Bool × List (List Nat × List Nat) := (true, [([], []), ([0], [0]), ([], []), ([], []), ([3], [3]), ([2, 4], [2, 4]), ([1, 5, 4], [1, 5]), ([0, 1, 2, 3, 4, 5, 6], []), ([7, 6, 6, 0, 1, 2, 3, 4, 5, 6], [6, 7])])
def cambiumref03_Spoil.B8 : List Nat := [0, 1, 0, 0, 8, 28, 63, 127, 255]
theorem cambiumref03_Spoil.tab8 : rtab .any (opsOf Tryd.f27 8) = cambiumref03_Spoil.T8 := by kernel_rfl
theorem cambiumref03_Spoil.bits8 : waitsOk cambiumref03_Spoil.T8.2 cambiumref03_Spoil.B8 = true := by kernel_rfl
set_option maxHeartbeats 8000000 in
set_option maxRecDepth 100000 in
theorem cambiumref03_Spoil.calls (k : Nat) (a0_0 : Int) (A0_1 : Option Addr) (c0_1 : Nat) (l0_1 : List (S39)) (A0_2 : Option Addr) (c0_2 : Nat) (l0_2 : List (S39)) (a0_3 : Bool) (a0_4 : Int) (a1 : Int) (a2 : ByteArray) (r1 : Int) (r2 : List (S39)) (r3 : List (S39)) (r4 : Bool) (r5 : Int) (r6 : Int) (w : World) (hr0_1 : Kd.C k39 w A0_1 l0_1.length l0_1) (hc0_1 : l0_1.length ≤ c0_1) (hr0_2 : Kd.C k39 w A0_2 l0_2.length l0_2) (hc0_2 : l0_2.length ≤ c0_2) (h : cambiumref03_Spoil.f k a0_0 l0_1 l0_2 a0_3 a0_4 a1 a2 = some (r1, r2, r3, r4, r5, r6)) :
    Calls Tryd.prog 27 #[.agg #[.int .u32 a0_0, .slice A0_1 l0_1.length c0_1, .slice A0_2 l0_2.length c0_2, .bool a0_3, .int .i64 a0_4], .int .u32 a1, .string a2] w fun e w' => ∃ v1_ v2_ : Value, e = .returned (.tuple #[.agg #[.int .u32 r1, v1_, v2_, .bool r4, .int .i64 r5], .int .i64 r6]) ∧ Kd.R k39 39 w' w.heap.size (fun k_ => some k_ ≠ (v2_ : Value).ownBlock) v1_ r2 ∧ Kd.R k39 39 w' w.heap.size (fun k_ => some k_ ≠ (v1_ : Value).ownBlock) v2_ r3 ∧ Below w.heap.size w w' := by
  have hu25 := Tryd.underlying25
  have hu39 := Tryd.underlying39
  have HR0_1 := Aside0.mk hr0_1
  have HC0_1 := Aside0.mk hc0_1
  clear hr0_1 hc0_1
  have HR0_2 := Aside0.mk hr0_2
  have HC0_2 := Aside0.mk hc0_2
  clear hr0_2 hc0_2
  have HB := Aside0.mk (Below.refl w.heap.size w)
  have H : ((cambiumref03_Check.f k a0_0 l0_1 l0_2 a0_3 a0_4).bind fun t373 => (if t373 = 0 then ((cambiumref03_Copy.f a0_0 l0_1 l0_2 a0_3 a0_4).bind fun bt374 => (if a1 ≥ bt374.1 then (some (bt374.1, bt374.2.1, bt374.2.2.1, bt374.2.2.2.1, bt374.2.2.2.2, 1)) else (if (a2.size : Int) > 512 then (some (bt374.1, bt374.2.1, bt374.2.2.1, bt374.2.2.2.1, bt374.2.2.2.2, 2)) else ((cambiumref03_Cut.f k a2).bind fun t383 => ((cambiumref03_put.f k bt374.2.1 a1 t383).bind fun t384 => (some (bt374.1, t384, bt374.2.2.1, bt374.2.2.2.1, bt374.2.2.2.2, 0))))))) else (some (0, ([] : List (S39)), ([] : List (S39)), false, 0, 7)))) = some (r1, r2, r3, r4, r5, r6) := h
  clear h
  replace H := Option.bind_eq_some_iff.mp H
  obtain ⟨t373, A40, H⟩ := H
  replace H : (if t373 = 0 then ((cambiumref03_Copy.f a0_0 l0_1 l0_2 a0_3 a0_4).bind fun bt374 => (if a1 ≥ bt374.1 then (some (bt374.1, bt374.2.1, bt374.2.2.1, bt374.2.2.2.1, bt374.2.2.2.2, 1)) else (if (a2.size : Int) > 512 then (some (bt374.1, bt374.2.1, bt374.2.2.1, bt374.2.2.2.1, bt374.2.2.2.2, 2)) else ((cambiumref03_Cut.f k a2).bind fun t383 => ((cambiumref03_put.f k bt374.2.1 a1 t383).bind fun t384 => (some (bt374.1, t384, bt374.2.2.1, bt374.2.2.2.1, bt374.2.2.2.2, 0))))))) else (some (0, ([] : List (S39)), ([] : List (S39)), false, 0, 7))) = some (r1, r2, r3, r4, r5, r6) := H
  have A4 := Aside0.mk A40
  clear A40
  by_cases c5 : t373 = 0
  · rw [if_pos c5] at H
    have c5b0 : (t373 == 0) = true := beq_iff_eq.mpr c5
    have c5b1 : (t373 != 0) = false := bne_eq_false_iff_eq.mpr c5
    clear c5
    replace H := Option.bind_eq_some_iff.mp H
    obtain ⟨⟨t374, t375, t378, t381, t382⟩, A60, H⟩ := H
    replace H : (if a1 ≥ t374 then (some (t374, t375, t378, t381, t382, 1)) else (if (a2.size : Int) > 512 then (some (t374, t375, t378, t381, t382, 2)) else ((cambiumref03_Cut.f k a2).bind fun t383 => ((cambiumref03_put.f k t375 a1 t383).bind fun t384 => (some (t374, t384, t378, t381, t382, 0)))))) = some (r1, r2, r3, r4, r5, r6) := H
    have A6 := Aside0.mk A60
    clear A60
    by_cases c7 : a1 ≥ t374
    · rw [if_pos c7] at H
      have c7b0 : decide (t374 ≤ a1) = true := decide_eq_true c7
      clear c7
      simp only [Option.some.injEq, Prod.mk.injEq] at H
      obtain ⟨rfl, rfl, rfl, rfl, rfl, rfl⟩ := H
      go_enter Tryd.func27, Tryd.ntmps27
      go_wp2_with (first | ((with_reducible refine gate_dst (N := 3) rfl ?_); refine bx_ (N := 3) (cs := #[.int .u32 a0_0, .slice A0_1 l0_1.length c0_1, .slice A0_2 l0_2.length c0_2, .bool a0_3, .int .i64 a0_4]) (t := 25) ?_; intro gb371 hg w8 hbox hb; have BK371 := Aside0.mk (hbox); have GW371 := ge_ hg; have GE371 := ge_ hg; replace HB := hb_ hb; clear hb hbox hg) | ((with_reducible refine gate_dst (N := 6) rfl ?_); refine bx_ (N := 6) (cs := #[.int .u32 0, .slice none 0 0, .slice none 0 0, .bool false, .int .i64 0]) (t := 25) ?_; intro gb372 hg w9 hbox hb; have BK372 := Aside0.mk (hbox); have GW372 := ge_ hg; have GE372 := ge_ hg; have NB371_372 := nl_ BK371 hg; have NB372_371 := ng_ BK371 hg; replace BK371 := kb_ BK371 hb; replace HB := hb_ hb; clear hb hbox hg; have hnb10 := NB371_372.out; have hnc10 := NB372_371.out; obtain ⟨hcz11_0, hcz11_1, hcz11_2, hcz11_3, hcz11_4⟩ := cl5_ BK371; obtain ⟨hfz11_0, hfz11_1, hfz11_2, hfz11_3, hfz11_4⟩ := fz5_ BK371) | ((with_reducible refine gate_callee (f := 22) rfl ?_); refine gl_ (some 9) Tryd.func22 #[.agg #[.int .u32 a0_0, .slice A0_1 l0_1.length c0_1, .slice A0_2 l0_2.length c0_2, .bool a0_3, .int .i64 a0_4]] ?_; (with_reducible refine (cambiumref03_Check.calls k a0_0 _ _ l0_1 _ _ l0_2 a0_3 a0_4 t373 _ ?side1 ?side2 ?side3 ?side4 A4.out).mono ?_); (case side1 => exact cb_ HR0_1); (case side2 => exact HC0_1.out); (case side3 => exact cb_ HR0_2); (case side4 => exact HC0_2.out); rintro e w12 ⟨rfl, hb⟩; refine ⟨_, rfl, ?_⟩; replace BK371 := kb_ BK371 hb; replace BK372 := kb_ BK372 hb; replace HB := hb_ hb; (try clear hb); (try clear hb2); (try clear hk); (try clear hi); obtain ⟨hcz13_0, hcz13_1, hcz13_2, hcz13_3, hcz13_4⟩ := cl5_ BK371; obtain ⟨hfz13_0, hfz13_1, hfz13_2, hfz13_3, hfz13_4⟩ := fz5_ BK371) | ((with_reducible refine gate_callee (f := 12) rfl ?_); refine gl_ (some 13) Tryd.func12 #[.agg #[.int .u32 a0_0, .slice A0_1 l0_1.length c0_1, .slice A0_2 l0_2.length c0_2, .bool a0_3, .int .i64 a0_4]] ?_; (with_reducible refine (cambiumref03_Copy.calls a0_0 _ _ l0_1 _ _ l0_2 a0_3 a0_4 t374 t375 t378 t381 t382 _ ?side1 ?side2 ?side3 ?side4 A6.out).mono ?_); (case side1 => exact cb_ HR0_1); (case side2 => exact HC0_1.out); (case side3 => exact cb_ HR0_2); (case side4 => exact HC0_2.out); rintro e w14 ⟨v376, v379, rfl, ho0, ho1, hb⟩; refine ⟨_, rfl, ?_⟩; have HO377 := rl_ ho0; have HO380 := rl_ ho1; replace BK371 := kb_ BK371 hb; replace BK372 := kb_ BK372 hb; replace HB := hb_ hb; (try clear hb); (try clear hb2); (try clear hk); (try clear hi); (try clear ho0); (try clear ho1); obtain ⟨hcz15_0, hcz15_1, hcz15_2, hcz15_3, hcz15_4⟩ := cl5_ BK371; obtain ⟨hfz15_0, hfz15_1, hfz15_2, hfz15_3, hfz15_4⟩ := fz5_ BK371; obtain ⟨Ao16, co16, eo16⟩ := Kd.R_slice HO377.out; subst eo16; obtain ⟨Ao17, co17, eo17⟩ := Kd.R_slice HO380.out; subst eo17; obtain ⟨hcz18_0, hcz18_1, hcz18_2, hcz18_3, hcz18_4⟩ := cl5_ BK372; obtain ⟨hfz18_0, hfz18_1, hfz18_2, hfz18_3, hfz18_4⟩ := fz5_ BK372))
      refine bodyPost_ret (results_ct rfl _ _ gb372 25 #[.int .u32 t374, .slice Ao16 t375.length co16, .slice Ao17 t378.length co17, .bool t381, .int .i64 t382] (0, 0) _ rfl (bs_) Tryd.underlying25 rfl (by kernel_rfl)) rfl ?_
      exact ⟨_, _, by first | rfl | (simp [errW_none, errW_some] <;> rfl) | (simp [*, errW_none, errW_some] <;> rfl), rw_ HO377, rw_ HO380, bel_⟩
    rw [if_neg c7] at H
    have c7b0 : decide (t374 ≤ a1) = false := decide_eq_false c7
    clear c7
    by_cases c19 : (a2.size : Int) > 512
    · rw [if_pos c19] at H
      have c19b0 : decide (512 < (a2.size : Int)) = true := decide_eq_true c19
      have c19b1 : decide (512 < a2.size) = true := decide_eq_true (by omega)
      clear c19
      simp only [Option.some.injEq, Prod.mk.injEq] at H
      obtain ⟨rfl, rfl, rfl, rfl, rfl, rfl⟩ := H
      go_enter Tryd.func27, Tryd.ntmps27
      go_wp2_with (first | ((with_reducible refine gate_dst (N := 3) rfl ?_); refine bx_ (N := 3) (cs := #[.int .u32 a0_0, .slice A0_1 l0_1.length c0_1, .slice A0_2 l0_2.length c0_2, .bool a0_3, .int .i64 a0_4]) (t := 25) ?_; intro gb371 hg w20 hbox hb; have BK371 := Aside0.mk (hbox); have GW371 := ge_ hg; have GE371 := ge_ hg; replace HB := hb_ hb; clear hb hbox hg) | ((with_reducible refine gate_dst (N := 6) rfl ?_); refine bx_ (N := 6) (cs := #[.int .u32 0, .slice none 0 0, .slice none 0 0, .bool false, .int .i64 0]) (t := 25) ?_; intro gb372 hg w21 hbox hb; have BK372 := Aside0.mk (hbox); have GW372 := ge_ hg; have GE372 := ge_ hg; have NB371_372 := nl_ BK371 hg; have NB372_371 := ng_ BK371 hg; replace BK371 := kb_ BK371 hb; replace HB := hb_ hb; clear hb hbox hg; have hnb22 := NB371_372.out; have hnc22 := NB372_371.out; obtain ⟨hcz23_0, hcz23_1, hcz23_2, hcz23_3, hcz23_4⟩ := cl5_ BK371; obtain ⟨hfz23_0, hfz23_1, hfz23_2, hfz23_3, hfz23_4⟩ := fz5_ BK371) | ((with_reducible refine gate_callee (f := 22) rfl ?_); refine gl_ (some 9) Tryd.func22 #[.agg #[.int .u32 a0_0, .slice A0_1 l0_1.length c0_1, .slice A0_2 l0_2.length c0_2, .bool a0_3, .int .i64 a0_4]] ?_; (with_reducible refine (cambiumref03_Check.calls k a0_0 _ _ l0_1 _ _ l0_2 a0_3 a0_4 t373 _ ?side1 ?side2 ?side3 ?side4 A4.out).mono ?_); (case side1 => exact cb_ HR0_1); (case side2 => exact HC0_1.out); (case side3 => exact cb_ HR0_2); (case side4 => exact HC0_2.out); rintro e w24 ⟨rfl, hb⟩; refine ⟨_, rfl, ?_⟩; replace BK371 := kb_ BK371 hb; replace BK372 := kb_ BK372 hb; replace HB := hb_ hb; (try clear hb); (try clear hb2); (try clear hk); (try clear hi); obtain ⟨hcz25_0, hcz25_1, hcz25_2, hcz25_3, hcz25_4⟩ := cl5_ BK371; obtain ⟨hfz25_0, hfz25_1, hfz25_2, hfz25_3, hfz25_4⟩ := fz5_ BK371) | ((with_reducible refine gate_callee (f := 12) rfl ?_); refine gl_ (some 13) Tryd.func12 #[.agg #[.int .u32 a0_0, .slice A0_1 l0_1.length c0_1, .slice A0_2 l0_2.length c0_2, .bool a0_3, .int .i64 a0_4]] ?_; (with_reducible refine (cambiumref03_Copy.calls a0_0 _ _ l0_1 _ _ l0_2 a0_3 a0_4 t374 t375 t378 t381 t382 _ ?side1 ?side2 ?side3 ?side4 A6.out).mono ?_); (case side1 => exact cb_ HR0_1); (case side2 => exact HC0_1.out); (case side3 => exact cb_ HR0_2); (case side4 => exact HC0_2.out); rintro e w26 ⟨v376, v379, rfl, ho0, ho1, hb⟩; refine ⟨_, rfl, ?_⟩; have HO377 := rl_ ho0; have HO380 := rl_ ho1; replace BK371 := kb_ BK371 hb; replace BK372 := kb_ BK372 hb; replace HB := hb_ hb; (try clear hb); (try clear hb2); (try clear hk); (try clear hi); (try clear ho0); (try clear ho1); obtain ⟨hcz27_0, hcz27_1, hcz27_2, hcz27_3, hcz27_4⟩ := cl5_ BK371; obtain ⟨hfz27_0, hfz27_1, hfz27_2, hfz27_3, hfz27_4⟩ := fz5_ BK371; obtain ⟨Ao28, co28, eo28⟩ := Kd.R_slice HO377.out; subst eo28; obtain ⟨Ao29, co29, eo29⟩ := Kd.R_slice HO380.out; subst eo29; obtain ⟨hcz30_0, hcz30_1, hcz30_2, hcz30_3, hcz30_4⟩ := cl5_ BK372; obtain ⟨hfz30_0, hfz30_1, hfz30_2, hfz30_3, hfz30_4⟩ := fz5_ BK372))
      refine bodyPost_ret (results_ct rfl _ _ gb372 25 #[.int .u32 t374, .slice Ao28 t375.length co28, .slice Ao29 t378.length co29, .bool t381, .int .i64 t382] (0, 0) _ rfl (bs_) Tryd.underlying25 rfl (by kernel_rfl)) rfl ?_
      exact ⟨_, _, by first | rfl | (simp [errW_none, errW_some] <;> rfl) | (simp [*, errW_none, errW_some] <;> rfl), rw_ HO377, rw_ HO380, bel_⟩
    rw [if_neg c19] at H
    have c19b0 : decide (512 < (a2.size : Int)) = false := decide_eq_false c19
    have c19b1 : decide (512 < a2.size) = false := decide_eq_false (by omega)
    clear c19
    replace H := Option.bind_eq_some_iff.mp H
    obtain ⟨t383, A310, H⟩ := H
    replace H : ((cambiumref03_put.f k t375 a1 t383).bind fun t384 => (some (t374, t384, t378, t381, t382, 0))) = some (r1, r2, r3, r4, r5, r6) := H
    have A31 := Aside0.mk A310
    clear A310
    replace H := Option.bind_eq_some_iff.mp H
    obtain ⟨t384, A320, H⟩ := H
    replace H : (some (t374, t384, t378, t381, t382, 0)) = some (r1, r2, r3, r4, r5, r6) := H
    have A32 := Aside0.mk A320
    clear A320
    simp only [Option.some.injEq, Prod.mk.injEq] at H
    obtain ⟨rfl, rfl, rfl, rfl, rfl, rfl⟩ := H
    go_enter Tryd.func27, Tryd.ntmps27
    try go_wp2_with (first | ((with_reducible refine gate_dst (N := 3) rfl ?_); refine bx_ (N := 3) (cs := #[.int .u32 a0_0, .slice A0_1 l0_1.length c0_1, .slice A0_2 l0_2.length c0_2, .bool a0_3, .int .i64 a0_4]) (t := 25) ?_; intro gb371 hg w33 hbox hb; have BK371 := Aside0.mk (hbox); have GW371 := ge_ hg; have GE371 := ge_ hg; replace HB := hb_ hb; clear hb hbox hg) | ((with_reducible refine gate_dst (N := 6) rfl ?_); refine bx_ (N := 6) (cs := #[.int .u32 0, .slice none 0 0, .slice none 0 0, .bool false, .int .i64 0]) (t := 25) ?_; intro gb372 hg w34 hbox hb; have BK372 := Aside0.mk (hbox); have GW372 := ge_ hg; have GE372 := ge_ hg; have NB371_372 := nl_ BK371 hg; have NB372_371 := ng_ BK371 hg; replace BK371 := kb_ BK371 hb; replace HB := hb_ hb; clear hb hbox hg; have hnb35 := NB371_372.out; have hnc35 := NB372_371.out; obtain ⟨hcz36_0, hcz36_1, hcz36_2, hcz36_3, hcz36_4⟩ := cl5_ BK371; obtain ⟨hfz36_0, hfz36_1, hfz36_2, hfz36_3, hfz36_4⟩ := fz5_ BK371) | ((with_reducible refine gate_callee (f := 22) rfl ?_); refine gl_ (some 9) Tryd.func22 #[.agg #[.int .u32 a0_0, .slice A0_1 l0_1.length c0_1, .slice A0_2 l0_2.length c0_2, .bool a0_3, .int .i64 a0_4]] ?_; (with_reducible refine (cambiumref03_Check.calls k a0_0 _ _ l0_1 _ _ l0_2 a0_3 a0_4 t373 _ ?side1 ?side2 ?side3 ?side4 A4.out).mono ?_); (case side1 => exact cb_ HR0_1); (case side2 => exact HC0_1.out); (case side3 => exact cb_ HR0_2); (case side4 => exact HC0_2.out); rintro e w37 ⟨rfl, hb⟩; refine ⟨_, rfl, ?_⟩; replace BK371 := kb_ BK371 hb; replace BK372 := kb_ BK372 hb; replace HB := hb_ hb; (try clear hb); (try clear hb2); (try clear hk); (try clear hi); obtain ⟨hcz38_0, hcz38_1, hcz38_2, hcz38_3, hcz38_4⟩ := cl5_ BK371; obtain ⟨hfz38_0, hfz38_1, hfz38_2, hfz38_3, hfz38_4⟩ := fz5_ BK371) | ((with_reducible refine gate_callee (f := 12) rfl ?_); refine gl_ (some 13) Tryd.func12 #[.agg #[.int .u32 a0_0, .slice A0_1 l0_1.length c0_1, .slice A0_2 l0_2.length c0_2, .bool a0_3, .int .i64 a0_4]] ?_; (with_reducible refine (cambiumref03_Copy.calls a0_0 _ _ l0_1 _ _ l0_2 a0_3 a0_4 t374 t375 t378 t381 t382 _ ?side1 ?side2 ?side3 ?side4 A6.out).mono ?_); (case side1 => exact cb_ HR0_1); (case side2 => exact HC0_1.out); (case side3 => exact cb_ HR0_2); (case side4 => exact HC0_2.out); rintro e w39 ⟨v376, v379, rfl, ho0, ho1, hb⟩; refine ⟨_, rfl, ?_⟩; have HO377 := rl_ ho0; have HO380 := rl_ ho1; replace BK371 := kb_ BK371 hb; replace BK372 := kb_ BK372 hb; replace HB := hb_ hb; (try clear hb); (try clear hb2); (try clear hk); (try clear hi); (try clear ho0); (try clear ho1); obtain ⟨hcz40_0, hcz40_1, hcz40_2, hcz40_3, hcz40_4⟩ := cl5_ BK371; obtain ⟨hfz40_0, hfz40_1, hfz40_2, hfz40_3, hfz40_4⟩ := fz5_ BK371; obtain ⟨Ao41, co41, eo41⟩ := Kd.R_slice HO377.out; subst eo41; obtain ⟨Ao42, co42, eo42⟩ := Kd.R_slice HO380.out; subst eo42))
    have n0_ : Aside0 (Kd.R k39 39 (((((w39.setCell ⟨gb371, 0, none⟩ (.int .u32 t374)).setCell ⟨gb371, 1, none⟩ (.slice Ao41 t375.length co41)).setCell ⟨gb371, 2, none⟩ (.slice Ao42 t378.length co42)).setCell ⟨gb371, 3, none⟩ (.bool t381)).setCell ⟨gb371, 4, none⟩ (.int .i64 t382)) w.heap.size (fun k_ => some k_ ≠ (.slice Ao42 t378.length co42 : Value).ownBlock) (.slice Ao41 t375.length co41) t375) := ⟨rw_ HO377⟩
    have n1_ : Aside0 (Kd.R k39 39 (((((w39.setCell ⟨gb371, 0, none⟩ (.int .u32 t374)).setCell ⟨gb371, 1, none⟩ (.slice Ao41 t375.length co41)).setCell ⟨gb371, 2, none⟩ (.slice Ao42 t378.length co42)).setCell ⟨gb371, 3, none⟩ (.bool t381)).setCell ⟨gb371, 4, none⟩ (.int .i64 t382)) w.heap.size (fun k_ => some k_ ≠ (.slice Ao41 t375.length co41 : Value).ownBlock) (.slice Ao42 t378.length co42) t378) := ⟨rw_ HO380⟩
    have n2_ : Aside0 ((((((w39.setCell ⟨gb371, 0, none⟩ (.int .u32 t374)).setCell ⟨gb371, 1, none⟩ (.slice Ao41 t375.length co41)).setCell ⟨gb371, 2, none⟩ (.slice Ao42 t378.length co42)).setCell ⟨gb371, 3, none⟩ (.bool t381)).setCell ⟨gb371, 4, none⟩ (.int .i64 t382)).heap[gb371]? = some (.cells #[.int .u32 t374, .slice Ao41 t375.length co41, .slice Ao42 t378.length co42, .bool t381, .int .i64 t382] 25 (0, 0))) := ⟨bs_⟩
    have n3_ : Aside0 ((((((w39.setCell ⟨gb371, 0, none⟩ (.int .u32 t374)).setCell ⟨gb371, 1, none⟩ (.slice Ao41 t375.length co41)).setCell ⟨gb371, 2, none⟩ (.slice Ao42 t378.length co42)).setCell ⟨gb371, 3, none⟩ (.bool t381)).setCell ⟨gb371, 4, none⟩ (.int .i64 t382)).heap[gb372]? = some (.cells #[.int .u32 0, .slice none 0 0, .slice none 0 0, .bool false, .int .i64 0] 25 (0, 0))) := ⟨bs_⟩
    have n4_ : Aside0 (Below w.heap.size w (((((w39.setCell ⟨gb371, 0, none⟩ (.int .u32 t374)).setCell ⟨gb371, 1, none⟩ (.slice Ao41 t375.length co41)).setCell ⟨gb371, 2, none⟩ (.slice Ao42 t378.length co42)).setCell ⟨gb371, 3, none⟩ (.bool t381)).setCell ⟨gb371, 4, none⟩ (.int .i64 t382))) := ⟨bel_⟩
    (try clear HO377)
    (try clear HO380)
    (try clear BK371)
    (try clear BK372)
    (try clear HB)
    generalize (((((w39.setCell ⟨gb371, 0, none⟩ (.int .u32 t374)).setCell ⟨gb371, 1, none⟩ (.slice Ao41 t375.length co41)).setCell ⟨gb371, 2, none⟩ (.slice Ao42 t378.length co42)).setCell ⟨gb371, 3, none⟩ (.bool t381)).setCell ⟨gb371, 4, none⟩ (.int .i64 t382)) = w43 at n0_ n1_ n2_ n3_ n4_ ⊢
    have HO377 := n0_
    have HO380 := n1_
    have BK371 := n2_
    have BK372 := n3_
    have HB := n4_
    clear n0_ n1_ n2_ n3_ n4_
    replace HO377 := Aside0.mk (Kd.R_drew HO377.out)
    replace HO380 := Aside0.mk (Kd.R_drew HO380.out)
    replace BK371 := Aside0.mk (blk_drew BK371.out)
    replace BK372 := Aside0.mk (blk_drew BK372.out)
    replace HB := Aside0.mk (below_drew1 HB.out)
    refine start_ (n := 9) (S := fun w' => w'.cell? ⟨gb371, 0, none⟩ = some (.int .u32 t374) ∧ w'.cell? ⟨gb371, 1, none⟩ = some (.slice Ao41 t375.length co41) ∧ w'.cell? ⟨gb371, 2, none⟩ = some (.slice Ao42 t378.length co42) ∧ w'.cell? ⟨gb371, 3, none⟩ = some (.bool t381) ∧ w'.cell? ⟨gb371, 4, none⟩ = some (.int .i64 t382)) (ds := [8]) #[false, false, false, false, false, false, false, false, false] (by kernel_rfl) rfl rfl hc_ (fun hHeld => ?_); refine with_tabW cambiumref03_Spoil.tab8 cambiumref03_Spoil.bits8 (fun HT_ HW_ => ?_)
    generalize w43.drew = w44 at HO377 HO380 BK371 BK372 HB hHeld ⊢
    refine pu_ 0 23 ?_
    refine pu_ 2 25 ?_
    refine pu_ 3 26 ?_
    refine tk5_ 1 24 ?_
    refine on_ 4 27 (fun K hK => ?_)
    refine goes_ Tryd.func24 (by kernel_rfl) rfl #[.string a2] (by rfl) rfl rfl (by (try simp only [List.map_toArray, List.map_cons, List.map_nil]); first | done | rfl | (simp only [List.length_drop, List.length_take]; rfl)) ?_
    with_reducible refine (cambiumref03_Cut.calls k a2 t383 _ A31.out).mono ?_
    rintro e w' ⟨rfl, ⟨nd, rfl⟩⟩
    refine ⟨_, rfl, ?_⟩
    refine hK.out _ _ hc_ (fun hHeld => ?_)
    clear hK K
    refine nm_ 27 ?_
    refine pu_ 5 28 ?_
    refine on_ 6 29 (fun K hK => ?_)
    refine goes_ Tryd.func32 (by kernel_rfl) rfl #[.slice Ao41 t375.length co41, .agg #[.int .u32 a1, .string t383]] (by rfl) rfl rfl (by (try simp only [List.map_toArray, List.map_cons, List.map_nil]); first | done | rfl | (simp only [List.length_drop, List.length_take]; rfl)) ?_
    with_reducible refine (cambiumref03_put.calls k _ _ t375 a1 t383 t384 _ ?side1 ?side2 A32.out).mono ?_
    (case side1 => exact cr_ HO377)
    (case side2 => exact (Kd.R_reads' HO377.out).2.1)
    rintro e w45 ⟨v385, rfl, ho0, hb⟩
    refine ⟨_, rfl, ?_⟩
    have HO386 := Aside0.mk (Kd.R_lower (Kd.R_new' (Kd.R_new' ho0 (Kd.R_lt (ra_ HO377))) (Kd.R_lt (ra_ HO380))) (below_size bel_))
    replace HO377 := Aside0.mk (Kd.R_elder' (ra_ HO377) (Kd.R_base ho0) hb)
    replace HO380 := Aside0.mk (Kd.R_elder' (ra_ HO380) (Kd.R_base ho0) hb)
    replace BK371 := kb_ BK371 hb
    replace BK372 := kb_ BK372 hb
    replace HB := hb_ hb
    (try clear hb)
    (try clear hb2)
    (try clear hk)
    (try clear hi)
    (try clear ho0)
    obtain ⟨Ao46, co46, eo46⟩ := Kd.R_slice HO386.out
    (first | subst eo46 | (injection eo46 with f1_ f2_ f3_; have f4_ := f1_.symm; have f5_ := f3_.symm; clear f1_ f2_ f3_; subst f4_; subst f5_))
    refine hK.out _ _ hc_ (fun hHeld => ?_)
    clear hK K
    refine nm_ 29 ?_
    refine pu_ 7 30 ?_
    refine last_ (i := 8) (N := none) #[true, true, true, true, true, true, true, true, true] rfl rfl (one_of HT_.out (by kernel_rfl)) (by decide) (fun K hK => ?_)
    have hs47 : w45.cell? ⟨gb371, 1, none⟩ = some (.slice Ao41 t375.length co41) := (blk_cell BK371.out 1).trans rfl
    have hfs47 := blk_frozen BK371.out 1
    have hns47_1 := NB372_371.out
    have hms47_1 := NB371_372.out
    refine skip_ (w1 := ?_) (by rfl) rfl ?_ ?_
    rotate_left
    · go_simp
      rfl
    refine hK.out _ _ ?_
    clear hK K
    refine done_ (done_of HT_.out (by kernel_rfl)) ?_
    obtain ⟨hcz48_0, hcz48_1, hcz48_2, hcz48_3, hcz48_4⟩ := cl5_ BK371
    obtain ⟨hfz48_0, hfz48_1, hfz48_2, hfz48_3, hfz48_4⟩ := fz5_ BK371
    obtain ⟨hcz49_0, hcz49_1, hcz49_2, hcz49_3, hcz49_4⟩ := cl5_ BK372
    obtain ⟨hfz49_0, hfz49_1, hfz49_2, hfz49_3, hfz49_4⟩ := fz5_ BK372
    try go_wp2
    refine bodyPost_ret (results_ct rfl _ _ gb372 25 #[.int .u32 t374, .slice Ao46 t384.length co46, .slice Ao42 t378.length co42, .bool t381, .int .i64 t382] (0, 0) _ rfl (bs_) Tryd.underlying25 rfl (by kernel_rfl)) rfl ?_
    exact ⟨_, _, by first | rfl | (simp [errW_none, errW_some] <;> rfl) | (simp [*, errW_none, errW_some] <;> rfl), by (with_reducible repeat (first | apply Kd.R_alloc | apply Kd.R_drewN | apply Kd.R_drew)); exact Kd.R_mono (Kd.R_far (p := ⟨gb372, 4, none⟩) (Kd.R_far (p := ⟨gb372, 3, none⟩) (Kd.R_far (p := ⟨gb372, 2, none⟩) (Kd.R_far (p := ⟨gb372, 1, none⟩) (Kd.R_far (p := ⟨gb372, 0, none⟩) (Kd.R_far (p := ⟨gb371, 1, none⟩) (Kd.R_types (Kd.R_types HO386.out BK371.out (by decide)) BK372.out (by decide)) (fun _ hk => hk.1.2) (.slice Ao46 t384.length co46)) (fun _ hk => hk.2) (.int .u32 t374)) (fun _ hk => hk.2) (.slice Ao46 t384.length co46)) (fun _ hk => hk.2) (.slice Ao42 t378.length co42)) (fun _ hk => hk.2) (.bool t381)) (fun _ hk => hk.2) (.int .i64 t382)) (fun _ hk => hk.1.1.2), by (with_reducible repeat (first | apply Kd.R_alloc | apply Kd.R_drewN | apply Kd.R_drew)); exact Kd.R_mono (Kd.R_far (p := ⟨gb372, 4, none⟩) (Kd.R_far (p := ⟨gb372, 3, none⟩) (Kd.R_far (p := ⟨gb372, 2, none⟩) (Kd.R_far (p := ⟨gb372, 1, none⟩) (Kd.R_far (p := ⟨gb372, 0, none⟩) (Kd.R_far (p := ⟨gb371, 1, none⟩) (Kd.R_types (Kd.R_types HO380.out BK371.out (by decide)) BK372.out (by decide)) (fun _ hk => hk.1.2) (.slice Ao46 t384.length co46)) (fun _ hk => hk.2) (.int .u32 t374)) (fun _ hk => hk.2) (.slice Ao46 t384.length co46)) (fun _ hk => hk.2) (.slice Ao42 t378.length co42)) (fun _ hk => hk.2) (.bool t381)) (fun _ hk => hk.2) (.int .i64 t382)) (fun _ hk => hk.1.1.2), bel_⟩
  rw [if_neg c5] at H
  have c5b0 : (t373 == 0) = false := beq_eq_false_iff_ne.mpr c5
  have c5b1 : (t373 != 0) = true := bne_iff_ne.mpr c5
  simp only [Option.some.injEq, Prod.mk.injEq] at H
  obtain ⟨rfl, rfl, rfl, rfl, rfl, rfl⟩ := H
  go_enter Tryd.func27, Tryd.ntmps27
  go_wp2_with (first | ((with_reducible refine gate_dst (N := 3) rfl ?_); refine bx_ (N := 3) (cs := #[.int .u32 a0_0, .slice A0_1 l0_1.length c0_1, .slice A0_2 l0_2.length c0_2, .bool a0_3, .int .i64 a0_4]) (t := 25) ?_; intro gb371 hg w50 hbox hb; have BK371 := Aside0.mk (hbox); have GW371 := ge_ hg; have GE371 := ge_ hg; replace HB := hb_ hb; clear hb hbox hg) | ((with_reducible refine gate_dst (N := 6) rfl ?_); refine bx_ (N := 6) (cs := #[.int .u32 0, .slice none 0 0, .slice none 0 0, .bool false, .int .i64 0]) (t := 25) ?_; intro gb372 hg w51 hbox hb; have BK372 := Aside0.mk (hbox); have GW372 := ge_ hg; have GE372 := ge_ hg; have NB371_372 := nl_ BK371 hg; have NB372_371 := ng_ BK371 hg; replace BK371 := kb_ BK371 hb; replace HB := hb_ hb; clear hb hbox hg; have hnb52 := NB371_372.out; have hnc52 := NB372_371.out; obtain ⟨hcz53_0, hcz53_1, hcz53_2, hcz53_3, hcz53_4⟩ := cl5_ BK371; obtain ⟨hfz53_0, hfz53_1, hfz53_2, hfz53_3, hfz53_4⟩ := fz5_ BK371) | ((with_reducible refine gate_callee (f := 22) rfl ?_); refine gl_ (some 9) Tryd.func22 #[.agg #[.int .u32 a0_0, .slice A0_1 l0_1.length c0_1, .slice A0_2 l0_2.length c0_2, .bool a0_3, .int .i64 a0_4]] ?_; (with_reducible refine (cambiumref03_Check.calls k a0_0 _ _ l0_1 _ _ l0_2 a0_3 a0_4 t373 _ ?side1 ?side2 ?side3 ?side4 A4.out).mono ?_); (case side1 => exact cb_ HR0_1); (case side2 => exact HC0_1.out); (case side3 => exact cb_ HR0_2); (case side4 => exact HC0_2.out); rintro e w54 ⟨rfl, hb⟩; refine ⟨_, rfl, ?_⟩; replace BK371 := kb_ BK371 hb; replace BK372 := kb_ BK372 hb; replace HB := hb_ hb; (try clear hb); (try clear hb2); (try clear hk); (try clear hi); obtain ⟨hcz55_0, hcz55_1, hcz55_2, hcz55_3, hcz55_4⟩ := cl5_ BK372; obtain ⟨hfz55_0, hfz55_1, hfz55_2, hfz55_3, hfz55_4⟩ := fz5_ BK372))
  refine bodyPost_ret (results_ct rfl _ _ gb372 25 #[.int .u32 0, .slice none 0 0, .slice none 0 0, .bool false, .int .i64 0] (0, 0) _ rfl (bs_) Tryd.underlying25 rfl (by kernel_rfl)) rfl ?_
  exact ⟨_, _, by first | rfl | (simp [errW_none, errW_some] <;> rfl) | (simp [*, errW_none, errW_some] <;> rfl), by first | exact Kd.R_nil _ _ _ _ _ | exact Kd.N_nil _ _ _ _ _ | exact Kd.V_nil _ _ _ _ _ | exact Kd.Q_nil _ _ _ _ _ | exact Kd.S_nil _ _ _ _ _, by first | exact Kd.R_nil _ _ _ _ _ | exact Kd.N_nil _ _ _ _ _ | exact Kd.V_nil _ _ _ _ _ | exact Kd.Q_nil _ _ _ _ _ | exact Kd.S_nil _ _ _ _ _, bel_⟩

end Go.Proofs.YtcphflfjhkeooaaDoor.Z
end

section
-- Printed by a program of this session (mp.py) out of the translation.
namespace Go.Proofs.YtcphflfjhkeooaaDoor.Z
open Go.RowKit Go.Proofs.YtcphflfjhkeooaaDoorW.PrintWords Go.Proofs.YtcphflfjhkeooaaDoorW.PrintLast Go.Proofs.YtcphflfjhkeooaaDoorW.PrintMore
attribute [local go_sem] max2_int min2_int max_two min_two max_three min_three max_four min_four   -- for this text's walks alone
set_option linter.unusedVariables false
set_option linter.unusedSimpArgs false

/-! ### cambiumlaw03_DevCrashes: function 9 -/
def cambiumlaw03_DevCrashes.f (k : Nat) (a0_0 : Int) (l0_1 : List (S39)) (l0_2 : List (S39)) (a0_3 : Bool) (a0_4 : Int) (l1 : List Bool) (a2 : Int) (a3 : ByteArray) : Option (Bool) := (cambiumref03_Copy.f a0_0 l0_1 l0_2 a0_3 a0_4).bind fun bt388 => ((dev_Crash.f k bt388.1 bt388.2.1 bt388.2.2.1 bt388.2.2.2.1 bt388.2.2.2.2 l1).bind fun bt398 => ((cambiumref03_Crash.f k a0_0 l0_1 l0_2 a0_3 a0_4 l1).bind fun bt409 => ((dev_Spoil.f k bt388.1 bt388.2.1 bt388.2.2.1 bt388.2.2.2.1 bt388.2.2.2.2 a2 a3).bind fun bt420 => ((cambiumref03_Spoil.f k a0_0 l0_1 l0_2 a0_3 a0_4 a2 a3).bind fun bt431 => ((cambiumlaw03_lives.f k).bind fun t442 => (if t442 = true then ((cambiumref03_Same.f k bt398.1 bt398.2.1 bt398.2.2.1 bt398.2.2.2.1 bt398.2.2.2.2.1 bt409.1 bt409.2.1 bt409.2.2.1 bt409.2.2.2.1 bt409.2.2.2.2.1).bind fun t443 => (if t443 = true then (if bt398.2.2.2.2.2 = bt409.2.2.2.2.2 then ((cambiumref03_Same.f k bt420.1 bt420.2.1 bt420.2.2.1 bt420.2.2.2.1 bt420.2.2.2.2.1 bt431.1 bt431.2.1 bt431.2.2.1 bt431.2.2.2.1 bt431.2.2.2.2.1).bind fun t444 => (if t444 = true then (if bt420.2.2.2.2.2 = bt431.2.2.2.2.2 then ((cambiumref03_Same.f k bt388.1 bt388.2.1 bt388.2.2.1 bt388.2.2.2.1 bt388.2.2.2.2 a0_0 l0_1 l0_2 a0_3 a0_4).bind fun t445 => (some t445)) else (some false)) else (some false))) else (some false)) else (some false))) else (some false)))))))
theorem cambiumlaw03_DevCrashes.mono : ∀ a0 a1 a2 a3 a4 a5 a6 a7 k, LeO (cambiumlaw03_DevCrashes.f k a0 a1 a2 a3 a4 a5 a6 a7) (cambiumlaw03_DevCrashes.f (k + 1) a0 a1 a2 a3 a4 a5 a6 a7) := by
  intro a0 a1 a2 a3 a4 a5 a6 a7 k
  unfold cambiumlaw03_DevCrashes.f
  repeat' first
      | (with_reducible exact cambiumlaw03_lives.mono _)
      | (with_reducible exact cambiumref03_Crash.mono _ _ _ _ _ _ _)
      | (with_reducible exact cambiumref03_Same.mono _ _ _ _ _ _ _ _ _ _ _)
      | (with_reducible exact cambiumref03_Spoil.mono _ _ _ _ _ _ _ _)
      | (with_reducible exact dev_Crash.mono _ _ _ _ _ _ _)
      | (with_reducible exact dev_Spoil.mono _ _ _ _ _ _ _ _)
      | (with_reducible exact LeO.refl _)
      | (with_reducible exact LeO.none _)
      | (with_reducible refine LeO.ite ?_ ?_)
      | (with_reducible refine LeO.bind ?_ (fun _ => ?_))
      | exact cambiumlaw03_lives.mono _
      | exact cambiumref03_Crash.mono _ _ _ _ _ _ _
      | exact cambiumref03_Same.mono _ _ _ _ _ _ _ _ _ _ _
      | exact cambiumref03_Spoil.mono _ _ _ _ _ _ _ _
      | exact dev_Crash.mono _ _ _ _ _ _ _
      | exact dev_Spoil.mono _ _ _ _ _ _ _ _
      | exact LeO.none _
      | refine LeO.ite ?_ ?_
      | refine LeO.bind ?_ (fun _ => ?_)
set_option maxHeartbeats 8000000 in
set_option maxRecDepth 100000 in
theorem cambiumlaw03_DevCrashes.calls (k : Nat) (a0_0 : Int) (A0_1 : Option Addr) (c0_1 : Nat) (l0_1 : List (S39)) (A0_2 : Option Addr) (c0_2 : Nat) (l0_2 : List (S39)) (a0_3 : Bool) (a0_4 : Int) (A1 : Option Addr) (c1 : Nat) (l1 : List Bool) (a2 : Int) (a3 : ByteArray) (r : Bool) (w : World) (hr0_1 : Kd.C k39 w A0_1 l0_1.length l0_1) (hc0_1 : l0_1.length ≤ c0_1) (hr0_2 : Kd.C k39 w A0_2 l0_2.length l0_2) (hc0_2 : l0_2.length ≤ c0_2) (hr1 : Kd.C Kd.bool w A1 l1.length l1) (hc1 : l1.length ≤ c1) (h : cambiumlaw03_DevCrashes.f k a0_0 l0_1 l0_2 a0_3 a0_4 l1 a2 a3 = some r) (hT_ : r = true := by rfl) :
    Calls Tryd.prog 9 #[.agg #[.int .u32 a0_0, .slice A0_1 l0_1.length c0_1, .slice A0_2 l0_2.length c0_2, .bool a0_3, .int .i64 a0_4], .slice A1 l1.length c1, .int .u32 a2, .string a3] w fun e w' => e = .returned (.bool r) ∧ Below w.heap.size w w' := by
  have HT_ := Aside0.mk hT_
  clear hT_
  have hu25 := Tryd.underlying25
  have HR0_1 := Aside0.mk hr0_1
  have HC0_1 := Aside0.mk hc0_1
  clear hr0_1 hc0_1
  have HR0_2 := Aside0.mk hr0_2
  have HC0_2 := Aside0.mk hc0_2
  clear hr0_2 hc0_2
  have HR1 := Aside0.mk hr1
  have HC1 := Aside0.mk hc1
  clear hr1 hc1
  have HB := Aside0.mk (Below.refl w.heap.size w)
  have H : ((cambiumref03_Copy.f a0_0 l0_1 l0_2 a0_3 a0_4).bind fun bt388 => ((dev_Crash.f k bt388.1 bt388.2.1 bt388.2.2.1 bt388.2.2.2.1 bt388.2.2.2.2 l1).bind fun bt398 => ((cambiumref03_Crash.f k a0_0 l0_1 l0_2 a0_3 a0_4 l1).bind fun bt409 => ((dev_Spoil.f k bt388.1 bt388.2.1 bt388.2.2.1 bt388.2.2.2.1 bt388.2.2.2.2 a2 a3).bind fun bt420 => ((cambiumref03_Spoil.f k a0_0 l0_1 l0_2 a0_3 a0_4 a2 a3).bind fun bt431 => ((cambiumlaw03_lives.f k).bind fun t442 => (if t442 = true then ((cambiumref03_Same.f k bt398.1 bt398.2.1 bt398.2.2.1 bt398.2.2.2.1 bt398.2.2.2.2.1 bt409.1 bt409.2.1 bt409.2.2.1 bt409.2.2.2.1 bt409.2.2.2.2.1).bind fun t443 => (if t443 = true then (if bt398.2.2.2.2.2 = bt409.2.2.2.2.2 then ((cambiumref03_Same.f k bt420.1 bt420.2.1 bt420.2.2.1 bt420.2.2.2.1 bt420.2.2.2.2.1 bt431.1 bt431.2.1 bt431.2.2.1 bt431.2.2.2.1 bt431.2.2.2.2.1).bind fun t444 => (if t444 = true then (if bt420.2.2.2.2.2 = bt431.2.2.2.2.2 then ((cambiumref03_Same.f k bt388.1 bt388.2.1 bt388.2.2.1 bt388.2.2.2.1 bt388.2.2.2.2 a0_0 l0_1 l0_2 a0_3 a0_4).bind fun t445 => (some t445)) else (some false)) else (some false))) else (some false)) else (some false))) else (some false)))))))) = some r := h
  clear h
  replace H := Option.bind_eq_some_iff.mp H
  obtain ⟨⟨t388, t389, t392, t395, t396⟩, A50, H⟩ := H
  replace H : ((dev_Crash.f k t388 t389 t392 t395 t396 l1).bind fun bt398 => ((cambiumref03_Crash.f k a0_0 l0_1 l0_2 a0_3 a0_4 l1).bind fun bt409 => ((dev_Spoil.f k t388 t389 t392 t395 t396 a2 a3).bind fun bt420 => ((cambiumref03_Spoil.f k a0_0 l0_1 l0_2 a0_3 a0_4 a2 a3).bind fun bt431 => ((cambiumlaw03_lives.f k).bind fun t442 => (if t442 = true then ((cambiumref03_Same.f k bt398.1 bt398.2.1 bt398.2.2.1 bt398.2.2.2.1 bt398.2.2.2.2.1 bt409.1 bt409.2.1 bt409.2.2.1 bt409.2.2.2.1 bt409.2.2.2.2.1).bind fun t443 => (if t443 = true then (if bt398.2.2.2.2.2 = bt409.2.2.2.2.2 then ((cambiumref03_Same.f k bt420.1 bt420.2.1 bt420.2.2.1 bt420.2.2.2.1 bt420.2.2.2.2.1 bt431.1 bt431.2.1 bt431.2.2.1 bt431.2.2.2.1 bt431.2.2.2.2.1).bind fun t444 => (if t444 = true then (if bt420.2.2.2.2.2 = bt431.2.2.2.2.2 then ((cambiumref03_Same.f k t388 t389 t392 t395 t396 a0_0 l0_1 l0_2 a0_3 a0_4).bind fun t445 => (some t445)) else (some false)) else (some false))) else (some false)) else (some false))) else (some false))))))) = some r := H
  have A5 := Aside0.mk A50
  clear A50
  replace H := Option.bind_eq_some_iff.mp H
  obtain ⟨⟨t398, t399, t402, t405, t406, t407⟩, A60, H⟩ := H
  replace H : ((cambiumref03_Crash.f k a0_0 l0_1 l0_2 a0_3 a0_4 l1).bind fun bt409 => ((dev_Spoil.f k t388 t389 t392 t395 t396 a2 a3).bind fun bt420 => ((cambiumref03_Spoil.f k a0_0 l0_1 l0_2 a0_3 a0_4 a2 a3).bind fun bt431 => ((cambiumlaw03_lives.f k).bind fun t442 => (if t442 = true then ((cambiumref03_Same.f k t398 t399 t402 t405 t406 bt409.1 bt409.2.1 bt409.2.2.1 bt409.2.2.2.1 bt409.2.2.2.2.1).bind fun t443 => (if t443 = true then (if t407 = bt409.2.2.2.2.2 then ((cambiumref03_Same.f k bt420.1 bt420.2.1 bt420.2.2.1 bt420.2.2.2.1 bt420.2.2.2.2.1 bt431.1 bt431.2.1 bt431.2.2.1 bt431.2.2.2.1 bt431.2.2.2.2.1).bind fun t444 => (if t444 = true then (if bt420.2.2.2.2.2 = bt431.2.2.2.2.2 then ((cambiumref03_Same.f k t388 t389 t392 t395 t396 a0_0 l0_1 l0_2 a0_3 a0_4).bind fun t445 => (some t445)) else (some false)) else (some false))) else (some false)) else (some false))) else (some false)))))) = some r := H
  have A6 := Aside0.mk A60
  clear A60
  replace H := Option.bind_eq_some_iff.mp H
  obtain ⟨⟨t409, t410, t413, t416, t417, t418⟩, A70, H⟩ := H
  replace H : ((dev_Spoil.f k t388 t389 t392 t395 t396 a2 a3).bind fun bt420 => ((cambiumref03_Spoil.f k a0_0 l0_1 l0_2 a0_3 a0_4 a2 a3).bind fun bt431 => ((cambiumlaw03_lives.f k).bind fun t442 => (if t442 = true then ((cambiumref03_Same.f k t398 t399 t402 t405 t406 t409 t410 t413 t416 t417).bind fun t443 => (if t443 = true then (if t407 = t418 then ((cambiumref03_Same.f k bt420.1 bt420.2.1 bt420.2.2.1 bt420.2.2.2.1 bt420.2.2.2.2.1 bt431.1 bt431.2.1 bt431.2.2.1 bt431.2.2.2.1 bt431.2.2.2.2.1).bind fun t444 => (if t444 = true then (if bt420.2.2.2.2.2 = bt431.2.2.2.2.2 then ((cambiumref03_Same.f k t388 t389 t392 t395 t396 a0_0 l0_1 l0_2 a0_3 a0_4).bind fun t445 => (some t445)) else (some false)) else (some false))) else (some false)) else (some false))) else (some false))))) = some r := H
  have A7 := Aside0.mk A70
  clear A70
  replace H := Option.bind_eq_some_iff.mp H
  obtain ⟨⟨t420, t421, t424, t427, t428, t429⟩, A80, H⟩ := H
  replace H : ((cambiumref03_Spoil.f k a0_0 l0_1 l0_2 a0_3 a0_4 a2 a3).bind fun bt431 => ((cambiumlaw03_lives.f k).bind fun t442 => (if t442 = true then ((cambiumref03_Same.f k t398 t399 t402 t405 t406 t409 t410 t413 t416 t417).bind fun t443 => (if t443 = true then (if t407 = t418 then ((cambiumref03_Same.f k t420 t421 t424 t427 t428 bt431.1 bt431.2.1 bt431.2.2.1 bt431.2.2.2.1 bt431.2.2.2.2.1).bind fun t444 => (if t444 = true then (if t429 = bt431.2.2.2.2.2 then ((cambiumref03_Same.f k t388 t389 t392 t395 t396 a0_0 l0_1 l0_2 a0_3 a0_4).bind fun t445 => (some t445)) else (some false)) else (some false))) else (some false)) else (some false))) else (some false)))) = some r := H
  have A8 := Aside0.mk A80
  clear A80
  replace H := Option.bind_eq_some_iff.mp H
  obtain ⟨⟨t431, t432, t435, t438, t439, t440⟩, A90, H⟩ := H
  replace H : ((cambiumlaw03_lives.f k).bind fun t442 => (if t442 = true then ((cambiumref03_Same.f k t398 t399 t402 t405 t406 t409 t410 t413 t416 t417).bind fun t443 => (if t443 = true then (if t407 = t418 then ((cambiumref03_Same.f k t420 t421 t424 t427 t428 t431 t432 t435 t438 t439).bind fun t444 => (if t444 = true then (if t429 = t440 then ((cambiumref03_Same.f k t388 t389 t392 t395 t396 a0_0 l0_1 l0_2 a0_3 a0_4).bind fun t445 => (some t445)) else (some false)) else (some false))) else (some false)) else (some false))) else (some false))) = some r := H
  have A9 := Aside0.mk A90
  clear A90
  replace H := Option.bind_eq_some_iff.mp H
  obtain ⟨t442, A100, H⟩ := H
  replace H : (if t442 = true then ((cambiumref03_Same.f k t398 t399 t402 t405 t406 t409 t410 t413 t416 t417).bind fun t443 => (if t443 = true then (if t407 = t418 then ((cambiumref03_Same.f k t420 t421 t424 t427 t428 t431 t432 t435 t438 t439).bind fun t444 => (if t444 = true then (if t429 = t440 then ((cambiumref03_Same.f k t388 t389 t392 t395 t396 a0_0 l0_1 l0_2 a0_3 a0_4).bind fun t445 => (some t445)) else (some false)) else (some false))) else (some false)) else (some false))) else (some false)) = some r := H
  have A10 := Aside0.mk A100
  clear A100
  by_cases c11 : t442 = true
  · subst c11
    have H1 : ((cambiumref03_Same.f k t398 t399 t402 t405 t406 t409 t410 t413 t416 t417).bind fun t443 => (if t443 = true then (if t407 = t418 then ((cambiumref03_Same.f k t420 t421 t424 t427 t428 t431 t432 t435 t438 t439).bind fun t444 => (if t444 = true then (if t429 = t440 then ((cambiumref03_Same.f k t388 t389 t392 t395 t396 a0_0 l0_1 l0_2 a0_3 a0_4).bind fun t445 => (some t445)) else (some false)) else (some false))) else (some false)) else (some false))) = some r := by rw [if_pos rfl] at H; exact H
    clear H
    have H := H1
    clear H1
    replace H := Option.bind_eq_some_iff.mp H
    obtain ⟨t443, A120, H⟩ := H
    replace H : (if t443 = true then (if t407 = t418 then ((cambiumref03_Same.f k t420 t421 t424 t427 t428 t431 t432 t435 t438 t439).bind fun t444 => (if t444 = true then (if t429 = t440 then ((cambiumref03_Same.f k t388 t389 t392 t395 t396 a0_0 l0_1 l0_2 a0_3 a0_4).bind fun t445 => (some t445)) else (some false)) else (some false))) else (some false)) else (some false)) = some r := H
    have A12 := Aside0.mk A120
    clear A120
    by_cases c13 : t443 = true
    · subst c13
      have H1 : (if t407 = t418 then ((cambiumref03_Same.f k t420 t421 t424 t427 t428 t431 t432 t435 t438 t439).bind fun t444 => (if t444 = true then (if t429 = t440 then ((cambiumref03_Same.f k t388 t389 t392 t395 t396 a0_0 l0_1 l0_2 a0_3 a0_4).bind fun t445 => (some t445)) else (some false)) else (some false))) else (some false)) = some r := by rw [if_pos rfl] at H; exact H
      clear H
      have H := H1
      clear H1
      by_cases c14 : t407 = t418
      · rw [if_pos c14] at H
        have c14b0 : (t407 == t418) = true := beq_iff_eq.mpr c14
        have c14b1 : (t407 != t418) = false := bne_eq_false_iff_eq.mpr c14
        clear c14
        replace H := Option.bind_eq_some_iff.mp H
        obtain ⟨t444, A150, H⟩ := H
        replace H : (if t444 = true then (if t429 = t440 then ((cambiumref03_Same.f k t388 t389 t392 t395 t396 a0_0 l0_1 l0_2 a0_3 a0_4).bind fun t445 => (some t445)) else (some false)) else (some false)) = some r := H
        have A15 := Aside0.mk A150
        clear A150
        by_cases c16 : t444 = true
        · subst c16
          have H1 : (if t429 = t440 then ((cambiumref03_Same.f k t388 t389 t392 t395 t396 a0_0 l0_1 l0_2 a0_3 a0_4).bind fun t445 => (some t445)) else (some false)) = some r := by rw [if_pos rfl] at H; exact H
          clear H
          have H := H1
          clear H1
          by_cases c17 : t429 = t440
          · rw [if_pos c17] at H
            have c17b0 : (t429 == t440) = true := beq_iff_eq.mpr c17
            have c17b1 : (t429 != t440) = false := bne_eq_false_iff_eq.mpr c17
            clear c17
            replace H := Option.bind_eq_some_iff.mp H
            obtain ⟨t445, A180, H⟩ := H
            replace H : (some t445) = some r := H
            have A18 := Aside0.mk A180
            clear A180
            obtain rfl := Option.some.inj H
            go_enter Tryd.func9, Tryd.ntmps9
            go_wp2_with (first | ((with_reducible refine gate_dst (N := 4) rfl ?_); refine bx_ (N := 4) (cs := #[.int .u32 a0_0, .slice A0_1 l0_1.length c0_1, .slice A0_2 l0_2.length c0_2, .bool a0_3, .int .i64 a0_4]) (t := 25) ?_; intro gb387 hg w19 hbox hb; have BK387 := Aside0.mk (hbox); have GW387 := ge_ hg; have GE387 := ge_ hg; replace HB := hb_ hb; clear hb hbox hg; obtain ⟨hcz20_0, hcz20_1, hcz20_2, hcz20_3, hcz20_4⟩ := cl5_ BK387; obtain ⟨hfz20_0, hfz20_1, hfz20_2, hfz20_3, hfz20_4⟩ := fz5_ BK387) | ((with_reducible refine gate_callee (f := 12) rfl ?_); refine gl_ (some 19) Tryd.func12 #[.agg #[.int .u32 a0_0, .slice A0_1 l0_1.length c0_1, .slice A0_2 l0_2.length c0_2, .bool a0_3, .int .i64 a0_4]] ?_; (with_reducible refine (cambiumref03_Copy.calls a0_0 _ _ l0_1 _ _ l0_2 a0_3 a0_4 t388 t389 t392 t395 t396 _ ?side1 ?side2 ?side3 ?side4 A5.out).mono ?_); (case side1 => exact cb_ HR0_1); (case side2 => exact HC0_1.out); (case side3 => exact cb_ HR0_2); (case side4 => exact HC0_2.out); rintro e w21 ⟨v390, v393, rfl, ho0, ho1, hb⟩; refine ⟨_, rfl, ?_⟩; have HO391 := rl_ ho0; have HO394 := rl_ ho1; replace BK387 := kb_ BK387 hb; replace HB := hb_ hb; (try clear hb); (try clear hb2); (try clear hk); (try clear hi); (try clear ho0); (try clear ho1)) | ((with_reducible refine gate_dst (N := 9) rfl ?_); refine bx_ (N := 9) (cs := #[.int .u32 0, .slice none 0 0, .slice none 0 0, .bool false, .int .i64 0]) (t := 25) ?_; intro gb397 hg w22 hbox hb; have BK397 := Aside0.mk (hbox); have GW397 := ge_ hg; have GE397 := ge_ hg; have NB387_397 := nl_ BK387 hg; have NB397_387 := ng_ BK387 hg; replace HO391 := rb_ HO391 hb; replace HO394 := rb_ HO394 hb; replace BK387 := kb_ BK387 hb; replace HB := hb_ hb; clear hb hbox hg; have hnb23 := NB397_387.out; have hnc23 := NB387_397.out; obtain ⟨hcz24_0, hcz24_1, hcz24_2, hcz24_3, hcz24_4⟩ := cl5_ BK397; obtain ⟨hfz24_0, hfz24_1, hfz24_2, hfz24_3, hfz24_4⟩ := fz5_ BK397; obtain ⟨Ao25, co25, eo25⟩ := Kd.R_slice HO391.out; subst eo25; obtain ⟨Ao26, co26, eo26⟩ := Kd.R_slice HO394.out; subst eo26) | ((with_reducible refine gate_callee (f := 23) rfl ?_); refine gl_ (some 23) Tryd.func23 #[.agg #[.int .u32 t388, .slice Ao25 t389.length co25, .slice Ao26 t392.length co26, .bool t395, .int .i64 t396], .slice A1 l1.length c1] ?_; (with_reducible refine (dev_Crash.calls k t388 _ _ t389 _ _ t392 t395 t396 _ _ l1 t398 t399 t402 t405 t406 t407 _ ?side1 ?side2 ?side3 ?side4 ?side5 ?side6 A6.out).mono ?_); (case side1 => exact (Kd.R_reads' (rw_ HO391)).2.2); (case side2 => exact (Kd.R_reads' HO391.out).2.1); (case side3 => exact (Kd.R_reads' (rw_ HO394)).2.2); (case side4 => exact (Kd.R_reads' HO394.out).2.1); (case side5 => exact Kd.C_below HR1.out bel_); (case side6 => exact HC1.out); rintro e w27 ⟨v400, v403, rfl, ho0, ho1, hb⟩; refine ⟨_, rfl, ?_⟩; have HO401 := Aside0.mk (Kd.R_lower (Kd.R_new' (Kd.R_new' ho0 (Kd.R_lt (rw_ HO391))) (Kd.R_lt (rw_ HO394))) (below_size bel_)); have HO404 := Aside0.mk (Kd.R_lower (Kd.R_new' (Kd.R_new' ho1 (Kd.R_lt (rw_ HO391))) (Kd.R_lt (rw_ HO394))) (below_size bel_)); replace HO391 := Aside0.mk (Kd.R_mono (Kd.R_told (Kd.R_told (Kd.R_old (rw_ HO391) hb) (Kd.R_base ho0)) (Kd.R_base ho1)) (fun _ h_ => h_.1)); replace HO394 := Aside0.mk (Kd.R_mono (Kd.R_told (Kd.R_told (Kd.R_old (rw_ HO394) hb) (Kd.R_base ho0)) (Kd.R_base ho1)) (fun _ h_ => h_.1)); replace BK387 := Aside0.mk (blk_below (g := gb387) (o := .cells #[.int .u32 a0_0, .slice A0_1 l0_1.length c0_1, .slice A0_2 l0_2.length c0_2, .bool a0_3, .int .i64 a0_4] 25 (0, 0)) (bs_) hb); replace HB := hb_ hb; replace BK397 := Aside0.mk (blk_below (g := gb397) (o := .cells #[.int .u32 t388, .slice Ao25 t389.length co25, .slice Ao26 t392.length co26, .bool t395, .int .i64 t396] 25 (0, 0)) (bs_) hb); (try clear hb); (try clear hb2); (try clear hk); (try clear hi); (try clear ho0); (try clear ho1)) | ((with_reducible refine gate_dst (N := 10) rfl ?_); refine bx_ (N := 10) (cs := #[.int .u32 0, .slice none 0 0, .slice none 0 0, .bool false, .int .i64 0]) (t := 25) ?_; intro gb408 hg w28 hbox hb; have BK408 := Aside0.mk (hbox); have GW408 := ge_ hg; have GE408 := ge_ hg; have NB387_408 := nl_ BK387 hg; have NB408_387 := ng_ BK387 hg; have NB397_408 := nl_ BK397 hg; have NB408_397 := ng_ BK397 hg; replace HO391 := rb_ HO391 hb; replace HO394 := rb_ HO394 hb; replace HO401 := rb_ HO401 hb; replace HO404 := rb_ HO404 hb; replace BK387 := kb_ BK387 hb; replace BK397 := kb_ BK397 hb; replace HB := hb_ hb; clear hb hbox hg; have hnb29 := NB408_387.out; have hnc29 := NB387_408.out; have hnb30 := NB408_397.out; have hnc30 := NB397_408.out; obtain ⟨hcz31_0, hcz31_1, hcz31_2, hcz31_3, hcz31_4⟩ := cl5_ BK408; obtain ⟨hfz31_0, hfz31_1, hfz31_2, hfz31_3, hfz31_4⟩ := fz5_ BK408; obtain ⟨Ao32, co32, eo32⟩ := Kd.R_slice HO401.out; subst eo32; obtain ⟨Ao33, co33, eo33⟩ := Kd.R_slice HO404.out; subst eo33; obtain ⟨hcz34_0, hcz34_1, hcz34_2, hcz34_3, hcz34_4⟩ := cl5_ BK387; obtain ⟨hfz34_0, hfz34_1, hfz34_2, hfz34_3, hfz34_4⟩ := fz5_ BK387) | ((with_reducible refine gate_callee (f := 25) rfl ?_); refine gl_ (some 29) Tryd.func25 #[.agg #[.int .u32 a0_0, .slice A0_1 l0_1.length c0_1, .slice A0_2 l0_2.length c0_2, .bool a0_3, .int .i64 a0_4], .slice A1 l1.length c1] ?_; (with_reducible refine (cambiumref03_Crash.calls k a0_0 _ _ l0_1 _ _ l0_2 a0_3 a0_4 _ _ l1 t409 t410 t413 t416 t417 t418 _ ?side1 ?side2 ?side3 ?side4 ?side5 ?side6 A7.out).mono ?_); (case side1 => exact Kd.C_below HR0_1.out bel_); (case side2 => exact HC0_1.out); (case side3 => exact Kd.C_below HR0_2.out bel_); (case side4 => exact HC0_2.out); (case side5 => exact Kd.C_below HR1.out bel_); (case side6 => exact HC1.out); rintro e w35 ⟨v411, v414, rfl, ho0, ho1, hb⟩; refine ⟨_, rfl, ?_⟩; have HO412 := Aside0.mk (Kd.R_lower (Kd.R_new' (Kd.R_new' (Kd.R_new' (Kd.R_new' ho0 (Kd.R_lt (rw_ HO391))) (Kd.R_lt (rw_ HO394))) (Kd.R_lt (rw_ HO401))) (Kd.R_lt (rw_ HO404))) (below_size bel_)); have HO415 := Aside0.mk (Kd.R_lower (Kd.R_new' (Kd.R_new' (Kd.R_new' (Kd.R_new' ho1 (Kd.R_lt (rw_ HO391))) (Kd.R_lt (rw_ HO394))) (Kd.R_lt (rw_ HO401))) (Kd.R_lt (rw_ HO404))) (below_size bel_)); replace HO391 := Aside0.mk (Kd.R_mono (Kd.R_told (Kd.R_told (Kd.R_old (rw_ HO391) hb) (Kd.R_base ho0)) (Kd.R_base ho1)) (fun _ h_ => h_.1)); replace HO394 := Aside0.mk (Kd.R_mono (Kd.R_told (Kd.R_told (Kd.R_old (rw_ HO394) hb) (Kd.R_base ho0)) (Kd.R_base ho1)) (fun _ h_ => h_.1)); replace HO401 := Aside0.mk (Kd.R_mono (Kd.R_told (Kd.R_told (Kd.R_old (rw_ HO401) hb) (Kd.R_base ho0)) (Kd.R_base ho1)) (fun _ h_ => h_.1)); replace HO404 := Aside0.mk (Kd.R_mono (Kd.R_told (Kd.R_told (Kd.R_old (rw_ HO404) hb) (Kd.R_base ho0)) (Kd.R_base ho1)) (fun _ h_ => h_.1)); replace BK387 := Aside0.mk (blk_below (g := gb387) (o := .cells #[.int .u32 a0_0, .slice A0_1 l0_1.length c0_1, .slice A0_2 l0_2.length c0_2, .bool a0_3, .int .i64 a0_4] 25 (0, 0)) (bs_) hb); replace BK397 := Aside0.mk (blk_below (g := gb397) (o := .cells #[.int .u32 t388, .slice Ao25 t389.length co25, .slice Ao26 t392.length co26, .bool t395, .int .i64 t396] 25 (0, 0)) (bs_) hb); replace HB := hb_ hb; replace BK408 := Aside0.mk (blk_below (g := gb408) (o := .cells #[.int .u32 t398, .slice Ao32 t399.length co32, .slice Ao33 t402.length co33, .bool t405, .int .i64 t406] 25 (0, 0)) (bs_) hb); (try clear hb); (try clear hb2); (try clear hk); (try clear hi); (try clear ho0); (try clear ho1)) | ((with_reducible refine gate_dst (N := 12) rfl ?_); refine bx_ (N := 12) (cs := #[.int .u32 0, .slice none 0 0, .slice none 0 0, .bool false, .int .i64 0]) (t := 25) ?_; intro gb419 hg w36 hbox hb; have BK419 := Aside0.mk (hbox); have GW419 := ge_ hg; have GE419 := ge_ hg; have NB387_419 := nl_ BK387 hg; have NB419_387 := ng_ BK387 hg; have NB397_419 := nl_ BK397 hg; have NB419_397 := ng_ BK397 hg; have NB408_419 := nl_ BK408 hg; have NB419_408 := ng_ BK408 hg; replace HO391 := rb_ HO391 hb; replace HO394 := rb_ HO394 hb; replace HO401 := rb_ HO401 hb; replace HO404 := rb_ HO404 hb; replace HO412 := rb_ HO412 hb; replace HO415 := rb_ HO415 hb; replace BK387 := kb_ BK387 hb; replace BK397 := kb_ BK397 hb; replace BK408 := kb_ BK408 hb; replace HB := hb_ hb; clear hb hbox hg; have hnb37 := NB419_387.out; have hnc37 := NB387_419.out; have hnb38 := NB419_397.out; have hnc38 := NB397_419.out; have hnb39 := NB419_408.out; have hnc39 := NB408_419.out; obtain ⟨hcz40_0, hcz40_1, hcz40_2, hcz40_3, hcz40_4⟩ := cl5_ BK419; obtain ⟨hfz40_0, hfz40_1, hfz40_2, hfz40_3, hfz40_4⟩ := fz5_ BK419; obtain ⟨Ao41, co41, eo41⟩ := Kd.R_slice HO412.out; subst eo41; obtain ⟨Ao42, co42, eo42⟩ := Kd.R_slice HO415.out; subst eo42; obtain ⟨hcz43_0, hcz43_1, hcz43_2, hcz43_3, hcz43_4⟩ := cl5_ BK397; obtain ⟨hfz43_0, hfz43_1, hfz43_2, hfz43_3, hfz43_4⟩ := fz5_ BK397) | ((with_reducible refine gate_callee (f := 26) rfl ?_); refine gl_ (some 36) Tryd.func26 #[.agg #[.int .u32 t388, .slice Ao25 t389.length co25, .slice Ao26 t392.length co26, .bool t395, .int .i64 t396], .int .u32 a2, .string a3] ?_; (with_reducible refine (dev_Spoil.calls k t388 _ _ t389 _ _ t392 t395 t396 a2 a3 t420 t421 t424 t427 t428 t429 _ ?side1 ?side2 ?side3 ?side4 A8.out).mono ?_); (case side1 => exact (Kd.R_reads' (rw_ HO391)).2.2); (case side2 => exact (Kd.R_reads' HO391.out).2.1); (case side3 => exact (Kd.R_reads' (rw_ HO394)).2.2); (case side4 => exact (Kd.R_reads' HO394.out).2.1); rintro e w44 ⟨v422, v425, rfl, ho0, ho1, hb⟩; refine ⟨_, rfl, ?_⟩; have HO423 := Aside0.mk (Kd.R_lower (Kd.R_new' (Kd.R_new' (Kd.R_new' (Kd.R_new' (Kd.R_new' (Kd.R_new' ho0 (Kd.R_lt (rw_ HO391))) (Kd.R_lt (rw_ HO394))) (Kd.R_lt (rw_ HO401))) (Kd.R_lt (rw_ HO404))) (Kd.R_lt (rw_ HO412))) (Kd.R_lt (rw_ HO415))) (below_size bel_)); have HO426 := Aside0.mk (Kd.R_lower (Kd.R_new' (Kd.R_new' (Kd.R_new' (Kd.R_new' (Kd.R_new' (Kd.R_new' ho1 (Kd.R_lt (rw_ HO391))) (Kd.R_lt (rw_ HO394))) (Kd.R_lt (rw_ HO401))) (Kd.R_lt (rw_ HO404))) (Kd.R_lt (rw_ HO412))) (Kd.R_lt (rw_ HO415))) (below_size bel_)); replace HO391 := Aside0.mk (Kd.R_mono (Kd.R_told (Kd.R_told (Kd.R_old (rw_ HO391) hb) (Kd.R_base ho0)) (Kd.R_base ho1)) (fun _ h_ => h_.1)); replace HO394 := Aside0.mk (Kd.R_mono (Kd.R_told (Kd.R_told (Kd.R_old (rw_ HO394) hb) (Kd.R_base ho0)) (Kd.R_base ho1)) (fun _ h_ => h_.1)); replace HO401 := Aside0.mk (Kd.R_mono (Kd.R_told (Kd.R_told (Kd.R_old (rw_ HO401) hb) (Kd.R_base ho0)) (Kd.R_base ho1)) (fun _ h_ => h_.1)); replace HO404 := Aside0.mk (Kd.R_mono (Kd.R_told (Kd.R_told (Kd.R_old (rw_ HO404) hb) (Kd.R_base ho0)) (Kd.R_base ho1)) (fun _ h_ => h_.1)); replace HO412 := Aside0.mk (Kd.R_mono (Kd.R_told (Kd.R_told (Kd.R_old (rw_ HO412) hb) (Kd.R_base ho0)) (Kd.R_base ho1)) (fun _ h_ => h_.1)); replace HO415 := Aside0.mk (Kd.R_mono (Kd.R_told (Kd.R_told (Kd.R_old (rw_ HO415) hb) (Kd.R_base ho0)) (Kd.R_base ho1)) (fun _ h_ => h_.1)); replace BK387 := Aside0.mk (blk_below (g := gb387) (o := .cells #[.int .u32 a0_0, .slice A0_1 l0_1.length c0_1, .slice A0_2 l0_2.length c0_2, .bool a0_3, .int .i64 a0_4] 25 (0, 0)) (bs_) hb); replace BK397 := Aside0.mk (blk_below (g := gb397) (o := .cells #[.int .u32 t388, .slice Ao25 t389.length co25, .slice Ao26 t392.length co26, .bool t395, .int .i64 t396] 25 (0, 0)) (bs_) hb); replace BK408 := Aside0.mk (blk_below (g := gb408) (o := .cells #[.int .u32 t398, .slice Ao32 t399.length co32, .slice Ao33 t402.length co33, .bool t405, .int .i64 t406] 25 (0, 0)) (bs_) hb); replace HB := hb_ hb; replace BK419 := Aside0.mk (blk_below (g := gb419) (o := .cells #[.int .u32 t409, .slice Ao41 t410.length co41, .slice Ao42 t413.length co42, .bool t416, .int .i64 t417] 25 (0, 0)) (bs_) hb); (try clear hb); (try clear hb2); (try clear hk); (try clear hi); (try clear ho0); (try clear ho1)) | ((with_reducible refine gate_dst (N := 14) rfl ?_); refine bx_ (N := 14) (cs := #[.int .u32 0, .slice none 0 0, .slice none 0 0, .bool false, .int .i64 0]) (t := 25) ?_; intro gb430 hg w45 hbox hb; have BK430 := Aside0.mk (hbox); have GW430 := ge_ hg; have GE430 := ge_ hg; have NB387_430 := nl_ BK387 hg; have NB430_387 := ng_ BK387 hg; have NB397_430 := nl_ BK397 hg; have NB430_397 := ng_ BK397 hg; have NB408_430 := nl_ BK408 hg; have NB430_408 := ng_ BK408 hg; have NB419_430 := nl_ BK419 hg; have NB430_419 := ng_ BK419 hg; replace HO391 := rb_ HO391 hb; replace HO394 := rb_ HO394 hb; replace HO401 := rb_ HO401 hb; replace HO404 := rb_ HO404 hb; replace HO412 := rb_ HO412 hb; replace HO415 := rb_ HO415 hb; replace HO423 := rb_ HO423 hb; replace HO426 := rb_ HO426 hb; replace BK387 := kb_ BK387 hb; replace BK397 := kb_ BK397 hb; replace BK408 := kb_ BK408 hb; replace BK419 := kb_ BK419 hb; replace HB := hb_ hb; clear hb hbox hg; have hnb46 := NB430_387.out; have hnc46 := NB387_430.out; have hnb47 := NB430_397.out; have hnc47 := NB397_430.out; have hnb48 := NB430_408.out; have hnc48 := NB408_430.out; have hnb49 := NB430_419.out; have hnc49 := NB419_430.out; obtain ⟨hcz50_0, hcz50_1, hcz50_2, hcz50_3, hcz50_4⟩ := cl5_ BK430; obtain ⟨hfz50_0, hfz50_1, hfz50_2, hfz50_3, hfz50_4⟩ := fz5_ BK430; obtain ⟨Ao51, co51, eo51⟩ := Kd.R_slice HO423.out; subst eo51; obtain ⟨Ao52, co52, eo52⟩ := Kd.R_slice HO426.out; subst eo52; obtain ⟨hcz53_0, hcz53_1, hcz53_2, hcz53_3, hcz53_4⟩ := cl5_ BK387; obtain ⟨hfz53_0, hfz53_1, hfz53_2, hfz53_3, hfz53_4⟩ := fz5_ BK387) | ((with_reducible refine gate_callee (f := 27) rfl ?_); refine gl_ (some 43) Tryd.func27 #[.agg #[.int .u32 a0_0, .slice A0_1 l0_1.length c0_1, .slice A0_2 l0_2.length c0_2, .bool a0_3, .int .i64 a0_4], .int .u32 a2, .string a3] ?_; (with_reducible refine (cambiumref03_Spoil.calls k a0_0 _ _ l0_1 _ _ l0_2 a0_3 a0_4 a2 a3 t431 t432 t435 t438 t439 t440 _ ?side1 ?side2 ?side3 ?side4 A9.out).mono ?_); (case side1 => exact Kd.C_below HR0_1.out bel_); (case side2 => exact HC0_1.out); (case side3 => exact Kd.C_below HR0_2.out bel_); (case side4 => exact HC0_2.out); rintro e w54 ⟨v433, v436, rfl, ho0, ho1, hb⟩; refine ⟨_, rfl, ?_⟩; have HO434 := Aside0.mk (Kd.R_lower (Kd.R_new' (Kd.R_new' (Kd.R_new' (Kd.R_new' (Kd.R_new' (Kd.R_new' (Kd.R_new' (Kd.R_new' ho0 (Kd.R_lt (rw_ HO391))) (Kd.R_lt (rw_ HO394))) (Kd.R_lt (rw_ HO401))) (Kd.R_lt (rw_ HO404))) (Kd.R_lt (rw_ HO412))) (Kd.R_lt (rw_ HO415))) (Kd.R_lt (rw_ HO423))) (Kd.R_lt (rw_ HO426))) (below_size bel_)); have HO437 := Aside0.mk (Kd.R_lower (Kd.R_new' (Kd.R_new' (Kd.R_new' (Kd.R_new' (Kd.R_new' (Kd.R_new' (Kd.R_new' (Kd.R_new' ho1 (Kd.R_lt (rw_ HO391))) (Kd.R_lt (rw_ HO394))) (Kd.R_lt (rw_ HO401))) (Kd.R_lt (rw_ HO404))) (Kd.R_lt (rw_ HO412))) (Kd.R_lt (rw_ HO415))) (Kd.R_lt (rw_ HO423))) (Kd.R_lt (rw_ HO426))) (below_size bel_)); replace HO391 := Aside0.mk (Kd.R_mono (Kd.R_told (Kd.R_told (Kd.R_old (rw_ HO391) hb) (Kd.R_base ho0)) (Kd.R_base ho1)) (fun _ h_ => h_.1)); replace HO394 := Aside0.mk (Kd.R_mono (Kd.R_told (Kd.R_told (Kd.R_old (rw_ HO394) hb) (Kd.R_base ho0)) (Kd.R_base ho1)) (fun _ h_ => h_.1)); replace HO401 := Aside0.mk (Kd.R_mono (Kd.R_told (Kd.R_told (Kd.R_old (rw_ HO401) hb) (Kd.R_base ho0)) (Kd.R_base ho1)) (fun _ h_ => h_.1)); replace HO404 := Aside0.mk (Kd.R_mono (Kd.R_told (Kd.R_told (Kd.R_old (rw_ HO404) hb) (Kd.R_base ho0)) (Kd.R_base ho1)) (fun _ h_ => h_.1)); replace HO412 := Aside0.mk (Kd.R_mono (Kd.R_told (Kd.R_told (Kd.R_old (rw_ HO412) hb) (Kd.R_base ho0)) (Kd.R_base ho1)) (fun _ h_ => h_.1)); replace HO415 := Aside0.mk (Kd.R_mono (Kd.R_told (Kd.R_told (Kd.R_old (rw_ HO415) hb) (Kd.R_base ho0)) (Kd.R_base ho1)) (fun _ h_ => h_.1)); replace HO423 := Aside0.mk (Kd.R_mono (Kd.R_told (Kd.R_told (Kd.R_old (rw_ HO423) hb) (Kd.R_base ho0)) (Kd.R_base ho1)) (fun _ h_ => h_.1)); replace HO426 := Aside0.mk (Kd.R_mono (Kd.R_told (Kd.R_told (Kd.R_old (rw_ HO426) hb) (Kd.R_base ho0)) (Kd.R_base ho1)) (fun _ h_ => h_.1)); replace BK387 := Aside0.mk (blk_below (g := gb387) (o := .cells #[.int .u32 a0_0, .slice A0_1 l0_1.length c0_1, .slice A0_2 l0_2.length c0_2, .bool a0_3, .int .i64 a0_4] 25 (0, 0)) (bs_) hb); replace BK397 := Aside0.mk (blk_below (g := gb397) (o := .cells #[.int .u32 t388, .slice Ao25 t389.length co25, .slice Ao26 t392.length co26, .bool t395, .int .i64 t396] 25 (0, 0)) (bs_) hb); replace BK408 := Aside0.mk (blk_below (g := gb408) (o := .cells #[.int .u32 t398, .slice Ao32 t399.length co32, .slice Ao33 t402.length co33, .bool t405, .int .i64 t406] 25 (0, 0)) (bs_) hb); replace BK419 := Aside0.mk (blk_below (g := gb419) (o := .cells #[.int .u32 t409, .slice Ao41 t410.length co41, .slice Ao42 t413.length co42, .bool t416, .int .i64 t417] 25 (0, 0)) (bs_) hb); replace HB := hb_ hb; replace BK430 := Aside0.mk (blk_below (g := gb430) (o := .cells #[.int .u32 t420, .slice Ao51 t421.length co51, .slice Ao52 t424.length co52, .bool t427, .int .i64 t428] 25 (0, 0)) (bs_) hb); (try clear hb); (try clear hb2); (try clear hk); (try clear hi); (try clear ho0); (try clear ho1)) | ((with_reducible refine gate_dst (N := 16) rfl ?_); refine bx_ (N := 16) (cs := #[.int .u32 0, .slice none 0 0, .slice none 0 0, .bool false, .int .i64 0]) (t := 25) ?_; intro gb441 hg w55 hbox hb; have BK441 := Aside0.mk (hbox); have GW441 := ge_ hg; have GE441 := ge_ hg; have NB387_441 := nl_ BK387 hg; have NB441_387 := ng_ BK387 hg; have NB397_441 := nl_ BK397 hg; have NB441_397 := ng_ BK397 hg; have NB408_441 := nl_ BK408 hg; have NB441_408 := ng_ BK408 hg; have NB419_441 := nl_ BK419 hg; have NB441_419 := ng_ BK419 hg; have NB430_441 := nl_ BK430 hg; have NB441_430 := ng_ BK430 hg; replace HO391 := rb_ HO391 hb; replace HO394 := rb_ HO394 hb; replace HO401 := rb_ HO401 hb; replace HO404 := rb_ HO404 hb; replace HO412 := rb_ HO412 hb; replace HO415 := rb_ HO415 hb; replace HO423 := rb_ HO423 hb; replace HO426 := rb_ HO426 hb; replace HO434 := rb_ HO434 hb; replace HO437 := rb_ HO437 hb; replace BK387 := kb_ BK387 hb; replace BK397 := kb_ BK397 hb; replace BK408 := kb_ BK408 hb; replace BK419 := kb_ BK419 hb; replace BK430 := kb_ BK430 hb; replace HB := hb_ hb; clear hb hbox hg; have hnb56 := NB441_387.out; have hnc56 := NB387_441.out; have hnb57 := NB441_397.out; have hnc57 := NB397_441.out; have hnb58 := NB441_408.out; have hnc58 := NB408_441.out; have hnb59 := NB441_419.out; have hnc59 := NB419_441.out; have hnb60 := NB441_430.out; have hnc60 := NB430_441.out; obtain ⟨hcz61_0, hcz61_1, hcz61_2, hcz61_3, hcz61_4⟩ := cl5_ BK441; obtain ⟨hfz61_0, hfz61_1, hfz61_2, hfz61_3, hfz61_4⟩ := fz5_ BK441; obtain ⟨Ao62, co62, eo62⟩ := Kd.R_slice HO434.out; subst eo62; obtain ⟨Ao63, co63, eo63⟩ := Kd.R_slice HO437.out; subst eo63) | ((with_reducible refine gate_callee (f := 19) rfl ?_); refine gl_ (some 46) Tryd.func19 #[] ?_; (with_reducible refine (cambiumlaw03_lives.calls k  true _ A10.out).mono ?_); rintro e w64 ⟨rfl, hb⟩; refine ⟨_, rfl, ?_⟩; replace HO391 := Aside0.mk (Kd.R_below (rw_ HO391) hb); replace HO394 := Aside0.mk (Kd.R_below (rw_ HO394) hb); replace HO401 := Aside0.mk (Kd.R_below (rw_ HO401) hb); replace HO404 := Aside0.mk (Kd.R_below (rw_ HO404) hb); replace HO412 := Aside0.mk (Kd.R_below (rw_ HO412) hb); replace HO415 := Aside0.mk (Kd.R_below (rw_ HO415) hb); replace HO423 := Aside0.mk (Kd.R_below (rw_ HO423) hb); replace HO426 := Aside0.mk (Kd.R_below (rw_ HO426) hb); replace HO434 := Aside0.mk (Kd.R_below (rw_ HO434) hb); replace HO437 := Aside0.mk (Kd.R_below (rw_ HO437) hb); replace BK387 := Aside0.mk (blk_below (g := gb387) (o := .cells #[.int .u32 a0_0, .slice A0_1 l0_1.length c0_1, .slice A0_2 l0_2.length c0_2, .bool a0_3, .int .i64 a0_4] 25 (0, 0)) (bs_) hb); replace BK397 := Aside0.mk (blk_below (g := gb397) (o := .cells #[.int .u32 t388, .slice Ao25 t389.length co25, .slice Ao26 t392.length co26, .bool t395, .int .i64 t396] 25 (0, 0)) (bs_) hb); replace BK408 := Aside0.mk (blk_below (g := gb408) (o := .cells #[.int .u32 t398, .slice Ao32 t399.length co32, .slice Ao33 t402.length co33, .bool t405, .int .i64 t406] 25 (0, 0)) (bs_) hb); replace BK419 := Aside0.mk (blk_below (g := gb419) (o := .cells #[.int .u32 t409, .slice Ao41 t410.length co41, .slice Ao42 t413.length co42, .bool t416, .int .i64 t417] 25 (0, 0)) (bs_) hb); replace BK430 := Aside0.mk (blk_below (g := gb430) (o := .cells #[.int .u32 t420, .slice Ao51 t421.length co51, .slice Ao52 t424.length co52, .bool t427, .int .i64 t428] 25 (0, 0)) (bs_) hb); replace HB := hb_ hb; replace BK441 := Aside0.mk (blk_below (g := gb441) (o := .cells #[.int .u32 t431, .slice Ao62 t432.length co62, .slice Ao63 t435.length co63, .bool t438, .int .i64 t439] 25 (0, 0)) (bs_) hb); (try clear hb); (try clear hb2); (try clear hk); (try clear hi); obtain ⟨hcz65_0, hcz65_1, hcz65_2, hcz65_3, hcz65_4⟩ := cl5_ BK408; obtain ⟨hfz65_0, hfz65_1, hfz65_2, hfz65_3, hfz65_4⟩ := fz5_ BK408; obtain ⟨hcz66_0, hcz66_1, hcz66_2, hcz66_3, hcz66_4⟩ := cl5_ BK419; obtain ⟨hfz66_0, hfz66_1, hfz66_2, hfz66_3, hfz66_4⟩ := fz5_ BK419) | (go_at_call 20; (with_reducible refine (cambiumref03_Same.calls k t398 _ _ t399 _ _ t402 t405 t406 t409 _ _ t410 _ _ t413 t416 t417 true _ ?side1 ?side2 ?side3 ?side4 ?side5 ?side6 ?side7 ?side8 A12.out).mono ?_); (case side1 => exact cr_ HO401); (case side2 => exact (Kd.R_reads' HO401.out).2.1); (case side3 => exact cr_ HO404); (case side4 => exact (Kd.R_reads' HO404.out).2.1); (case side5 => exact cr_ HO412); (case side6 => exact (Kd.R_reads' HO412.out).2.1); (case side7 => exact cr_ HO415); (case side8 => exact (Kd.R_reads' HO415.out).2.1); rintro e w67 ⟨rfl, hb⟩; replace HO391 := rb_ HO391 hb; replace HO394 := rb_ HO394 hb; replace HO401 := rb_ HO401 hb; replace HO404 := rb_ HO404 hb; replace HO412 := rb_ HO412 hb; replace HO415 := rb_ HO415 hb; replace HO423 := rb_ HO423 hb; replace HO426 := rb_ HO426 hb; replace HO434 := rb_ HO434 hb; replace HO437 := rb_ HO437 hb; replace BK387 := kb_ BK387 hb; replace BK397 := kb_ BK397 hb; replace BK408 := kb_ BK408 hb; replace BK419 := kb_ BK419 hb; replace BK430 := kb_ BK430 hb; replace BK441 := kb_ BK441 hb; replace HB := hb_ hb; (try clear hb); (try clear hb2); (try clear hk); (try clear hi); obtain ⟨hcz68_0, hcz68_1, hcz68_2, hcz68_3, hcz68_4⟩ := cl5_ BK430; obtain ⟨hfz68_0, hfz68_1, hfz68_2, hfz68_3, hfz68_4⟩ := fz5_ BK430; obtain ⟨hcz69_0, hcz69_1, hcz69_2, hcz69_3, hcz69_4⟩ := cl5_ BK441; obtain ⟨hfz69_0, hfz69_1, hfz69_2, hfz69_3, hfz69_4⟩ := fz5_ BK441) | (go_at_call 20; (with_reducible refine (cambiumref03_Same.calls k t420 _ _ t421 _ _ t424 t427 t428 t431 _ _ t432 _ _ t435 t438 t439 true _ ?side1 ?side2 ?side3 ?side4 ?side5 ?side6 ?side7 ?side8 A15.out).mono ?_); (case side1 => exact cr_ HO423); (case side2 => exact (Kd.R_reads' HO423.out).2.1); (case side3 => exact cr_ HO426); (case side4 => exact (Kd.R_reads' HO426.out).2.1); (case side5 => exact cr_ HO434); (case side6 => exact (Kd.R_reads' HO434.out).2.1); (case side7 => exact cr_ HO437); (case side8 => exact (Kd.R_reads' HO437.out).2.1); rintro e w70 ⟨rfl, hb⟩; replace HO391 := rb_ HO391 hb; replace HO394 := rb_ HO394 hb; replace HO401 := rb_ HO401 hb; replace HO404 := rb_ HO404 hb; replace HO412 := rb_ HO412 hb; replace HO415 := rb_ HO415 hb; replace HO423 := rb_ HO423 hb; replace HO426 := rb_ HO426 hb; replace HO434 := rb_ HO434 hb; replace HO437 := rb_ HO437 hb; replace BK387 := kb_ BK387 hb; replace BK397 := kb_ BK397 hb; replace BK408 := kb_ BK408 hb; replace BK419 := kb_ BK419 hb; replace BK430 := kb_ BK430 hb; replace BK441 := kb_ BK441 hb; replace HB := hb_ hb; (try clear hb); (try clear hb2); (try clear hk); (try clear hi); obtain ⟨hcz71_0, hcz71_1, hcz71_2, hcz71_3, hcz71_4⟩ := cl5_ BK397; obtain ⟨hfz71_0, hfz71_1, hfz71_2, hfz71_3, hfz71_4⟩ := fz5_ BK397; obtain ⟨hcz72_0, hcz72_1, hcz72_2, hcz72_3, hcz72_4⟩ := cl5_ BK387; obtain ⟨hfz72_0, hfz72_1, hfz72_2, hfz72_3, hfz72_4⟩ := fz5_ BK387) | (go_at_call 20; (with_reducible refine (cambiumref03_Same.calls k t388 _ _ t389 _ _ t392 t395 t396 a0_0 _ _ l0_1 _ _ l0_2 a0_3 a0_4 t445 _ ?side1 ?side2 ?side3 ?side4 ?side5 ?side6 ?side7 ?side8 A18.out).mono ?_); (case side1 => exact cr_ HO391); (case side2 => exact (Kd.R_reads' HO391.out).2.1); (case side3 => exact cr_ HO394); (case side4 => exact (Kd.R_reads' HO394.out).2.1); (case side5 => exact cb_ HR0_1); (case side6 => exact HC0_1.out); (case side7 => exact cb_ HR0_2); (case side8 => exact HC0_2.out); rintro e w73 ⟨rfl, hb⟩; replace HO391 := rb_ HO391 hb; replace HO394 := rb_ HO394 hb; replace HO401 := rb_ HO401 hb; replace HO404 := rb_ HO404 hb; replace HO412 := rb_ HO412 hb; replace HO415 := rb_ HO415 hb; replace HO423 := rb_ HO423 hb; replace HO426 := rb_ HO426 hb; replace HO434 := rb_ HO434 hb; replace HO437 := rb_ HO437 hb; replace BK387 := kb_ BK387 hb; replace BK397 := kb_ BK397 hb; replace BK408 := kb_ BK408 hb; replace BK419 := kb_ BK419 hb; replace BK430 := kb_ BK430 hb; replace BK441 := kb_ BK441 hb; replace HB := hb_ hb; (try clear hb); (try clear hb2); (try clear hk); (try clear hi)))
            go_ret
            exact ⟨by first | rfl | (simp [errW_none, errW_some] <;> rfl) | (simp [*, errW_none, errW_some] <;> rfl), bel_⟩
          rw [if_neg c17] at H
          have c17b0 : (t429 == t440) = false := beq_eq_false_iff_ne.mpr c17
          have c17b1 : (t429 != t440) = true := bne_iff_ne.mpr c17
          exact absurd ((Option.some.inj H).trans HT_.out) (by simp)
        replace c16 := Bool.eq_false_iff.mpr c16
        subst c16
        have H1 : (some false) = some r := by rw [if_neg (show ¬ (false = true) by decide)] at H; exact H
        clear H
        have H := H1
        clear H1
        exact absurd ((Option.some.inj H).trans HT_.out) (by simp)
      rw [if_neg c14] at H
      have c14b0 : (t407 == t418) = false := beq_eq_false_iff_ne.mpr c14
      have c14b1 : (t407 != t418) = true := bne_iff_ne.mpr c14
      exact absurd ((Option.some.inj H).trans HT_.out) (by simp)
    replace c13 := Bool.eq_false_iff.mpr c13
    subst c13
    have H1 : (some false) = some r := by rw [if_neg (show ¬ (false = true) by decide)] at H; exact H
    clear H
    have H := H1
    clear H1
    exact absurd ((Option.some.inj H).trans HT_.out) (by simp)
  replace c11 := Bool.eq_false_iff.mpr c11
  subst c11
  have H1 : (some false) = some r := by rw [if_neg (show ¬ (false = true) by decide)] at H; exact H
  clear H
  have H := H1
  clear H1
  exact absurd ((Option.some.inj H).trans HT_.out) (by simp)

end Go.Proofs.YtcphflfjhkeooaaDoor.Z
end
