/- DevWrites: at every input the law's function returns true and leaves its arguments as they were; no condition beyond the row's own. Part 3 of 4: this session's own texts, laid together. -/
import Derived.Test.YtcphflfjhkeooaaDoorMB1
import Derived.Test.YtcphflfjhkeooaaDoorMB2
section
-- Printed by a program of this session (mp.py) out of the translation.
namespace Go.Proofs.YtcphflfjhkeooaaDoor.Z
open Go.RowKit Go.Proofs.YtcphflfjhkeooaaDoorW.PrintWords Go.Proofs.YtcphflfjhkeooaaDoorW.PrintLast Go.Proofs.YtcphflfjhkeooaaDoorW.PrintMore
attribute [local go_sem] max2_int min2_int max_two min_two max_three min_three max_four min_four   -- for this text's walks alone
set_option linter.unusedVariables false
set_option linter.unusedSimpArgs false

/-! ### cambiumref03_Copy: function 12 -/
def cambiumref03_Copy.f (a0_0 : Int) (l0_1 : List (S39)) (l0_2 : List (S39)) (a0_3 : Bool) (a0_4 : Int) : Option (Int × (List (S39)) × (List (S39)) × Bool × Int) := (some (([] : List (S39)) : List (S39))).bind fun y103 => (if y103.length + l0_1.length < 5864062014805 then ((some (([] : List (S39)) : List (S39))).bind fun y109 => (if y109.length + l0_2.length < 5864062014805 then (some (a0_0, (y103 ++ l0_1), (y109 ++ l0_2), a0_3, a0_4)) else (none))) else (none))
set_option maxHeartbeats 8000000 in
set_option maxRecDepth 100000 in
theorem cambiumref03_Copy.calls (a0_0 : Int) (A0_1 : Option Addr) (c0_1 : Nat) (l0_1 : List (S39)) (A0_2 : Option Addr) (c0_2 : Nat) (l0_2 : List (S39)) (a0_3 : Bool) (a0_4 : Int) (r1 : Int) (r2 : List (S39)) (r3 : List (S39)) (r4 : Bool) (r5 : Int) (w : World) (hr0_1 : Kd.C k39 w A0_1 l0_1.length l0_1) (hc0_1 : l0_1.length ≤ c0_1) (hr0_2 : Kd.C k39 w A0_2 l0_2.length l0_2) (hc0_2 : l0_2.length ≤ c0_2) (h : cambiumref03_Copy.f a0_0 l0_1 l0_2 a0_3 a0_4 = some (r1, r2, r3, r4, r5)) :
    Calls Tryd.prog 12 #[.agg #[.int .u32 a0_0, .slice A0_1 l0_1.length c0_1, .slice A0_2 l0_2.length c0_2, .bool a0_3, .int .i64 a0_4]] w fun e w' => ∃ v1_ v2_ : Value, e = .returned (.agg #[.int .u32 r1, v1_, v2_, .bool r4, .int .i64 r5]) ∧ Kd.R k39 39 w' w.heap.size (fun k_ => some k_ ≠ (v2_ : Value).ownBlock) v1_ r2 ∧ Kd.R k39 39 w' w.heap.size (fun k_ => some k_ ≠ (v1_ : Value).ownBlock) v2_ r3 ∧ Below w.heap.size w w' := by
  have hu25 := Tryd.underlying25
  have HR0_1 := Aside0.mk hr0_1
  have HC0_1 := Aside0.mk hc0_1
  clear hr0_1 hc0_1
  have HR0_2 := Aside0.mk hr0_2
  have HC0_2 := Aside0.mk hc0_2
  clear hr0_2 hc0_2
  have HB := Aside0.mk (Below.refl w.heap.size w)
  have H : ((some (([] : List (S39)) : List (S39))).bind fun y103 => (if y103.length + l0_1.length < 5864062014805 then ((some (([] : List (S39)) : List (S39))).bind fun y109 => (if y109.length + l0_2.length < 5864062014805 then (some (a0_0, (y103 ++ l0_1), (y109 ++ l0_2), a0_3, a0_4)) else (none))) else (none))) = some (r1, r2, r3, r4, r5) := h
  clear h
  obtain ⟨y103, hy103⟩ : ∃ y_ : List (S39), y_ = (([] : List (S39))) := ⟨_, rfl⟩
  replace H : (if y103.length + l0_1.length < 5864062014805 then ((some (([] : List (S39)) : List (S39))).bind fun y109 => (if y109.length + l0_2.length < 5864062014805 then (some (a0_0, (y103 ++ l0_1), (y109 ++ l0_2), a0_3, a0_4)) else (none))) else (none)) = some (r1, r2, r3, r4, r5) := by first | (rw [hy103]; with_reducible exact H) | (have H2_ := (Option.bind_some _ _).symm.trans H; rw [hy103]; with_reducible exact H2_) | (have H2_ := (Option.bind_some _ _).symm.trans H; with_reducible exact H2_) | with_reducible exact H | (rw [hy103]; exact H) | exact H
  have Ny103 := Aside0.mk hy103
  clear hy103
  by_cases c2 : y103.length + l0_1.length < 5864062014805
  · rw [if_pos c2] at H
    have LMc2 := Aside0.mk c2
    clear c2
    obtain ⟨y106, hy106⟩ : ∃ y_ : List (S39), y_ = (y103 ++ l0_1) := ⟨_, rfl⟩
    replace H : ((some (([] : List (S39)) : List (S39))).bind fun y109 => (if y109.length + l0_2.length < 5864062014805 then (some (a0_0, y106, (y109 ++ l0_2), a0_3, a0_4)) else (none))) = some (r1, r2, r3, r4, r5) := by first | (rw [hy106]; with_reducible exact H) | (have H2_ := (Option.bind_some _ _).symm.trans H; rw [hy106]; with_reducible exact H2_) | (have H2_ := (Option.bind_some _ _).symm.trans H; with_reducible exact H2_) | with_reducible exact H | (rw [hy106]; exact H) | exact H
    have Ny106 := Aside0.mk hy106
    clear hy106
    obtain ⟨y109, hy109⟩ : ∃ y_ : List (S39), y_ = (([] : List (S39))) := ⟨_, rfl⟩
    replace H : (if y109.length + l0_2.length < 5864062014805 then (some (a0_0, y106, (y109 ++ l0_2), a0_3, a0_4)) else (none)) = some (r1, r2, r3, r4, r5) := by first | (rw [hy109]; with_reducible exact H) | (have H2_ := (Option.bind_some _ _).symm.trans H; rw [hy109]; with_reducible exact H2_) | (have H2_ := (Option.bind_some _ _).symm.trans H; with_reducible exact H2_) | with_reducible exact H | (rw [hy109]; exact H) | exact H
    have Ny109 := Aside0.mk hy109
    clear hy109
    by_cases c3 : y109.length + l0_2.length < 5864062014805
    · rw [if_pos c3] at H
      have LMc3 := Aside0.mk c3
      clear c3
      obtain ⟨y112, hy112⟩ : ∃ y_ : List (S39), y_ = (y109 ++ l0_2) := ⟨_, rfl⟩
      replace H : (some (a0_0, y106, y112, a0_3, a0_4)) = some (r1, r2, r3, r4, r5) := by first | (rw [hy112]; with_reducible exact H) | (have H2_ := (Option.bind_some _ _).symm.trans H; rw [hy112]; with_reducible exact H2_) | (have H2_ := (Option.bind_some _ _).symm.trans H; with_reducible exact H2_) | with_reducible exact H | (rw [hy112]; exact H) | exact H
      have Ny112 := Aside0.mk hy112
      clear hy112
      simp only [Option.some.injEq, Prod.mk.injEq] at H
      obtain ⟨rfl, rfl, rfl, rfl, rfl⟩ := H
      go_enter Tryd.func12, Tryd.ntmps12
      go_wp2_with (first | ((with_reducible refine gate_dst (N := 1) rfl ?_); refine bx_ (N := 1) (cs := #[.int .u32 a0_0, .slice A0_1 l0_1.length c0_1, .slice A0_2 l0_2.length c0_2, .bool a0_3, .int .i64 a0_4]) (t := 25) ?_; intro gb101 hg w4 hbox hb; have BK101 := Aside0.mk (hbox); have GW101 := ge_ hg; have GE101 := ge_ hg; replace HB := hb_ hb; clear hb hbox hg) | ((with_reducible refine gate_dst (N := 2) rfl ?_); refine bx_ (N := 2) (cs := #[.int .u32 0, .slice none 0 0, .slice none 0 0, .bool false, .int .i64 0]) (t := 25) ?_; intro gb102 hg w5 hbox hb; have BK102 := Aside0.mk (hbox); have GW102 := ge_ hg; have GE102 := ge_ hg; have NB101_102 := nl_ BK101 hg; have NB102_101 := ng_ BK101 hg; replace BK101 := kb_ BK101 hb; replace HB := hb_ hb; clear hb hbox hg) | ((with_reducible refine gate_dst (N := 3) rfl ?_); refine Kd.R_lit k39 _ 39 ?hg (N := 3) ?hd (xs := ([] : List (S39))) (inner := []) (ok := fun _ => True) (okp := fun _ => True) ?hr ?hp (fun _ hk => hk) trivial (Below.refl _ _) (Nat.le_refl _) (by simp) ?_; (case hd => rfl); (case hg => rfl); (case hr => first | (go_simp; done) | (go_simp; rfl)); (case hp => exact (Reps.none _ _)); intro v104 w6 ho7 hb hg_ hnew_; clear hg_ hnew_; (first | rw [← Ny103.out] at ho7 | (simp only [Int.reduceToNat] at ho7; rw [← Ny103.out] at ho7)); have HO105 := rl_ ho7; replace BK101 := kb_ BK101 hb; replace BK102 := kb_ BK102 hb; replace HB := hb_ hb; clear hb ho7; have hnb8 := NB101_102.out; have hnc8 := NB102_101.out; obtain ⟨hcz9_0, hcz9_1, hcz9_2, hcz9_3, hcz9_4⟩ := cl5_ BK101; obtain ⟨hfz9_0, hfz9_1, hfz9_2, hfz9_3, hfz9_4⟩ := fz5_ BK101) | ((with_reducible refine gate_builtin (b := .append) (xs := #[.tmp 3, .tmp 5]) rfl ?_); at_builtin; refine Kd.R_append_rows k39 (w0 := w) w.heap.size rfl (.tmp 3) (.tmp 5) 23 39 (.agg #[(.int .u32 0), (.string ⟨#[]⟩)]) 24 rfl Tryd.underlying23 info39 rfl (by decide) (by omega) v104 y103 l0_1 _ _ _ (fun _ => True) (fun _ => False) rfl rfl ?aO ?aR (fun _ _ h => h) (fun _ h => h.elim) ?aF ?aB ?aS ?aL ?_; (case aR => repeat (first | exact (Kd.C_below HR0_1.out HB.out) | (with_reducible refine Kd.C_alloc ?_ _) | (with_reducible refine Kd.C_drewN ?_ _) | (with_reducible refine Kd.C_drew ?_))); (case aB => exact bel_); (case aF => exact (fun _ _ => trivial)); (case aO => exact (ra_ HO105)); (case aS => exact (below_size bel_)); (case aL => have := LMc2.out; omega); intro v107 w10 ho hb hg hat; rw [← Ny106.out] at ho; have HO108 := Aside0.mk (ho); replace BK101 := Aside0.mk (blk_grown (bk_ BK101) hg (Kd.R_ne HO105.out BK101.out (by decide))); replace BK102 := Aside0.mk (blk_grown (bk_ BK102) hg (Kd.R_ne HO105.out BK102.out (by decide))); replace HB := Aside0.mk (hb); clear HO105; clear ho hb hg hat; obtain ⟨Ao11, co11, eo11⟩ := Kd.R_slice HO108.out; subst eo11; obtain ⟨hcz12_0, hcz12_1, hcz12_2, hcz12_3, hcz12_4⟩ := cl5_ BK101; obtain ⟨hfz12_0, hfz12_1, hfz12_2, hfz12_3, hfz12_4⟩ := fz5_ BK101) | ((with_reducible refine gate_dst (N := 8) rfl ?_); refine Kd.R_lit k39 _ 39 ?hg (N := 8) ?hd (xs := ([] : List (S39))) (inner := []) (ok := fun _ => True) (okp := fun _ => True) ?hr ?hp (fun _ hk => hk) trivial (Below.refl _ _) (Nat.le_refl _) (by simp) ?_; (case hd => rfl); (case hg => rfl); (case hr => first | (go_simp; done) | (go_simp; rfl)); (case hp => exact (Reps.none _ _)); intro v110 w13 ho14 hb hg_ hnew_; clear hg_ hnew_; (first | rw [← Ny109.out] at ho14 | (simp only [Int.reduceToNat] at ho14; rw [← Ny109.out] at ho14)); have HO111 := Aside0.mk (Kd.R_lower (Kd.R_new' ho14 (Kd.R_lt (rw_ HO108))) (below_size bel_)); replace HO108 := Aside0.mk (Kd.R_elder' (rw_ HO108) (Kd.R_base ho14) hb); replace BK102 := Aside0.mk (blk_below (g := gb102) (o := .cells #[.int .u32 0, .slice none 0 0, .slice none 0 0, .bool false, .int .i64 0] 25 (0, 0)) (bs_) hb); replace HB := hb_ hb; replace BK101 := Aside0.mk (blk_below (g := gb101) (o := .cells #[.int .u32 a0_0, .slice Ao11 y106.length co11, .slice A0_2 l0_2.length c0_2, .bool a0_3, .int .i64 a0_4] 25 (0, 0)) (bs_) hb); clear hb ho14; obtain ⟨hcz15_0, hcz15_1, hcz15_2, hcz15_3, hcz15_4⟩ := cl5_ BK101; obtain ⟨hfz15_0, hfz15_1, hfz15_2, hfz15_3, hfz15_4⟩ := fz5_ BK101) | ((with_reducible refine gate_builtin (b := .append) (xs := #[.tmp 8, .tmp 10]) rfl ?_); at_builtin; refine Kd.R_append_rows k39 (w0 := w) w.heap.size rfl (.tmp 8) (.tmp 10) 23 39 (.agg #[(.int .u32 0), (.string ⟨#[]⟩)]) 24 rfl Tryd.underlying23 info39 rfl (by decide) (by omega) v110 y109 l0_2 _ _ _ (fun k_ => some k_ ≠ (.slice Ao11 y106.length co11 : Value).ownBlock) (fun _ => False) rfl rfl ?aO ?aR (fun _ _ h => h) (fun _ h => h.elim) ?aF ?aB ?aS ?aL ?_; (case aR => repeat (first | exact (Kd.C_below HR0_2.out HB.out) | (with_reducible refine Kd.C_alloc ?_ _) | (with_reducible refine Kd.C_drewN ?_ _) | (with_reducible refine Kd.C_drew ?_))); (case aB => exact bel_); (case aF => exact (fun k_ hk => Kd.fresh' (Kd.R_lt (ra_ HO108)) k_ hk)); (case aO => exact (by (with_reducible repeat (first | apply Kd.R_alloc | apply Kd.R_drewN | apply Kd.R_drew)); exact Kd.R_mono HO111.out (fun _ hk => hk.2))); (case aS => exact (below_size bel_)); (case aL => have := LMc3.out; omega); intro v113 w16 ho hb hg hat; rw [← Ny112.out] at ho; have HO114 := Aside0.mk (ho); replace BK101 := Aside0.mk (blk_grown (bk_ BK101) hg (Kd.R_ne HO111.out BK101.out (by decide))); replace BK102 := Aside0.mk (blk_grown (bk_ BK102) hg (Kd.R_ne HO111.out BK102.out (by decide))); replace HO108 := Aside0.mk (Kd.R_after (ok := (fun _ => True)) (ra_ HO108) hg hat); replace HB := Aside0.mk (hb); clear HO111; clear ho hb hg hat; obtain ⟨Ao17, co17, eo17⟩ := Kd.R_slice HO114.out; subst eo17; obtain ⟨hcz18_0, hcz18_1, hcz18_2, hcz18_3, hcz18_4⟩ := cl5_ BK101; obtain ⟨hfz18_0, hfz18_1, hfz18_2, hfz18_3, hfz18_4⟩ := fz5_ BK101; obtain ⟨hcz19_0, hcz19_1, hcz19_2, hcz19_3, hcz19_4⟩ := cl5_ BK102; obtain ⟨hfz19_0, hfz19_1, hfz19_2, hfz19_3, hfz19_4⟩ := fz5_ BK102))
      refine bodyPost_ret (results_cell_row rfl _ _ gb102 25 #[.int .u32 a0_0, .slice Ao11 y106.length co11, .slice Ao17 y112.length co17, .bool a0_3, .int .i64 a0_4] (0, 0) _ rfl (bs_) Tryd.underlying25 rfl (by kernel_rfl)) rfl ?_
      exact ⟨_, _, by first | rfl | (simp [errW_none, errW_some] <;> rfl) | (simp [*, errW_none, errW_some] <;> rfl), by (with_reducible repeat (first | apply Kd.R_alloc | apply Kd.R_drewN | apply Kd.R_drew)); exact Kd.R_mono (Kd.R_far (p := ⟨gb102, 4, none⟩) (Kd.R_far (p := ⟨gb102, 3, none⟩) (Kd.R_far (p := ⟨gb102, 2, none⟩) (Kd.R_far (p := ⟨gb102, 1, none⟩) (Kd.R_far (p := ⟨gb102, 0, none⟩) (Kd.R_far (p := ⟨gb101, 2, none⟩) (Kd.R_types (Kd.R_types HO108.out BK101.out (by decide)) BK102.out (by decide)) (fun _ hk => hk.1.2) (.slice Ao17 y112.length co17)) (fun _ hk => hk.2) (.int .u32 a0_0)) (fun _ hk => hk.2) (.slice Ao11 y106.length co11)) (fun _ hk => hk.2) (.slice Ao17 y112.length co17)) (fun _ hk => hk.2) (.bool a0_3)) (fun _ hk => hk.2) (.int .i64 a0_4)) (fun _ hk => hk.1.1.2), rw_ HO114, bel_⟩
    rw [if_neg c3] at H
    exact absurd H (by simp)
  rw [if_neg c2] at H
  exact absurd H (by simp)

end Go.Proofs.YtcphflfjhkeooaaDoor.Z
end

section
-- Printed by a program of this session (mp.py) out of the translation.
namespace Go.Proofs.YtcphflfjhkeooaaDoor.Z
open Go.RowKit Go.Proofs.YtcphflfjhkeooaaDoorW.PrintWords Go.Proofs.YtcphflfjhkeooaaDoorW.PrintLast Go.Proofs.YtcphflfjhkeooaaDoorW.PrintMore
attribute [local go_sem] max2_int min2_int max_two min_two max_three min_three max_four min_four   -- for this text's walks alone
set_option linter.unusedVariables false
set_option linter.unusedSimpArgs false

/-! ### cambiumref03_right: function 38 -/
def cambiumref03_right.f (a0 : ByteArray) : Option (Bool) := if (a0.size : Int) ≤ 512 then (if a0.toList = ([] : List UInt8) then (some true) else (if 0 ≤ (wrap64 ((a0.size : Int) - 1)) then (if (wrap64 ((a0.size : Int) - 1)) < (a0.size : Int) then (some ((bt a0 (wrap64 ((a0.size : Int) - 1))) != 0)) else (none)) else (none))) else (some false)
set_option maxHeartbeats 8000000 in
set_option maxRecDepth 100000 in
theorem cambiumref03_right.calls (a0 : ByteArray) (r : Bool) (w : World) (h : cambiumref03_right.f a0 = some r) :
    Calls Tryd.prog 38 #[.string a0] w fun e w' => e = .returned (.bool r) ∧ Drawn0 w w' := by
  have H : (if (a0.size : Int) ≤ 512 then (if a0.toList = ([] : List UInt8) then (some true) else (if 0 ≤ (wrap64 ((a0.size : Int) - 1)) then (if (wrap64 ((a0.size : Int) - 1)) < (a0.size : Int) then (some ((bt a0 (wrap64 ((a0.size : Int) - 1))) != 0)) else (none)) else (none))) else (some false)) = some r := h
  clear h
  by_cases c2 : (a0.size : Int) ≤ 512
  · rw [if_pos c2] at H
    have c2b0 : decide ((a0.size : Int) ≤ 512) = true := decide_eq_true c2
    have c2b1 : decide (a0.size ≤ 512) = true := decide_eq_true (by omega)
    clear c2
    by_cases c3 : a0.toList = ([] : List UInt8)
    · rw [if_pos c3] at H
      have c3b0 : (a0.toList == ([] : List UInt8)) = true := beq_iff_eq.mpr c3
      have c3b1 : (a0.toList != ([] : List UInt8)) = false := bne_eq_false_iff_eq.mpr c3
      clear c3
      obtain rfl := Option.some.inj H
      go_enter Tryd.func38, Tryd.ntmps38
      go_wp2
      go_ret
      exact ⟨by first | rfl | (simp; done) | (simp [*]; done), by repeat (first | exact Drawn0.refl _ | apply Drawn0.step)⟩
    rw [if_neg c3] at H
    have c3b0 : (a0.toList == ([] : List UInt8)) = false := beq_eq_false_iff_ne.mpr c3
    have c3b1 : (a0.toList != ([] : List UInt8)) = true := bne_iff_ne.mpr c3
    obtain ⟨ji4, hji4⟩ : ∃ j_ : Int, (wrap64 ((a0.size : Int) - 1)) = j_ := ⟨_, rfl⟩
    replace H : (if 0 ≤ (ji4) then (if (ji4) < (a0.size : Int) then (some ((bt a0 (ji4)) != 0)) else (none)) else (none)) = some r := by first | (rw [hji4] at H; exact H) | (simp only [hji4] at H ⊢; exact H)
    have hji4w : (IntKind.i64.wrap ((a0.size : Int) - 1)) = ji4 := (i64_w _).trans hji4
    by_cases c5 : 0 ≤ (ji4)
    · rw [if_pos c5] at H
      have c5b0 : decide (0 ≤ (ji4)) = true := decide_eq_true c5
      clear c5
      by_cases c6 : (ji4) < (a0.size : Int)
      · rw [if_pos c6] at H
        have c6b0 : decide ((ji4) < (a0.size : Int)) = true := decide_eq_true c6
        clear c6
        obtain rfl := Option.some.inj H
        have p7 : 0 ≤ ((ji4) : Int) := of_decide_eq_true (by first | (with_reducible assumption) | assumption)
        have q7 : (ji4) < (a0.size : Int) := of_decide_eq_true (by first | (with_reducible assumption) | assumption)
        have hx7 := bt_at a0 (ji4)
        replace p7 := eq_true p7
        replace q7 := eq_true q7
        go_enter Tryd.func38, Tryd.ntmps38
        go_wp2
        go_ret
        exact ⟨by first | rfl | (simp; done) | (simp only [← hji4] <;> (first | rfl | simp)) | (simp [*]; done), by repeat (first | exact Drawn0.refl _ | apply Drawn0.step)⟩
      rw [if_neg c6] at H
      exact absurd H (by simp)
    rw [if_neg c5] at H
    exact absurd H (by simp)
  rw [if_neg c2] at H
  have c2b0 : decide ((a0.size : Int) ≤ 512) = false := decide_eq_false c2
  have c2b1 : decide (a0.size ≤ 512) = false := decide_eq_false (by omega)
  clear c2
  obtain rfl := Option.some.inj H
  go_enter Tryd.func38, Tryd.ntmps38
  go_wp2
  go_ret
  exact ⟨by first | rfl | (simp; done) | (simp [*]; done), by repeat (first | exact Drawn0.refl _ | apply Drawn0.step)⟩

end Go.Proofs.YtcphflfjhkeooaaDoor.Z
end

section
-- Printed by a program of this session (mp.py) out of the translation.
namespace Go.Proofs.YtcphflfjhkeooaaDoor.Z
open Go.RowKit Go.Proofs.YtcphflfjhkeooaaDoorW.PrintWords Go.Proofs.YtcphflfjhkeooaaDoorW.PrintLast Go.Proofs.YtcphflfjhkeooaaDoorW.PrintMore
attribute [local go_sem] max2_int min2_int max_two min_two max_three min_three max_four min_four   -- for this text's walks alone
set_option linter.unusedVariables false
set_option linter.unusedSimpArgs false

/-! ### cambiumref03_Check: function 22 -/
mutual
def cambiumref03_Check.j0 : Nat → Bool → Int → List (S39) → List (S39) → Bool → Int → Option (Int)
  | 0, _, _, _, _, _, _ => none
  | k + 1, x20, x134000, x134001, x134002, x134003, x134004 => if x20 = true then (some 7) else (cambiumref03_Check.l0 k x134001 (x134001.length : Int) 0 x134000 x134001 x134002 x134003 x134004)
def cambiumref03_Check.l0 : Nat → List (S39) → Int → Int → Int → List (S39) → List (S39) → Bool → Int → Option (Int)
  | 0, _, _, _, _, _, _, _, _ => none
  | k + 1, x22, x23, x24, x134000, x134001, x134002, x134003, x134004 => if x24 < x23 then (if 0 ≤ x24 then (if x24 < (x22.length : Int) then (if ((rd_T39 x22 x24).f0) ≥ x134000 then (some 7) else ((cambiumref03_right.f ((rd_T39 x22 x24).f1)).bind fun t136 => (if t136 = true then (if ((rd_T39 x22 x24).f1).toList = ([] : List UInt8) then (some 7) else (if x24 > 0 then (if 0 ≤ (wrap64 (x24 - 1)) then (if (wrap64 (x24 - 1)) < (x134001.length : Int) then (if ((rd_T39 x134001 (wrap64 (x24 - 1))).f0) ≥ ((rd_T39 x22 x24).f0) then (some 7) else (cambiumref03_Check.l0 k x22 x23 (wrap64 (x24 + 1)) x134000 x134001 x134002 x134003 x134004)) else (none)) else (none)) else (cambiumref03_Check.l0 k x22 x23 (wrap64 (x24 + 1)) x134000 x134001 x134002 x134003 x134004))) else (some 7)))) else (none)) else (none)) else (cambiumref03_Check.l1 k x134002 (x134002.length : Int) 0 x134000 x134001 x134002 x134003 x134004)
def cambiumref03_Check.l1 : Nat → List (S39) → Int → Int → Int → List (S39) → List (S39) → Bool → Int → Option (Int)
  | 0, _, _, _, _, _, _, _, _ => none
  | k + 1, x63, x64, x65, x134000, x134001, x134002, x134003, x134004 => if x65 < x64 then (if 0 ≤ x65 then (if x65 < (x63.length : Int) then (if ((rd_T39 x63 x65).f0) ≥ x134000 then (some 7) else ((cambiumref03_right.f ((rd_T39 x63 x65).f1)).bind fun t140 => (if t140 = true then (cambiumref03_Check.l1 k x63 x64 (wrap64 (x65 + 1)) x134000 x134001 x134002 x134003 x134004) else (some 7)))) else (none)) else (none)) else (some 0)
end
def cambiumref03_Check.f (k : Nat) (a0_0 : Int) (l0_1 : List (S39)) (l0_2 : List (S39)) (a0_3 : Bool) (a0_4 : Int) : Option (Int) := if a0_0 < 16 then (cambiumref03_Check.j0 k true a0_0 l0_1 l0_2 a0_3 a0_4) else (if a0_0 > 65536 then (cambiumref03_Check.j0 k true a0_0 l0_1 l0_2 a0_3 a0_4) else (cambiumref03_Check.j0 k (decide ((l0_2.length : Int) > 16384)) a0_0 l0_1 l0_2 a0_3 a0_4))
theorem cambiumref03_Check.mono_l : ∀ k, (∀ y0 y1 y2 y3 y4 y5, LeO (cambiumref03_Check.j0 k y0 y1 y2 y3 y4 y5) (cambiumref03_Check.j0 (k + 1) y0 y1 y2 y3 y4 y5)) ∧ (∀ y0 y1 y2 y3 y4 y5 y6 y7, LeO (cambiumref03_Check.l0 k y0 y1 y2 y3 y4 y5 y6 y7) (cambiumref03_Check.l0 (k + 1) y0 y1 y2 y3 y4 y5 y6 y7)) ∧ (∀ y0 y1 y2 y3 y4 y5 y6 y7, LeO (cambiumref03_Check.l1 k y0 y1 y2 y3 y4 y5 y6 y7) (cambiumref03_Check.l1 (k + 1) y0 y1 y2 y3 y4 y5 y6 y7))
  | 0 => ⟨fun _ _ _ _ _ _ r h => by simp [cambiumref03_Check.j0] at h, fun _ _ _ _ _ _ _ _ r h => by simp [cambiumref03_Check.l0] at h, fun _ _ _ _ _ _ _ _ r h => by simp [cambiumref03_Check.l1] at h⟩
  | k + 1 => by
    obtain ⟨ih0, ih1, ih2⟩ := cambiumref03_Check.mono_l k
    refine ⟨?_, ?_, ?_⟩
    · intro y0 y1 y2 y3 y4 y5
      unfold cambiumref03_Check.j0
      repeat' first
      | (with_reducible exact ih0 _ _ _ _ _ _)
      | (with_reducible exact ih1 _ _ _ _ _ _ _ _)
      | (with_reducible exact ih2 _ _ _ _ _ _ _ _)
      | (with_reducible exact LeO.refl _)
      | (with_reducible exact LeO.none _)
      | (with_reducible refine LeO.ite ?_ ?_)
      | (with_reducible refine LeO.bind ?_ (fun _ => ?_))
      | exact ih0 _ _ _ _ _ _
      | exact ih1 _ _ _ _ _ _ _ _
      | exact ih2 _ _ _ _ _ _ _ _
      | exact LeO.none _
      | refine LeO.ite ?_ ?_
      | refine LeO.bind ?_ (fun _ => ?_)
    · intro y0 y1 y2 y3 y4 y5 y6 y7
      unfold cambiumref03_Check.l0
      repeat' first
      | (with_reducible exact ih0 _ _ _ _ _ _)
      | (with_reducible exact ih1 _ _ _ _ _ _ _ _)
      | (with_reducible exact ih2 _ _ _ _ _ _ _ _)
      | (with_reducible exact LeO.refl _)
      | (with_reducible exact LeO.none _)
      | (with_reducible refine LeO.ite ?_ ?_)
      | (with_reducible refine LeO.bind ?_ (fun _ => ?_))
      | exact ih0 _ _ _ _ _ _
      | exact ih1 _ _ _ _ _ _ _ _
      | exact ih2 _ _ _ _ _ _ _ _
      | exact LeO.none _
      | refine LeO.ite ?_ ?_
      | refine LeO.bind ?_ (fun _ => ?_)
    intro y0 y1 y2 y3 y4 y5 y6 y7
    unfold cambiumref03_Check.l1
    repeat' first
    | (with_reducible exact ih0 _ _ _ _ _ _)
    | (with_reducible exact ih1 _ _ _ _ _ _ _ _)
    | (with_reducible exact ih2 _ _ _ _ _ _ _ _)
    | (with_reducible exact LeO.refl _)
    | (with_reducible exact LeO.none _)
    | (with_reducible refine LeO.ite ?_ ?_)
    | (with_reducible refine LeO.bind ?_ (fun _ => ?_))
    | exact ih0 _ _ _ _ _ _
    | exact ih1 _ _ _ _ _ _ _ _
    | exact ih2 _ _ _ _ _ _ _ _
    | exact LeO.none _
    | refine LeO.ite ?_ ?_
    | refine LeO.bind ?_ (fun _ => ?_)
theorem cambiumref03_Check.mono : ∀ a0 a1 a2 a3 a4 k, LeO (cambiumref03_Check.f k a0 a1 a2 a3 a4) (cambiumref03_Check.f (k + 1) a0 a1 a2 a3 a4) := by
  intro a0 a1 a2 a3 a4 k
  obtain ⟨ih0, ih1, ih2⟩ := cambiumref03_Check.mono_l k
  unfold cambiumref03_Check.f
  repeat' first
      | (with_reducible exact ih0 _ _ _ _ _ _)
      | (with_reducible exact ih1 _ _ _ _ _ _ _ _)
      | (with_reducible exact ih2 _ _ _ _ _ _ _ _)
      | (with_reducible exact LeO.refl _)
      | (with_reducible exact LeO.none _)
      | (with_reducible refine LeO.ite ?_ ?_)
      | (with_reducible refine LeO.bind ?_ (fun _ => ?_))
      | exact ih0 _ _ _ _ _ _
      | exact ih1 _ _ _ _ _ _ _ _
      | exact ih2 _ _ _ _ _ _ _ _
      | exact LeO.none _
      | refine LeO.ite ?_ ?_
      | refine LeO.bind ?_ (fun _ => ?_)
def cambiumref03_Check.T6 : Bool × List (List Nat × List Nat) := (true, [([], []), ([0], [0]), ([], []), ([2], [2]), ([1, 3], [1, 3]), ([4], [4]), ([5], [5]), ([6, 5], [5, 6]), ([7, 5, 5], [5, 7]), ([8, 5], [5, 8]), ([5, 9], [5, 9]), ([10, 8], [10]), ([11], [11]), ([12, 11], [11, 12]), ([13, 11], [11, 13]), ([11, 14], [11, 14]), ([15, 11], [15]), ([16], [16]), ([17, 16], [16, 17]), ([18, 16, 16], [16, 18]), ([19], [19]), ([20, 19], [19, 20]), ([19], [19]), ([22, 19], [19, 22]), ([21, 23, 19], [19, 21, 23]), ([24, 19], [19, 24]), ([25, 19], [19, 25]), ([19], [19]), ([27, 19], [19, 27]), ([26, 28, 19], [19, 26, 28]), ([19, 29, 16], [16, 19, 29]), ([16, 30], [16, 30])])
def cambiumref03_Check.B6 : List Nat := [0, 1, 0, 4, 15, 31, 63, 127, 255, 511, 1023, 2047, 4095, 8191, 16383, 32767, 65535, 131071, 262143, 524287, 1048575, 2097151, 1048575, 5242879, 16777215, 33554431, 67108863, 1048575, 135266303, 536870911, 1073741823, 2147483647]
theorem cambiumref03_Check.tab6 : rtab .any (opsOf Tryd.f22 6) = cambiumref03_Check.T6 := by kernel_rfl
theorem cambiumref03_Check.bits6 : waitsOk cambiumref03_Check.T6.2 cambiumref03_Check.B6 = true := by kernel_rfl
set_option maxHeartbeats 8000000 in
set_option maxRecDepth 100000 in
theorem cambiumref03_Check.calls (k : Nat) (a0_0 : Int) (A0_1 : Option Addr) (c0_1 : Nat) (l0_1 : List (S39)) (A0_2 : Option Addr) (c0_2 : Nat) (l0_2 : List (S39)) (a0_3 : Bool) (a0_4 : Int) (r : Int) (w : World) (hr0_1 : Kd.C k39 w A0_1 l0_1.length l0_1) (hc0_1 : l0_1.length ≤ c0_1) (hr0_2 : Kd.C k39 w A0_2 l0_2.length l0_2) (hc0_2 : l0_2.length ≤ c0_2) (h : cambiumref03_Check.f k a0_0 l0_1 l0_2 a0_3 a0_4 = some r) :
    Calls Tryd.prog 22 #[.agg #[.int .u32 a0_0, .slice A0_1 l0_1.length c0_1, .slice A0_2 l0_2.length c0_2, .bool a0_3, .int .i64 a0_4]] w fun e w' => e = .returned (.int .i64 r) ∧ Below w.heap.size w w' := by
  have hu25 := Tryd.underlying25
  have hu39 := Tryd.underlying39
  have HR0_1 := Aside0.mk hr0_1
  have HC0_1 := Aside0.mk hc0_1
  clear hr0_1 hc0_1
  have HR0_2 := Aside0.mk hr0_2
  have HC0_2 := Aside0.mk hc0_2
  clear hr0_2 hc0_2
  have HB := Aside0.mk (Below.refl w.heap.size w)
  have H : (if a0_0 < 16 then (cambiumref03_Check.j0 k true a0_0 l0_1 l0_2 a0_3 a0_4) else (if a0_0 > 65536 then (cambiumref03_Check.j0 k true a0_0 l0_1 l0_2 a0_3 a0_4) else (cambiumref03_Check.j0 k (decide ((l0_2.length : Int) > 16384)) a0_0 l0_1 l0_2 a0_3 a0_4))) = some r := h
  clear h
  have HC2 := Aside0.mk H
  clear H
  go_enter Tryd.func22, Tryd.ntmps22
  go_upto_region 1 with (first | ((with_reducible refine gate_dst (N := 1) rfl ?_); (try (refine gate_guard (by rfl) ?_; dsimp only)); refine bx_ (N := 1) (cs := #[.int .u32 a0_0, .slice A0_1 l0_1.length c0_1, .slice A0_2 l0_2.length c0_2, .bool a0_3, .int .i64 a0_4]) (t := 25) ?_; intro gb133 hg w3 hbox hb; have n0_ := Aside0.mk (below_step bel_ hb); have n1_ := Aside0.mk (hbox); have n2_ := Aside0.mk ((by rw [hg]; exact (below_size bel_) : w.heap.size ≤ gb133)); have n3_ := Aside0.mk ((by rw [hg]; exact (below_size bel_) : w.heap.size ≤ gb133)); clear HB; have HB := n0_; have BK133 := n1_; have GW133 := n2_; have GE133 := n3_; clear n0_ n1_ n2_ n3_; clear hb hbox hg))
  (try simp only [Act.put, List.setIfInBounds_toArray, List.set_cons_zero, List.set_cons_succ])
  go_cut [20] (fun v20 wc => ∃ (kq : Nat) (x20_1 : Bool), v20 = .bool x20_1 ∧ Aside0 (cambiumref03_Check.j0 kq x20_1 a0_0 l0_1 l0_2 a0_3 a0_4 = some r) ∧ Aside0 (kq ≤ k) ∧ Aside0 (wc.heap[gb133]? = some (.cells #[.int .u32 a0_0, (.slice A0_1 l0_1.length c0_1), (.slice A0_2 l0_2.length c0_2), .bool a0_3, .int .i64 a0_4] 25 (0, 0))) ∧ Aside0 (Below w.heap.size w wc))
  case first =>
    have H := HC2.out
    clear HC2
    by_cases c4 : a0_0 < 16
    · rw [if_pos c4] at H
      have c4b0 : decide (a0_0 < 16) = true := decide_eq_true c4
      clear c4
      (first | rw [c4b0] | (simp only [i64_w, i32_w]; rw [c4b0]) | skip)
      have H' := Aside0.mk H
      clear H
      obtain ⟨hcz5_0, hcz5_1, hcz5_2, hcz5_3, hcz5_4⟩ := cl5_ BK133
      obtain ⟨hfz5_0, hfz5_1, hfz5_2, hfz5_3, hfz5_4⟩ := fz5_ BK133
      go_wp2
      go_meet
      case rel => exact ⟨_, (true), (by first | rfl | (simp; done) | (simp [*]; done)), H', ⟨by first | omega | exact Nat.le_refl _⟩, ⟨bk_ BK133⟩, ⟨bel_⟩⟩
    rw [if_neg c4] at H
    have c4b0 : decide (a0_0 < 16) = false := decide_eq_false c4
    clear c4
    (first | rw [c4b0] | (simp only [i64_w, i32_w]; rw [c4b0]) | skip)
    by_cases c6 : a0_0 > 65536
    · rw [if_pos c6] at H
      have c6b0 : decide (65536 < a0_0) = true := decide_eq_true c6
      clear c6
      have H' := Aside0.mk H
      clear H
      obtain ⟨hcz7_0, hcz7_1, hcz7_2, hcz7_3, hcz7_4⟩ := cl5_ BK133
      obtain ⟨hfz7_0, hfz7_1, hfz7_2, hfz7_3, hfz7_4⟩ := fz5_ BK133
      go_wp2
      go_meet
      case rel => exact ⟨_, (true), (by first | rfl | (simp; done) | (simp [*]; done)), H', ⟨by first | omega | exact Nat.le_refl _⟩, ⟨bk_ BK133⟩, ⟨bel_⟩⟩
    rw [if_neg c6] at H
    have c6b0 : decide (65536 < a0_0) = false := decide_eq_false c6
    clear c6
    have H' := Aside0.mk H
    clear H
    obtain ⟨hcz8_0, hcz8_1, hcz8_2, hcz8_3, hcz8_4⟩ := cl5_ BK133
    obtain ⟨hfz8_0, hfz8_1, hfz8_2, hfz8_3, hfz8_4⟩ := fz5_ BK133
    go_wp2
    go_meet
    case rel => exact ⟨_, (decide ((l0_2.length : Int) > 16384)), (by first | rfl | (simp; done) | (simp [*]; done)), H', ⟨by first | omega | exact Nat.le_refl _⟩, ⟨bk_ BK133⟩, ⟨bel_⟩⟩
  case rest =>
    clear HC2
    try clear c2
    try clear p2
    try clear c4
    try clear c4b0
    try clear c6
    try clear c6b0
    try clear hcz5_0
    try clear hcz5_1
    try clear hcz5_2
    try clear hcz5_3
    try clear hcz5_4
    try clear hcz7_0
    try clear hcz7_1
    try clear hcz7_2
    try clear hcz7_3
    try clear hcz7_4
    try clear hcz8_0
    try clear hcz8_1
    try clear hcz8_2
    try clear hcz8_3
    try clear hcz8_4
    try clear hfz5_0
    try clear hfz5_1
    try clear hfz5_2
    try clear hfz5_3
    try clear hfz5_4
    try clear hfz7_0
    try clear hfz7_1
    try clear hfz7_2
    try clear hfz7_3
    try clear hfz7_4
    try clear hfz8_0
    try clear hfz8_1
    try clear hfz8_2
    try clear hfz8_3
    try clear hfz8_4
    obtain ⟨kq, x20_1, rfl, HA, HJ1, BK133, HB⟩ := hcut
    cases kq with
    | zero => exact absurd HA.out (by simp [cambiumref03_Check.j0])
    | succ kj1 =>
      have H := HA.out
      clear HA
      simp only [cambiumref03_Check.j0] at H
      by_cases c9 : x20_1 = true
      · subst c9
        have H1 : (some 7) = some r := by rw [if_pos rfl] at H; exact H
        clear H
        have H := H1
        clear H1
        obtain rfl := Option.some.inj H
        go_wp2
        go_ret
        exact ⟨by first | rfl | (simp [errW_none, errW_some] <;> rfl) | (simp [*, errW_none, errW_some] <;> rfl), bel_⟩
      replace c9 := Bool.eq_false_iff.mpr c9
      subst c9
      have H1 : (cambiumref03_Check.l0 kj1 l0_1 (l0_1.length : Int) 0 a0_0 l0_1 l0_2 a0_3 a0_4) = some r := by rw [if_neg (show ¬ (false = true) by decide)] at H; exact H
      clear H
      have H := H1
      clear H1
      have H' := Aside0.mk H
      clear H
      obtain ⟨hcz10_0, hcz10_1, hcz10_2, hcz10_3, hcz10_4⟩ := cl5_ BK133
      obtain ⟨hfz10_0, hfz10_1, hfz10_2, hfz10_3, hfz10_4⟩ := fz5_ BK133
      go_wp2
      go_loopg [24] kj1 (fun kq v24 w' => ∃ (x24_2 : Int), v24 = .int .i64 x24_2 ∧ Aside0 (cambiumref03_Check.l0 kq l0_1 (l0_1.length : Int) x24_2 a0_0 l0_1 l0_2 a0_3 a0_4 = some r) ∧ Aside0 (kq ≤ kj1) ∧ Aside0 (w'.heap[gb133]? = some (.cells #[.int .u32 a0_0, (.slice A0_1 l0_1.length c0_1), (.slice A0_2 l0_2.length c0_2), .bool a0_3, .int .i64 a0_4] 25 (0, 0))) ∧ Aside0 (Below w.heap.size w w'))
      case atStart => exact ⟨(0), (by first | rfl | (simp; done) | (simp [*]; done)), H', ⟨Nat.le_refl _⟩, ⟨bk_ BK133⟩, ⟨bel_⟩⟩
      case round =>
        clear H'
        try clear c2
        try clear p2
        try clear c4
        try clear c4b0
        try clear c6
        try clear c6b0
        try clear c9
        try clear hcz10_0
        try clear hcz10_1
        try clear hcz10_2
        try clear hcz10_3
        try clear hcz10_4
        try clear hcz5_0
        try clear hcz5_1
        try clear hcz5_2
        try clear hcz5_3
        try clear hcz5_4
        try clear hcz7_0
        try clear hcz7_1
        try clear hcz7_2
        try clear hcz7_3
        try clear hcz7_4
        try clear hcz8_0
        try clear hcz8_1
        try clear hcz8_2
        try clear hcz8_3
        try clear hcz8_4
        try clear hfz10_0
        try clear hfz10_1
        try clear hfz10_2
        try clear hfz10_3
        try clear hfz10_4
        try clear hfz5_0
        try clear hfz5_1
        try clear hfz5_2
        try clear hfz5_3
        try clear hfz5_4
        try clear hfz7_0
        try clear hfz7_1
        try clear hfz7_2
        try clear hfz7_3
        try clear hfz7_4
        try clear hfz8_0
        try clear hfz8_1
        try clear hfz8_2
        try clear hfz8_3
        try clear hfz8_4
        try clear p2
        obtain ⟨x24_2, rfl, HA, HK2, BK133, HB⟩ := hrel
        cases gk with
        | zero => exact absurd HA.out (by simp [cambiumref03_Check.l0])
        | succ k2 =>
          have H := HA.out
          clear HA
          simp only [cambiumref03_Check.l0] at H
          by_cases c11 : x24_2 < (l0_1.length : Int)
          · rw [if_pos c11] at H
            have c11b0 : decide (x24_2 < (l0_1.length : Int)) = true := decide_eq_true c11
            clear c11
            by_cases c12 : 0 ≤ x24_2
            · rw [if_pos c12] at H
              have c12b0 : decide (0 ≤ x24_2) = true := decide_eq_true c12
              clear c12
              by_cases c13 : x24_2 < (l0_1.length : Int)
              · rw [if_pos c13] at H
                have c13b0 : decide (x24_2 < (l0_1.length : Int)) = true := decide_eq_true c13
                clear c13
                by_cases c14 : ((rd_T39 l0_1 x24_2).f0) ≥ a0_0
                · rw [if_pos c14] at H
                  have c14b0 : decide (a0_0 ≤ ((rd_T39 l0_1 x24_2).f0)) = true := decide_eq_true c14
                  clear c14
                  obtain rfl := Option.some.inj H
                  have p134 : 0 ≤ (x24_2 : Int) := of_decide_eq_true (by first | (with_reducible assumption) | assumption)
                  have q134 : x24_2 < (l0_1.length : Int) := of_decide_eq_true (by first | (with_reducible assumption) | assumption)
                  obtain ⟨ad134, e134, hx134_0, hx134_1⟩ := at_T39 HR0_1.out x24_2 p134 q134
                  cases e134
                  replace hx134_0 := (HB.out.cell (World.block_lt_of_cell? w _ hx134_0)).trans hx134_0
                  replace hx134_1 := (HB.out.cell (World.block_lt_of_cell? w _ hx134_1)).trans hx134_1
                  replace p134 := eq_true p134
                  replace q134 := eq_true q134
                  try go_wp2_with (first | ((with_reducible refine gate_dst (N := 4) rfl ?_); (try (refine gate_guard (by rfl) ?_; dsimp only)); refine bx_ (N := 4) (cs := #[.int .u32 0, .string (⟨#[]⟩ : ByteArray)]) (t := 39) ?_; intro gb135 hg w15 hbox hb; have BK135 := Aside0.mk (hbox); have GW135 := ge_ hg; have GE135 := ge_ hg; have NB133_135 := nl_ BK133 hg; have NB135_133 := ng_ BK133 hg; replace BK133 := kb_ BK133 hb; replace HB := hb_ hb; clear hb hbox hg; have hnb16 := NB135_133.out; have hnc16 := NB133_135.out; obtain ⟨hcz17_0, hcz17_1⟩ := cl2_ BK135; obtain ⟨hfz17_0, hfz17_1⟩ := fz2_ BK135))
                  have n0_ : Aside0 (((w15.setCell ⟨gb135, 0, none⟩ (.int .u32 ((rd_T39 l0_1 x24_2).f0))).setCell ⟨gb135, 1, none⟩ (.string ((rd_T39 l0_1 x24_2).f1))).heap[gb133]? = some (.cells #[.int .u32 a0_0, .slice (some ad134) l0_1.length c0_1, .slice A0_2 l0_2.length c0_2, .bool a0_3, .int .i64 a0_4] 25 (0, 0))) := ⟨bs_⟩
                  have n1_ : Aside0 (((w15.setCell ⟨gb135, 0, none⟩ (.int .u32 ((rd_T39 l0_1 x24_2).f0))).setCell ⟨gb135, 1, none⟩ (.string ((rd_T39 l0_1 x24_2).f1))).heap[gb135]? = some (.cells #[.int .u32 ((rd_T39 l0_1 x24_2).f0), .string ((rd_T39 l0_1 x24_2).f1)] 39 (0, 0))) := ⟨bs_⟩
                  have n2_ : Aside0 (Below w.heap.size w ((w15.setCell ⟨gb135, 0, none⟩ (.int .u32 ((rd_T39 l0_1 x24_2).f0))).setCell ⟨gb135, 1, none⟩ (.string ((rd_T39 l0_1 x24_2).f1)))) := ⟨bel_⟩
                  (try clear BK133)
                  (try clear BK135)
                  (try clear HB)
                  generalize ((w15.setCell ⟨gb135, 0, none⟩ (.int .u32 ((rd_T39 l0_1 x24_2).f0))).setCell ⟨gb135, 1, none⟩ (.string ((rd_T39 l0_1 x24_2).f1))) = w18 at n0_ n1_ n2_ ⊢
                  have BK133 := n0_
                  have BK135 := n1_
                  have HB := n2_
                  clear n0_ n1_ n2_
                  replace BK133 := Aside0.mk (blk_drew BK133.out)
                  replace BK135 := Aside0.mk (blk_drew BK135.out)
                  replace HB := Aside0.mk (below_drew1 HB.out)
                  refine start_ (n := 32) (S := fun w' => w'.cell? ⟨gb135, 0, none⟩ = some (.int .u32 ((rd_T39 l0_1 x24_2).f0)) ∧ w'.cell? ⟨gb135, 1, none⟩ = some (.string ((rd_T39 l0_1 x24_2).f1)) ∧ w'.cell? ⟨gb133, 0, none⟩ = some (.int .u32 a0_0) ∧ w'.cell? ⟨gb133, 1, none⟩ = some (.slice (some ad134) l0_1.length c0_1) ∧ w'.cell? ⟨gb133, 2, none⟩ = some (.slice A0_2 l0_2.length c0_2) ∧ w'.cell? ⟨gb133, 3, none⟩ = some (.bool a0_3) ∧ w'.cell? ⟨gb133, 4, none⟩ = some (.int .i64 a0_4)) (ds := []) #[false, false, false, false, false, false, false, false, false, false, false, false, false, false, false, false, false, false, false, false, false, false, false, false, false, false, false, false, false, false, false, false] (by kernel_rfl) rfl rfl hc_ (fun hHeld => ?_); refine with_tabW cambiumref03_Check.tab6 cambiumref03_Check.bits6 (fun HT_ HW_ => ?_)
                  generalize w18.drew = w19 at BK133 BK135 HB hHeld ⊢
                  refine pu_ 0 29 ?_
                  refine pu_ 2 31 ?_
                  refine tk7_ 1 30 ?_
                  refine tk7_ 3 32 ?_
                  refine pu_ 4 33 ?_
                  refine pu_ 5 34 ?_
                  refine un_ 6 35 ?_
                  refine un_ 7 36 ?_
                  refine un_ 8 37 ?_
                  refine un_ 9 38 ?_
                  refine pu_ 10 39 ?_
                  refine pu_ 11 40 ?_
                  refine un_ 12 41 ?_
                  refine un_ 13 42 ?_
                  refine un_ 14 43 ?_
                  refine pu_ 15 44 ?_
                  refine pu_ 16 45 ?_
                  refine un_ 17 46 ?_
                  refine un_ 18 47 ?_
                  refine un_ 19 48 ?_
                  refine un_ 20 49 ?_
                  refine un_ 21 50 ?_
                  refine un_ 22 51 ?_
                  refine un_ 23 52 ?_
                  refine un_ 24 53 ?_
                  refine un_ 25 54 ?_
                  refine un_ 26 55 ?_
                  refine un_ 27 56 ?_
                  refine un_ 28 57 ?_
                  refine un_ 29 58 ?_
                  refine un_ 30 59 ?_
                  refine pu_ 31 60 ?_
                  refine done_ (done_of HT_.out (by kernel_rfl)) ?_
                  try go_wp2
                  go_ret
                  exact ⟨by first | rfl | (simp [errW_none, errW_some] <;> rfl) | (simp [*, errW_none, errW_some] <;> rfl), bel_⟩
                rw [if_neg c14] at H
                have c14b0 : decide (a0_0 ≤ ((rd_T39 l0_1 x24_2).f0)) = false := decide_eq_false c14
                clear c14
                replace H := Option.bind_eq_some_iff.mp H
                obtain ⟨t136, A200, H⟩ := H
                replace H : (if t136 = true then (if ((rd_T39 l0_1 x24_2).f1).toList = ([] : List UInt8) then (some 7) else (if x24_2 > 0 then (if 0 ≤ (wrap64 (x24_2 - 1)) then (if (wrap64 (x24_2 - 1)) < (l0_1.length : Int) then (if ((rd_T39 l0_1 (wrap64 (x24_2 - 1))).f0) ≥ ((rd_T39 l0_1 x24_2).f0) then (some 7) else (cambiumref03_Check.l0 k2 l0_1 (l0_1.length : Int) (wrap64 (x24_2 + 1)) a0_0 l0_1 l0_2 a0_3 a0_4)) else (none)) else (none)) else (cambiumref03_Check.l0 k2 l0_1 (l0_1.length : Int) (wrap64 (x24_2 + 1)) a0_0 l0_1 l0_2 a0_3 a0_4))) else (some 7)) = some r := H
                have A20 := Aside0.mk A200
                clear A200
                by_cases c21 : t136 = true
                · subst c21
                  have H1 : (if ((rd_T39 l0_1 x24_2).f1).toList = ([] : List UInt8) then (some 7) else (if x24_2 > 0 then (if 0 ≤ (wrap64 (x24_2 - 1)) then (if (wrap64 (x24_2 - 1)) < (l0_1.length : Int) then (if ((rd_T39 l0_1 (wrap64 (x24_2 - 1))).f0) ≥ ((rd_T39 l0_1 x24_2).f0) then (some 7) else (cambiumref03_Check.l0 k2 l0_1 (l0_1.length : Int) (wrap64 (x24_2 + 1)) a0_0 l0_1 l0_2 a0_3 a0_4)) else (none)) else (none)) else (cambiumref03_Check.l0 k2 l0_1 (l0_1.length : Int) (wrap64 (x24_2 + 1)) a0_0 l0_1 l0_2 a0_3 a0_4))) = some r := by rw [if_pos rfl] at H; exact H
                  clear H
                  have H := H1
                  clear H1
                  by_cases c22 : ((rd_T39 l0_1 x24_2).f1).toList = ([] : List UInt8)
                  · rw [if_pos c22] at H
                    have c22b0 : (((rd_T39 l0_1 x24_2).f1).toList == ([] : List UInt8)) = true := beq_iff_eq.mpr c22
                    have c22b1 : (((rd_T39 l0_1 x24_2).f1).toList != ([] : List UInt8)) = false := bne_eq_false_iff_eq.mpr c22
                    clear c22
                    obtain rfl := Option.some.inj H
                    have p134 : 0 ≤ (x24_2 : Int) := of_decide_eq_true (by first | (with_reducible assumption) | assumption)
                    have q134 : x24_2 < (l0_1.length : Int) := of_decide_eq_true (by first | (with_reducible assumption) | assumption)
                    obtain ⟨ad134, e134, hx134_0, hx134_1⟩ := at_T39 HR0_1.out x24_2 p134 q134
                    cases e134
                    replace hx134_0 := (HB.out.cell (World.block_lt_of_cell? w _ hx134_0)).trans hx134_0
                    replace hx134_1 := (HB.out.cell (World.block_lt_of_cell? w _ hx134_1)).trans hx134_1
                    replace p134 := eq_true p134
                    replace q134 := eq_true q134
                    try go_wp2_with (first | ((with_reducible refine gate_dst (N := 4) rfl ?_); (try (refine gate_guard (by rfl) ?_; dsimp only)); refine bx_ (N := 4) (cs := #[.int .u32 0, .string (⟨#[]⟩ : ByteArray)]) (t := 39) ?_; intro gb135 hg w23 hbox hb; have BK135 := Aside0.mk (hbox); have GW135 := ge_ hg; have GE135 := ge_ hg; have NB133_135 := nl_ BK133 hg; have NB135_133 := ng_ BK133 hg; replace BK133 := kb_ BK133 hb; replace HB := hb_ hb; clear hb hbox hg; have hnb24 := NB135_133.out; have hnc24 := NB133_135.out; obtain ⟨hcz25_0, hcz25_1⟩ := cl2_ BK135; obtain ⟨hfz25_0, hfz25_1⟩ := fz2_ BK135))
                    have n0_ : Aside0 (((w23.setCell ⟨gb135, 0, none⟩ (.int .u32 ((rd_T39 l0_1 x24_2).f0))).setCell ⟨gb135, 1, none⟩ (.string ((rd_T39 l0_1 x24_2).f1))).heap[gb133]? = some (.cells #[.int .u32 a0_0, .slice (some ad134) l0_1.length c0_1, .slice A0_2 l0_2.length c0_2, .bool a0_3, .int .i64 a0_4] 25 (0, 0))) := ⟨bs_⟩
                    have n1_ : Aside0 (((w23.setCell ⟨gb135, 0, none⟩ (.int .u32 ((rd_T39 l0_1 x24_2).f0))).setCell ⟨gb135, 1, none⟩ (.string ((rd_T39 l0_1 x24_2).f1))).heap[gb135]? = some (.cells #[.int .u32 ((rd_T39 l0_1 x24_2).f0), .string ((rd_T39 l0_1 x24_2).f1)] 39 (0, 0))) := ⟨bs_⟩
                    have n2_ : Aside0 (Below w.heap.size w ((w23.setCell ⟨gb135, 0, none⟩ (.int .u32 ((rd_T39 l0_1 x24_2).f0))).setCell ⟨gb135, 1, none⟩ (.string ((rd_T39 l0_1 x24_2).f1)))) := ⟨bel_⟩
                    (try clear BK133)
                    (try clear BK135)
                    (try clear HB)
                    generalize ((w23.setCell ⟨gb135, 0, none⟩ (.int .u32 ((rd_T39 l0_1 x24_2).f0))).setCell ⟨gb135, 1, none⟩ (.string ((rd_T39 l0_1 x24_2).f1))) = w26 at n0_ n1_ n2_ ⊢
                    have BK133 := n0_
                    have BK135 := n1_
                    have HB := n2_
                    clear n0_ n1_ n2_
                    replace BK133 := Aside0.mk (blk_drew BK133.out)
                    replace BK135 := Aside0.mk (blk_drew BK135.out)
                    replace HB := Aside0.mk (below_drew1 HB.out)
                    refine start_ (n := 32) (S := fun w' => w'.cell? ⟨gb135, 0, none⟩ = some (.int .u32 ((rd_T39 l0_1 x24_2).f0)) ∧ w'.cell? ⟨gb135, 1, none⟩ = some (.string ((rd_T39 l0_1 x24_2).f1)) ∧ w'.cell? ⟨gb133, 0, none⟩ = some (.int .u32 a0_0) ∧ w'.cell? ⟨gb133, 1, none⟩ = some (.slice (some ad134) l0_1.length c0_1) ∧ w'.cell? ⟨gb133, 2, none⟩ = some (.slice A0_2 l0_2.length c0_2) ∧ w'.cell? ⟨gb133, 3, none⟩ = some (.bool a0_3) ∧ w'.cell? ⟨gb133, 4, none⟩ = some (.int .i64 a0_4)) (ds := []) #[false, false, false, false, false, false, false, false, false, false, false, false, false, false, false, false, false, false, false, false, false, false, false, false, false, false, false, false, false, false, false, false] (by kernel_rfl) rfl rfl hc_ (fun hHeld => ?_); refine with_tabW cambiumref03_Check.tab6 cambiumref03_Check.bits6 (fun HT_ HW_ => ?_)
                    generalize w26.drew = w27 at BK133 BK135 HB hHeld ⊢
                    refine pu_ 0 29 ?_
                    refine pu_ 2 31 ?_
                    refine tk7_ 1 30 ?_
                    refine tk7_ 3 32 ?_
                    refine pu_ 4 33 ?_
                    refine pu_ 5 34 ?_
                    refine pu_ 6 35 ?_
                    refine tk7_ 7 36 ?_
                    refine on_ 8 37 (fun K hK => ?_)
                    refine goes_ Tryd.func38 (by kernel_rfl) rfl #[.string ((rd_T39 l0_1 x24_2).f1)] (by rfl) rfl rfl (by (try simp only [List.map_toArray, List.map_cons, List.map_nil]); first | done | rfl | (simp only [List.length_drop, List.length_take]; rfl)) ?_
                    with_reducible refine (cambiumref03_right.calls ((rd_T39 l0_1 x24_2).f1) true _ A20.out).mono ?_
                    rintro e w' ⟨rfl, ⟨nd, rfl⟩⟩
                    refine ⟨_, rfl, ?_⟩
                    refine hK.out _ _ hc_ (fun hHeld => ?_)
                    clear hK K
                    refine nm_ 37 ?_
                    refine pu_ 9 38 ?_
                    refine pu_ 10 39 ?_
                    refine pu_ 11 40 ?_
                    refine pu_ 12 41 ?_
                    refine tk7_ 13 42 ?_
                    refine pu_ 14 43 ?_
                    refine pu_ 15 44 ?_
                    refine pu_ 16 45 ?_
                    refine un_ 17 46 ?_
                    refine un_ 18 47 ?_
                    refine un_ 19 48 ?_
                    refine un_ 20 49 ?_
                    refine un_ 21 50 ?_
                    refine un_ 22 51 ?_
                    refine un_ 23 52 ?_
                    refine un_ 24 53 ?_
                    refine un_ 25 54 ?_
                    refine un_ 26 55 ?_
                    refine un_ 27 56 ?_
                    refine un_ 28 57 ?_
                    refine un_ 29 58 ?_
                    refine un_ 30 59 ?_
                    refine pu_ 31 60 ?_
                    refine done_ (done_of HT_.out (by kernel_rfl)) ?_
                    try go_wp2
                    go_ret
                    exact ⟨by first | rfl | (simp [errW_none, errW_some] <;> rfl) | (simp [*, errW_none, errW_some] <;> rfl), bel_⟩
                  rw [if_neg c22] at H
                  have c22b0 : (((rd_T39 l0_1 x24_2).f1).toList == ([] : List UInt8)) = false := beq_eq_false_iff_ne.mpr c22
                  have c22b1 : (((rd_T39 l0_1 x24_2).f1).toList != ([] : List UInt8)) = true := bne_iff_ne.mpr c22
                  by_cases c28 : x24_2 > 0
                  · rw [if_pos c28] at H
                    have c28b0 : decide (0 < x24_2) = true := decide_eq_true c28
                    clear c28
                    obtain ⟨ji29, hji29⟩ : ∃ j_ : Int, (wrap64 (x24_2 - 1)) = j_ := ⟨_, rfl⟩
                    replace H : (if 0 ≤ (ji29) then (if (ji29) < (l0_1.length : Int) then (if ((rd_T39 l0_1 (ji29)).f0) ≥ ((rd_T39 l0_1 x24_2).f0) then (some 7) else (cambiumref03_Check.l0 k2 l0_1 (l0_1.length : Int) (wrap64 (x24_2 + 1)) a0_0 l0_1 l0_2 a0_3 a0_4)) else (none)) else (none)) = some r := by first | (rw [hji29] at H; exact H) | (simp only [hji29] at H ⊢; exact H)
                    (try rw [hji29] at A20)
                    have hji29w : (IntKind.i64.wrap (x24_2 - 1)) = ji29 := (i64_w _).trans hji29
                    by_cases c30 : 0 ≤ (ji29)
                    · rw [if_pos c30] at H
                      have c30b0 : decide (0 ≤ (ji29)) = true := decide_eq_true c30
                      clear c30
                      by_cases c31 : (ji29) < (l0_1.length : Int)
                      · rw [if_pos c31] at H
                        have c31b0 : decide ((ji29) < (l0_1.length : Int)) = true := decide_eq_true c31
                        clear c31
                        by_cases c32 : ((rd_T39 l0_1 (ji29)).f0) ≥ ((rd_T39 l0_1 x24_2).f0)
                        · rw [if_pos c32] at H
                          have c32b0 : decide (((rd_T39 l0_1 x24_2).f0) ≤ ((rd_T39 l0_1 (ji29)).f0)) = true := decide_eq_true c32
                          clear c32
                          obtain rfl := Option.some.inj H
                          have p134 : 0 ≤ (x24_2 : Int) := of_decide_eq_true (by first | (with_reducible assumption) | assumption)
                          have q134 : x24_2 < (l0_1.length : Int) := of_decide_eq_true (by first | (with_reducible assumption) | assumption)
                          obtain ⟨ad134, e134, hx134_0, hx134_1⟩ := at_T39 HR0_1.out x24_2 p134 q134
                          cases e134
                          replace hx134_0 := (HB.out.cell (World.block_lt_of_cell? w _ hx134_0)).trans hx134_0
                          replace hx134_1 := (HB.out.cell (World.block_lt_of_cell? w _ hx134_1)).trans hx134_1
                          replace p134 := eq_true p134
                          replace q134 := eq_true q134
                          try go_wp2_with (first | ((with_reducible refine gate_dst (N := 4) rfl ?_); (try (refine gate_guard (by rfl) ?_; dsimp only)); refine bx_ (N := 4) (cs := #[.int .u32 0, .string (⟨#[]⟩ : ByteArray)]) (t := 39) ?_; intro gb135 hg w33 hbox hb; have BK135 := Aside0.mk (hbox); have GW135 := ge_ hg; have GE135 := ge_ hg; have NB133_135 := nl_ BK133 hg; have NB135_133 := ng_ BK133 hg; replace BK133 := kb_ BK133 hb; replace HB := hb_ hb; clear hb hbox hg; have hnb34 := NB135_133.out; have hnc34 := NB133_135.out; obtain ⟨hcz35_0, hcz35_1⟩ := cl2_ BK135; obtain ⟨hfz35_0, hfz35_1⟩ := fz2_ BK135))
                          have n0_ : Aside0 (((w33.setCell ⟨gb135, 0, none⟩ (.int .u32 ((rd_T39 l0_1 x24_2).f0))).setCell ⟨gb135, 1, none⟩ (.string ((rd_T39 l0_1 x24_2).f1))).heap[gb133]? = some (.cells #[.int .u32 a0_0, .slice (some ad134) l0_1.length c0_1, .slice A0_2 l0_2.length c0_2, .bool a0_3, .int .i64 a0_4] 25 (0, 0))) := ⟨bs_⟩
                          have n1_ : Aside0 (((w33.setCell ⟨gb135, 0, none⟩ (.int .u32 ((rd_T39 l0_1 x24_2).f0))).setCell ⟨gb135, 1, none⟩ (.string ((rd_T39 l0_1 x24_2).f1))).heap[gb135]? = some (.cells #[.int .u32 ((rd_T39 l0_1 x24_2).f0), .string ((rd_T39 l0_1 x24_2).f1)] 39 (0, 0))) := ⟨bs_⟩
                          have n2_ : Aside0 (Below w.heap.size w ((w33.setCell ⟨gb135, 0, none⟩ (.int .u32 ((rd_T39 l0_1 x24_2).f0))).setCell ⟨gb135, 1, none⟩ (.string ((rd_T39 l0_1 x24_2).f1)))) := ⟨bel_⟩
                          (try clear BK133)
                          (try clear BK135)
                          (try clear HB)
                          generalize ((w33.setCell ⟨gb135, 0, none⟩ (.int .u32 ((rd_T39 l0_1 x24_2).f0))).setCell ⟨gb135, 1, none⟩ (.string ((rd_T39 l0_1 x24_2).f1))) = w36 at n0_ n1_ n2_ ⊢
                          have BK133 := n0_
                          have BK135 := n1_
                          have HB := n2_
                          clear n0_ n1_ n2_
                          replace BK133 := Aside0.mk (blk_drew BK133.out)
                          replace BK135 := Aside0.mk (blk_drew BK135.out)
                          replace HB := Aside0.mk (below_drew1 HB.out)
                          have p137 : 0 ≤ ((ji29) : Int) := of_decide_eq_true (by first | (with_reducible assumption) | assumption)
                          have q137 : (ji29) < (l0_1.length : Int) := of_decide_eq_true (by first | (with_reducible assumption) | assumption)
                          obtain ⟨ad137, e137, hx137_0, hx137_1⟩ := at_T39 HR0_1.out (ji29) p137 q137
                          have hw137_1 := hx137_1
                          have hw137_0 := hx137_0
                          obtain rfl : ad134 = ad137 := (by injection e137)
                          replace hx137_0 := (HB.out.cell (World.block_lt_of_cell? w _ hx137_0)).trans hx137_0
                          replace hx137_1 := (HB.out.cell (World.block_lt_of_cell? w _ hx137_1)).trans hx137_1
                          replace p137 := eq_true p137
                          replace q137 := eq_true q137
                          refine start_ (n := 32) (S := fun w' => w'.cell? ⟨gb135, 0, none⟩ = some (.int .u32 ((rd_T39 l0_1 x24_2).f0)) ∧ w'.cell? ⟨gb135, 1, none⟩ = some (.string ((rd_T39 l0_1 x24_2).f1)) ∧ w'.cell? ⟨gb133, 0, none⟩ = some (.int .u32 a0_0) ∧ w'.cell? ⟨gb133, 1, none⟩ = some (.slice (some ad134) l0_1.length c0_1) ∧ w'.cell? ⟨gb133, 2, none⟩ = some (.slice A0_2 l0_2.length c0_2) ∧ w'.cell? ⟨gb133, 3, none⟩ = some (.bool a0_3) ∧ w'.cell? ⟨gb133, 4, none⟩ = some (.int .i64 a0_4) ∧ w'.cell? (ad134.add (((ji29)).toNat * 2)) = some (.int .u32 ((rd_T39 l0_1 (ji29)).f0)) ∧ w'.cell? ⟨(ad134.add (((ji29)).toNat * 2)).block, (ad134.add (((ji29)).toNat * 2)).off + 1, none⟩ = some (.string ((rd_T39 l0_1 (ji29)).f1))) (ds := []) #[false, false, false, false, false, false, false, false, false, false, false, false, false, false, false, false, false, false, false, false, false, false, false, false, false, false, false, false, false, false, false, false] (by kernel_rfl) rfl rfl ⟨(blk_cell BK135.out 0).trans rfl, (blk_cell BK135.out 1).trans rfl, (blk_cell BK133.out 0).trans rfl, (blk_cell BK133.out 1).trans rfl, (blk_cell BK133.out 2).trans rfl, (blk_cell BK133.out 3).trans rfl, (blk_cell BK133.out 4).trans rfl, ((HB.out.cell (World.block_lt_of_cell? w _ hw137_0)).trans hw137_0), ((HB.out.cell (World.block_lt_of_cell? w _ hw137_1)).trans hw137_1)⟩ (fun hHeld => ?_); refine with_tabW cambiumref03_Check.tab6 cambiumref03_Check.bits6 (fun HT_ HW_ => ?_)
                          generalize w36.drew = w37 at BK133 BK135 HB hx137_0 hx137_1 hHeld ⊢
                          refine pu_ 0 29 ?_
                          refine pu_ 2 31 ?_
                          refine tk9_ 1 30 ?_
                          refine tk9_ 3 32 ?_
                          refine pu_ 4 33 ?_
                          refine pu_ 5 34 ?_
                          refine pu_ 6 35 ?_
                          refine tk9_ 7 36 ?_
                          refine on_ 8 37 (fun K hK => ?_)
                          refine goes_ Tryd.func38 (by kernel_rfl) rfl #[.string ((rd_T39 l0_1 x24_2).f1)] (by rfl) rfl rfl (by (try simp only [List.map_toArray, List.map_cons, List.map_nil]); first | done | rfl | (simp only [List.length_drop, List.length_take]; rfl)) ?_
                          with_reducible refine (cambiumref03_right.calls ((rd_T39 l0_1 x24_2).f1) true _ A20.out).mono ?_
                          rintro e w' ⟨rfl, ⟨nd, rfl⟩⟩
                          refine ⟨_, rfl, ?_⟩
                          refine hK.out _ _ ⟨(blk_cell BK135.out 0).trans rfl, (blk_cell BK135.out 1).trans rfl, (blk_cell BK133.out 0).trans rfl, (blk_cell BK133.out 1).trans rfl, (blk_cell BK133.out 2).trans rfl, (blk_cell BK133.out 3).trans rfl, (blk_cell BK133.out 4).trans rfl, ((HB.out.cell (World.block_lt_of_cell? w _ hw137_0)).trans hw137_0), ((HB.out.cell (World.block_lt_of_cell? w _ hw137_1)).trans hw137_1)⟩ (fun hHeld => ?_)
                          clear hK K
                          refine nm_ 37 ?_
                          refine pu_ 9 38 ?_
                          refine pu_ 10 39 ?_
                          refine pu_ 11 40 ?_
                          refine pu_ 12 41 ?_
                          refine tk9_ 13 42 ?_
                          refine pu_ 14 43 ?_
                          refine pu_ 15 44 ?_
                          refine pu_ 16 45 ?_
                          refine pu_ 17 46 ?_
                          refine pu_ 18 47 ?_
                          refine pu_ 19 48 ?_
                          refine pu_ 20 49 ?_
                          refine pu_ 22 51 ?_
                          refine pu_ 23 52 ?_
                          refine pu_ 27 56 ?_
                          refine tk9_ 21 50 ?_
                          refine pu_ 24 53 ?_
                          refine pu_ 25 54 ?_
                          refine tk9_ 26 55 ?_
                          refine tk9_ 28 57 ?_
                          refine pu_ 29 58 ?_
                          refine pu_ 30 59 ?_
                          refine pu_ 31 60 ?_
                          refine done_ (done_of HT_.out (by kernel_rfl)) ?_
                          try go_wp2
                          go_ret
                          exact ⟨by first | rfl | (simp [errW_none, errW_some] <;> rfl) | (simp only [← hji29]; first | rfl | (simp [errW_none, errW_some] <;> rfl)) | (simp [*, errW_none, errW_some] <;> rfl), bel_⟩
                        rw [if_neg c32] at H
                        have c32b0 : decide (((rd_T39 l0_1 x24_2).f0) ≤ ((rd_T39 l0_1 (ji29)).f0)) = false := decide_eq_false c32
                        clear c32
                        have H' := Aside0.mk H
                        clear H
                        have p134 : 0 ≤ (x24_2 : Int) := of_decide_eq_true (by first | (with_reducible assumption) | assumption)
                        have q134 : x24_2 < (l0_1.length : Int) := of_decide_eq_true (by first | (with_reducible assumption) | assumption)
                        obtain ⟨ad134, e134, hx134_0, hx134_1⟩ := at_T39 HR0_1.out x24_2 p134 q134
                        cases e134
                        replace hx134_0 := (HB.out.cell (World.block_lt_of_cell? w _ hx134_0)).trans hx134_0
                        replace hx134_1 := (HB.out.cell (World.block_lt_of_cell? w _ hx134_1)).trans hx134_1
                        replace p134 := eq_true p134
                        replace q134 := eq_true q134
                        try go_wp2_with (first | ((with_reducible refine gate_dst (N := 4) rfl ?_); (try (refine gate_guard (by rfl) ?_; dsimp only)); refine bx_ (N := 4) (cs := #[.int .u32 0, .string (⟨#[]⟩ : ByteArray)]) (t := 39) ?_; intro gb135 hg w38 hbox hb; have BK135 := Aside0.mk (hbox); have GW135 := ge_ hg; have GE135 := ge_ hg; have NB133_135 := nl_ BK133 hg; have NB135_133 := ng_ BK133 hg; replace BK133 := kb_ BK133 hb; replace HB := hb_ hb; clear hb hbox hg; have hnb39 := NB135_133.out; have hnc39 := NB133_135.out; obtain ⟨hcz40_0, hcz40_1⟩ := cl2_ BK135; obtain ⟨hfz40_0, hfz40_1⟩ := fz2_ BK135))
                        have n0_ : Aside0 (((w38.setCell ⟨gb135, 0, none⟩ (.int .u32 ((rd_T39 l0_1 x24_2).f0))).setCell ⟨gb135, 1, none⟩ (.string ((rd_T39 l0_1 x24_2).f1))).heap[gb133]? = some (.cells #[.int .u32 a0_0, .slice (some ad134) l0_1.length c0_1, .slice A0_2 l0_2.length c0_2, .bool a0_3, .int .i64 a0_4] 25 (0, 0))) := ⟨bs_⟩
                        have n1_ : Aside0 (((w38.setCell ⟨gb135, 0, none⟩ (.int .u32 ((rd_T39 l0_1 x24_2).f0))).setCell ⟨gb135, 1, none⟩ (.string ((rd_T39 l0_1 x24_2).f1))).heap[gb135]? = some (.cells #[.int .u32 ((rd_T39 l0_1 x24_2).f0), .string ((rd_T39 l0_1 x24_2).f1)] 39 (0, 0))) := ⟨bs_⟩
                        have n2_ : Aside0 (Below w.heap.size w ((w38.setCell ⟨gb135, 0, none⟩ (.int .u32 ((rd_T39 l0_1 x24_2).f0))).setCell ⟨gb135, 1, none⟩ (.string ((rd_T39 l0_1 x24_2).f1)))) := ⟨bel_⟩
                        (try clear BK133)
                        (try clear BK135)
                        (try clear HB)
                        generalize ((w38.setCell ⟨gb135, 0, none⟩ (.int .u32 ((rd_T39 l0_1 x24_2).f0))).setCell ⟨gb135, 1, none⟩ (.string ((rd_T39 l0_1 x24_2).f1))) = w41 at n0_ n1_ n2_ ⊢
                        have BK133 := n0_
                        have BK135 := n1_
                        have HB := n2_
                        clear n0_ n1_ n2_
                        replace BK133 := Aside0.mk (blk_drew BK133.out)
                        replace BK135 := Aside0.mk (blk_drew BK135.out)
                        replace HB := Aside0.mk (below_drew1 HB.out)
                        have p137 : 0 ≤ ((ji29) : Int) := of_decide_eq_true (by first | (with_reducible assumption) | assumption)
                        have q137 : (ji29) < (l0_1.length : Int) := of_decide_eq_true (by first | (with_reducible assumption) | assumption)
                        obtain ⟨ad137, e137, hx137_0, hx137_1⟩ := at_T39 HR0_1.out (ji29) p137 q137
                        have hw137_1 := hx137_1
                        have hw137_0 := hx137_0
                        obtain rfl : ad134 = ad137 := (by injection e137)
                        replace hx137_0 := (HB.out.cell (World.block_lt_of_cell? w _ hx137_0)).trans hx137_0
                        replace hx137_1 := (HB.out.cell (World.block_lt_of_cell? w _ hx137_1)).trans hx137_1
                        replace p137 := eq_true p137
                        replace q137 := eq_true q137
                        refine start_ (n := 32) (S := fun w' => w'.cell? ⟨gb135, 0, none⟩ = some (.int .u32 ((rd_T39 l0_1 x24_2).f0)) ∧ w'.cell? ⟨gb135, 1, none⟩ = some (.string ((rd_T39 l0_1 x24_2).f1)) ∧ w'.cell? ⟨gb133, 0, none⟩ = some (.int .u32 a0_0) ∧ w'.cell? ⟨gb133, 1, none⟩ = some (.slice (some ad134) l0_1.length c0_1) ∧ w'.cell? ⟨gb133, 2, none⟩ = some (.slice A0_2 l0_2.length c0_2) ∧ w'.cell? ⟨gb133, 3, none⟩ = some (.bool a0_3) ∧ w'.cell? ⟨gb133, 4, none⟩ = some (.int .i64 a0_4) ∧ w'.cell? (ad134.add (((ji29)).toNat * 2)) = some (.int .u32 ((rd_T39 l0_1 (ji29)).f0)) ∧ w'.cell? ⟨(ad134.add (((ji29)).toNat * 2)).block, (ad134.add (((ji29)).toNat * 2)).off + 1, none⟩ = some (.string ((rd_T39 l0_1 (ji29)).f1))) (ds := []) #[false, false, false, false, false, false, false, false, false, false, false, false, false, false, false, false, false, false, false, false, false, false, false, false, false, false, false, false, false, false, false, false] (by kernel_rfl) rfl rfl ⟨(blk_cell BK135.out 0).trans rfl, (blk_cell BK135.out 1).trans rfl, (blk_cell BK133.out 0).trans rfl, (blk_cell BK133.out 1).trans rfl, (blk_cell BK133.out 2).trans rfl, (blk_cell BK133.out 3).trans rfl, (blk_cell BK133.out 4).trans rfl, ((HB.out.cell (World.block_lt_of_cell? w _ hw137_0)).trans hw137_0), ((HB.out.cell (World.block_lt_of_cell? w _ hw137_1)).trans hw137_1)⟩ (fun hHeld => ?_); refine with_tabW cambiumref03_Check.tab6 cambiumref03_Check.bits6 (fun HT_ HW_ => ?_)
                        generalize w41.drew = w42 at BK133 BK135 HB hx137_0 hx137_1 hHeld ⊢
                        refine pu_ 0 29 ?_
                        refine pu_ 2 31 ?_
                        refine tk9_ 1 30 ?_
                        refine tk9_ 3 32 ?_
                        refine pu_ 4 33 ?_
                        refine pu_ 5 34 ?_
                        refine pu_ 6 35 ?_
                        refine tk9_ 7 36 ?_
                        refine on_ 8 37 (fun K hK => ?_)
                        refine goes_ Tryd.func38 (by kernel_rfl) rfl #[.string ((rd_T39 l0_1 x24_2).f1)] (by rfl) rfl rfl (by (try simp only [List.map_toArray, List.map_cons, List.map_nil]); first | done | rfl | (simp only [List.length_drop, List.length_take]; rfl)) ?_
                        with_reducible refine (cambiumref03_right.calls ((rd_T39 l0_1 x24_2).f1) true _ A20.out).mono ?_
                        rintro e w' ⟨rfl, ⟨nd, rfl⟩⟩
                        refine ⟨_, rfl, ?_⟩
                        refine hK.out _ _ ⟨(blk_cell BK135.out 0).trans rfl, (blk_cell BK135.out 1).trans rfl, (blk_cell BK133.out 0).trans rfl, (blk_cell BK133.out 1).trans rfl, (blk_cell BK133.out 2).trans rfl, (blk_cell BK133.out 3).trans rfl, (blk_cell BK133.out 4).trans rfl, ((HB.out.cell (World.block_lt_of_cell? w _ hw137_0)).trans hw137_0), ((HB.out.cell (World.block_lt_of_cell? w _ hw137_1)).trans hw137_1)⟩ (fun hHeld => ?_)
                        clear hK K
                        refine nm_ 37 ?_
                        refine pu_ 9 38 ?_
                        refine pu_ 10 39 ?_
                        refine pu_ 11 40 ?_
                        refine pu_ 12 41 ?_
                        refine tk9_ 13 42 ?_
                        refine pu_ 14 43 ?_
                        refine pu_ 15 44 ?_
                        refine pu_ 16 45 ?_
                        refine pu_ 17 46 ?_
                        refine pu_ 18 47 ?_
                        refine pu_ 19 48 ?_
                        refine pu_ 20 49 ?_
                        refine pu_ 22 51 ?_
                        refine pu_ 23 52 ?_
                        refine pu_ 27 56 ?_
                        refine tk9_ 21 50 ?_
                        refine pu_ 24 53 ?_
                        refine pu_ 25 54 ?_
                        refine tk9_ 26 55 ?_
                        refine tk9_ 28 57 ?_
                        refine pu_ 29 58 ?_
                        refine pu_ 30 59 ?_
                        refine pu_ 31 60 ?_
                        refine done_ (done_of HT_.out (by kernel_rfl)) ?_
                        try go_wp2
                        go_roundg k2
                        case measure => have := HJ1.out; have := HK2.out; omega
                        case rel => exact ⟨(wrap64 (x24_2 + 1)), (by first | rfl | (simp; done) | (simp [*]; done)), H', ⟨by have := HJ1.out; have := HK2.out; omega⟩, ⟨bk_ BK133⟩, ⟨bel_⟩⟩
                      rw [if_neg c31] at H
                      exact absurd H (by simp)
                    rw [if_neg c30] at H
                    exact absurd H (by simp)
                  rw [if_neg c28] at H
                  have c28b0 : decide (0 < x24_2) = false := decide_eq_false c28
                  clear c28
                  have H' := Aside0.mk H
                  clear H
                  have p134 : 0 ≤ (x24_2 : Int) := of_decide_eq_true (by first | (with_reducible assumption) | assumption)
                  have q134 : x24_2 < (l0_1.length : Int) := of_decide_eq_true (by first | (with_reducible assumption) | assumption)
                  obtain ⟨ad134, e134, hx134_0, hx134_1⟩ := at_T39 HR0_1.out x24_2 p134 q134
                  cases e134
                  replace hx134_0 := (HB.out.cell (World.block_lt_of_cell? w _ hx134_0)).trans hx134_0
                  replace hx134_1 := (HB.out.cell (World.block_lt_of_cell? w _ hx134_1)).trans hx134_1
                  replace p134 := eq_true p134
                  replace q134 := eq_true q134
                  try go_wp2_with (first | ((with_reducible refine gate_dst (N := 4) rfl ?_); (try (refine gate_guard (by rfl) ?_; dsimp only)); refine bx_ (N := 4) (cs := #[.int .u32 0, .string (⟨#[]⟩ : ByteArray)]) (t := 39) ?_; intro gb135 hg w43 hbox hb; have BK135 := Aside0.mk (hbox); have GW135 := ge_ hg; have GE135 := ge_ hg; have NB133_135 := nl_ BK133 hg; have NB135_133 := ng_ BK133 hg; replace BK133 := kb_ BK133 hb; replace HB := hb_ hb; clear hb hbox hg; have hnb44 := NB135_133.out; have hnc44 := NB133_135.out; obtain ⟨hcz45_0, hcz45_1⟩ := cl2_ BK135; obtain ⟨hfz45_0, hfz45_1⟩ := fz2_ BK135))
                  have n0_ : Aside0 (((w43.setCell ⟨gb135, 0, none⟩ (.int .u32 ((rd_T39 l0_1 x24_2).f0))).setCell ⟨gb135, 1, none⟩ (.string ((rd_T39 l0_1 x24_2).f1))).heap[gb133]? = some (.cells #[.int .u32 a0_0, .slice (some ad134) l0_1.length c0_1, .slice A0_2 l0_2.length c0_2, .bool a0_3, .int .i64 a0_4] 25 (0, 0))) := ⟨bs_⟩
                  have n1_ : Aside0 (((w43.setCell ⟨gb135, 0, none⟩ (.int .u32 ((rd_T39 l0_1 x24_2).f0))).setCell ⟨gb135, 1, none⟩ (.string ((rd_T39 l0_1 x24_2).f1))).heap[gb135]? = some (.cells #[.int .u32 ((rd_T39 l0_1 x24_2).f0), .string ((rd_T39 l0_1 x24_2).f1)] 39 (0, 0))) := ⟨bs_⟩
                  have n2_ : Aside0 (Below w.heap.size w ((w43.setCell ⟨gb135, 0, none⟩ (.int .u32 ((rd_T39 l0_1 x24_2).f0))).setCell ⟨gb135, 1, none⟩ (.string ((rd_T39 l0_1 x24_2).f1)))) := ⟨bel_⟩
                  (try clear BK133)
                  (try clear BK135)
                  (try clear HB)
                  generalize ((w43.setCell ⟨gb135, 0, none⟩ (.int .u32 ((rd_T39 l0_1 x24_2).f0))).setCell ⟨gb135, 1, none⟩ (.string ((rd_T39 l0_1 x24_2).f1))) = w46 at n0_ n1_ n2_ ⊢
                  have BK133 := n0_
                  have BK135 := n1_
                  have HB := n2_
                  clear n0_ n1_ n2_
                  replace BK133 := Aside0.mk (blk_drew BK133.out)
                  replace BK135 := Aside0.mk (blk_drew BK135.out)
                  replace HB := Aside0.mk (below_drew1 HB.out)
                  refine start_ (n := 32) (S := fun w' => w'.cell? ⟨gb135, 0, none⟩ = some (.int .u32 ((rd_T39 l0_1 x24_2).f0)) ∧ w'.cell? ⟨gb135, 1, none⟩ = some (.string ((rd_T39 l0_1 x24_2).f1)) ∧ w'.cell? ⟨gb133, 0, none⟩ = some (.int .u32 a0_0) ∧ w'.cell? ⟨gb133, 1, none⟩ = some (.slice (some ad134) l0_1.length c0_1) ∧ w'.cell? ⟨gb133, 2, none⟩ = some (.slice A0_2 l0_2.length c0_2) ∧ w'.cell? ⟨gb133, 3, none⟩ = some (.bool a0_3) ∧ w'.cell? ⟨gb133, 4, none⟩ = some (.int .i64 a0_4)) (ds := []) #[false, false, false, false, false, false, false, false, false, false, false, false, false, false, false, false, false, false, false, false, false, false, false, false, false, false, false, false, false, false, false, false] (by kernel_rfl) rfl rfl hc_ (fun hHeld => ?_); refine with_tabW cambiumref03_Check.tab6 cambiumref03_Check.bits6 (fun HT_ HW_ => ?_)
                  generalize w46.drew = w47 at BK133 BK135 HB hHeld ⊢
                  refine pu_ 0 29 ?_
                  refine pu_ 2 31 ?_
                  refine tk7_ 1 30 ?_
                  refine tk7_ 3 32 ?_
                  refine pu_ 4 33 ?_
                  refine pu_ 5 34 ?_
                  refine pu_ 6 35 ?_
                  refine tk7_ 7 36 ?_
                  refine on_ 8 37 (fun K hK => ?_)
                  refine goes_ Tryd.func38 (by kernel_rfl) rfl #[.string ((rd_T39 l0_1 x24_2).f1)] (by rfl) rfl rfl (by (try simp only [List.map_toArray, List.map_cons, List.map_nil]); first | done | rfl | (simp only [List.length_drop, List.length_take]; rfl)) ?_
                  with_reducible refine (cambiumref03_right.calls ((rd_T39 l0_1 x24_2).f1) true _ A20.out).mono ?_
                  rintro e w' ⟨rfl, ⟨nd, rfl⟩⟩
                  refine ⟨_, rfl, ?_⟩
                  refine hK.out _ _ hc_ (fun hHeld => ?_)
                  clear hK K
                  refine nm_ 37 ?_
                  refine pu_ 9 38 ?_
                  refine pu_ 10 39 ?_
                  refine pu_ 11 40 ?_
                  refine pu_ 12 41 ?_
                  refine tk7_ 13 42 ?_
                  refine pu_ 14 43 ?_
                  refine pu_ 15 44 ?_
                  refine pu_ 16 45 ?_
                  refine pu_ 17 46 ?_
                  refine pu_ 18 47 ?_
                  refine pu_ 19 48 ?_
                  refine un_ 20 49 ?_
                  refine un_ 21 50 ?_
                  refine un_ 22 51 ?_
                  refine un_ 23 52 ?_
                  refine un_ 24 53 ?_
                  refine un_ 25 54 ?_
                  refine un_ 26 55 ?_
                  refine un_ 27 56 ?_
                  refine un_ 28 57 ?_
                  refine un_ 29 58 ?_
                  refine pu_ 30 59 ?_
                  refine pu_ 31 60 ?_
                  refine done_ (done_of HT_.out (by kernel_rfl)) ?_
                  try go_wp2
                  go_roundg k2
                  case measure => have := HJ1.out; have := HK2.out; omega
                  case rel => exact ⟨(wrap64 (x24_2 + 1)), (by first | rfl | (simp; done) | (simp [*]; done)), H', ⟨by have := HJ1.out; have := HK2.out; omega⟩, ⟨bk_ BK133⟩, ⟨bel_⟩⟩
                replace c21 := Bool.eq_false_iff.mpr c21
                subst c21
                have H1 : (some 7) = some r := by rw [if_neg (show ¬ (false = true) by decide)] at H; exact H
                clear H
                have H := H1
                clear H1
                obtain rfl := Option.some.inj H
                have p134 : 0 ≤ (x24_2 : Int) := of_decide_eq_true (by first | (with_reducible assumption) | assumption)
                have q134 : x24_2 < (l0_1.length : Int) := of_decide_eq_true (by first | (with_reducible assumption) | assumption)
                obtain ⟨ad134, e134, hx134_0, hx134_1⟩ := at_T39 HR0_1.out x24_2 p134 q134
                cases e134
                replace hx134_0 := (HB.out.cell (World.block_lt_of_cell? w _ hx134_0)).trans hx134_0
                replace hx134_1 := (HB.out.cell (World.block_lt_of_cell? w _ hx134_1)).trans hx134_1
                replace p134 := eq_true p134
                replace q134 := eq_true q134
                try go_wp2_with (first | ((with_reducible refine gate_dst (N := 4) rfl ?_); (try (refine gate_guard (by rfl) ?_; dsimp only)); refine bx_ (N := 4) (cs := #[.int .u32 0, .string (⟨#[]⟩ : ByteArray)]) (t := 39) ?_; intro gb135 hg w48 hbox hb; have BK135 := Aside0.mk (hbox); have GW135 := ge_ hg; have GE135 := ge_ hg; have NB133_135 := nl_ BK133 hg; have NB135_133 := ng_ BK133 hg; replace BK133 := kb_ BK133 hb; replace HB := hb_ hb; clear hb hbox hg; have hnb49 := NB135_133.out; have hnc49 := NB133_135.out; obtain ⟨hcz50_0, hcz50_1⟩ := cl2_ BK135; obtain ⟨hfz50_0, hfz50_1⟩ := fz2_ BK135))
                have n0_ : Aside0 (((w48.setCell ⟨gb135, 0, none⟩ (.int .u32 ((rd_T39 l0_1 x24_2).f0))).setCell ⟨gb135, 1, none⟩ (.string ((rd_T39 l0_1 x24_2).f1))).heap[gb133]? = some (.cells #[.int .u32 a0_0, .slice (some ad134) l0_1.length c0_1, .slice A0_2 l0_2.length c0_2, .bool a0_3, .int .i64 a0_4] 25 (0, 0))) := ⟨bs_⟩
                have n1_ : Aside0 (((w48.setCell ⟨gb135, 0, none⟩ (.int .u32 ((rd_T39 l0_1 x24_2).f0))).setCell ⟨gb135, 1, none⟩ (.string ((rd_T39 l0_1 x24_2).f1))).heap[gb135]? = some (.cells #[.int .u32 ((rd_T39 l0_1 x24_2).f0), .string ((rd_T39 l0_1 x24_2).f1)] 39 (0, 0))) := ⟨bs_⟩
                have n2_ : Aside0 (Below w.heap.size w ((w48.setCell ⟨gb135, 0, none⟩ (.int .u32 ((rd_T39 l0_1 x24_2).f0))).setCell ⟨gb135, 1, none⟩ (.string ((rd_T39 l0_1 x24_2).f1)))) := ⟨bel_⟩
                (try clear BK133)
                (try clear BK135)
                (try clear HB)
                generalize ((w48.setCell ⟨gb135, 0, none⟩ (.int .u32 ((rd_T39 l0_1 x24_2).f0))).setCell ⟨gb135, 1, none⟩ (.string ((rd_T39 l0_1 x24_2).f1))) = w51 at n0_ n1_ n2_ ⊢
                have BK133 := n0_
                have BK135 := n1_
                have HB := n2_
                clear n0_ n1_ n2_
                replace BK133 := Aside0.mk (blk_drew BK133.out)
                replace BK135 := Aside0.mk (blk_drew BK135.out)
                replace HB := Aside0.mk (below_drew1 HB.out)
                refine start_ (n := 32) (S := fun w' => w'.cell? ⟨gb135, 0, none⟩ = some (.int .u32 ((rd_T39 l0_1 x24_2).f0)) ∧ w'.cell? ⟨gb135, 1, none⟩ = some (.string ((rd_T39 l0_1 x24_2).f1)) ∧ w'.cell? ⟨gb133, 0, none⟩ = some (.int .u32 a0_0) ∧ w'.cell? ⟨gb133, 1, none⟩ = some (.slice (some ad134) l0_1.length c0_1) ∧ w'.cell? ⟨gb133, 2, none⟩ = some (.slice A0_2 l0_2.length c0_2) ∧ w'.cell? ⟨gb133, 3, none⟩ = some (.bool a0_3) ∧ w'.cell? ⟨gb133, 4, none⟩ = some (.int .i64 a0_4)) (ds := []) #[false, false, false, false, false, false, false, false, false, false, false, false, false, false, false, false, false, false, false, false, false, false, false, false, false, false, false, false, false, false, false, false] (by kernel_rfl) rfl rfl hc_ (fun hHeld => ?_); refine with_tabW cambiumref03_Check.tab6 cambiumref03_Check.bits6 (fun HT_ HW_ => ?_)
                generalize w51.drew = w52 at BK133 BK135 HB hHeld ⊢
                refine pu_ 0 29 ?_
                refine pu_ 2 31 ?_
                refine tk7_ 1 30 ?_
                refine tk7_ 3 32 ?_
                refine pu_ 4 33 ?_
                refine pu_ 5 34 ?_
                refine pu_ 6 35 ?_
                refine tk7_ 7 36 ?_
                refine on_ 8 37 (fun K hK => ?_)
                refine goes_ Tryd.func38 (by kernel_rfl) rfl #[.string ((rd_T39 l0_1 x24_2).f1)] (by rfl) rfl rfl (by (try simp only [List.map_toArray, List.map_cons, List.map_nil]); first | done | rfl | (simp only [List.length_drop, List.length_take]; rfl)) ?_
                with_reducible refine (cambiumref03_right.calls ((rd_T39 l0_1 x24_2).f1) false _ A20.out).mono ?_
                rintro e w' ⟨rfl, ⟨nd, rfl⟩⟩
                refine ⟨_, rfl, ?_⟩
                refine hK.out _ _ hc_ (fun hHeld => ?_)
                clear hK K
                refine nm_ 37 ?_
                refine pu_ 9 38 ?_
                refine pu_ 10 39 ?_
                refine pu_ 11 40 ?_
                refine un_ 12 41 ?_
                refine un_ 13 42 ?_
                refine un_ 14 43 ?_
                refine pu_ 15 44 ?_
                refine pu_ 16 45 ?_
                refine un_ 17 46 ?_
                refine un_ 18 47 ?_
                refine un_ 19 48 ?_
                refine un_ 20 49 ?_
                refine un_ 21 50 ?_
                refine un_ 22 51 ?_
                refine un_ 23 52 ?_
                refine un_ 24 53 ?_
                refine un_ 25 54 ?_
                refine un_ 26 55 ?_
                refine un_ 27 56 ?_
                refine un_ 28 57 ?_
                refine un_ 29 58 ?_
                refine un_ 30 59 ?_
                refine pu_ 31 60 ?_
                refine done_ (done_of HT_.out (by kernel_rfl)) ?_
                try go_wp2
                go_ret
                exact ⟨by first | rfl | (simp [errW_none, errW_some] <;> rfl) | (simp [*, errW_none, errW_some] <;> rfl), bel_⟩
              rw [if_neg c13] at H
              exact absurd H (by simp)
            rw [if_neg c12] at H
            exact absurd H (by simp)
          rw [if_neg c11] at H
          have c11b0 : decide (x24_2 < (l0_1.length : Int)) = false := decide_eq_false c11
          clear c11
          have H' := Aside0.mk H
          clear H
          obtain ⟨hcz53_0, hcz53_1, hcz53_2, hcz53_3, hcz53_4⟩ := cl5_ BK133
          obtain ⟨hfz53_0, hfz53_1, hfz53_2, hfz53_3, hfz53_4⟩ := fz5_ BK133
          go_wp2
          go_loopg [65] k2 (fun kq v65 w' => ∃ (x65_3 : Int), v65 = .int .i64 x65_3 ∧ Aside0 (cambiumref03_Check.l1 kq l0_2 (l0_2.length : Int) x65_3 a0_0 l0_1 l0_2 a0_3 a0_4 = some r) ∧ Aside0 (kq ≤ k2) ∧ Aside0 (w'.heap[gb133]? = some (.cells #[.int .u32 a0_0, (.slice A0_1 l0_1.length c0_1), (.slice A0_2 l0_2.length c0_2), .bool a0_3, .int .i64 a0_4] 25 (0, 0))) ∧ Aside0 (Below w.heap.size w w'))
          case atStart => exact ⟨(0), (by first | rfl | (simp; done) | (simp [*]; done)), H', ⟨Nat.le_refl _⟩, ⟨bk_ BK133⟩, ⟨bel_⟩⟩
          case round =>
            clear H'
            try clear c1
            try clear p1
            try clear q1
            try clear hx1
            try clear c2
            try clear p2
            try clear c3
            try clear c4
            try clear p6
            try clear c11
            try clear c11b0
            try clear c12
            try clear c13
            try clear p13
            try clear q13
            try clear hx13
            try clear c21
            try clear c28
            try clear c28b0
            try clear c30
            try clear c31
            try clear c38
            try clear c44
            try clear c49
            try clear hcz45_0
            try clear hcz45_1
            try clear hcz50_0
            try clear hcz50_1
            try clear hcz53_0
            try clear hcz53_1
            try clear hcz53_2
            try clear hcz53_3
            try clear hcz53_4
            try clear hfz45_0
            try clear hfz45_1
            try clear hfz50_0
            try clear hfz50_1
            try clear hfz53_0
            try clear hfz53_1
            try clear hfz53_2
            try clear hfz53_3
            try clear hfz53_4
            try clear hx134_0
            try clear hx134_1
            try clear p134
            try clear q134
            obtain ⟨x65_3, rfl, HA, HK3, BK133, HB⟩ := hrel
            cases gk with
            | zero => exact absurd HA.out (by simp [cambiumref03_Check.l1])
            | succ k3 =>
              have H := HA.out
              clear HA
              simp only [cambiumref03_Check.l1] at H
              by_cases c54 : x65_3 < (l0_2.length : Int)
              · rw [if_pos c54] at H
                have c54b0 : decide (x65_3 < (l0_2.length : Int)) = true := decide_eq_true c54
                clear c54
                by_cases c55 : 0 ≤ x65_3
                · rw [if_pos c55] at H
                  have c55b0 : decide (0 ≤ x65_3) = true := decide_eq_true c55
                  clear c55
                  by_cases c56 : x65_3 < (l0_2.length : Int)
                  · rw [if_pos c56] at H
                    have c56b0 : decide (x65_3 < (l0_2.length : Int)) = true := decide_eq_true c56
                    clear c56
                    by_cases c57 : ((rd_T39 l0_2 x65_3).f0) ≥ a0_0
                    · rw [if_pos c57] at H
                      have c57b0 : decide (a0_0 ≤ ((rd_T39 l0_2 x65_3).f0)) = true := decide_eq_true c57
                      clear c57
                      obtain rfl := Option.some.inj H
                      have p138 : 0 ≤ (x65_3 : Int) := of_decide_eq_true (by first | (with_reducible assumption) | assumption)
                      have q138 : x65_3 < (l0_2.length : Int) := of_decide_eq_true (by first | (with_reducible assumption) | assumption)
                      obtain ⟨ad138, e138, hx138_0, hx138_1⟩ := at_T39 HR0_2.out x65_3 p138 q138
                      cases e138
                      replace hx138_0 := (HB.out.cell (World.block_lt_of_cell? w _ hx138_0)).trans hx138_0
                      replace hx138_1 := (HB.out.cell (World.block_lt_of_cell? w _ hx138_1)).trans hx138_1
                      replace p138 := eq_true p138
                      replace q138 := eq_true q138
                      go_wp2_with (first | ((with_reducible refine gate_dst (N := 6) rfl ?_); (try (refine gate_guard (by rfl) ?_; dsimp only)); refine bx_ (N := 6) (cs := #[.int .u32 0, .string (⟨#[]⟩ : ByteArray)]) (t := 39) ?_; intro gb139 hg w58 hbox hb; have BK139 := Aside0.mk (hbox); have GW139 := ge_ hg; have GE139 := ge_ hg; have NB133_139 := nl_ BK133 hg; have NB139_133 := ng_ BK133 hg; replace BK133 := kb_ BK133 hb; replace HB := hb_ hb; clear hb hbox hg; have hnb59 := NB139_133.out; have hnc59 := NB133_139.out; obtain ⟨hcz60_0, hcz60_1⟩ := cl2_ BK139; obtain ⟨hfz60_0, hfz60_1⟩ := fz2_ BK139; obtain ⟨hcz61_0, hcz61_1, hcz61_2, hcz61_3, hcz61_4⟩ := cl5_ BK133; obtain ⟨hfz61_0, hfz61_1, hfz61_2, hfz61_3, hfz61_4⟩ := fz5_ BK133))
                      go_ret
                      exact ⟨by first | rfl | (simp [errW_none, errW_some] <;> rfl) | (simp [*, errW_none, errW_some] <;> rfl), bel_⟩
                    rw [if_neg c57] at H
                    have c57b0 : decide (a0_0 ≤ ((rd_T39 l0_2 x65_3).f0)) = false := decide_eq_false c57
                    clear c57
                    replace H := Option.bind_eq_some_iff.mp H
                    obtain ⟨t140, A620, H⟩ := H
                    replace H : (if t140 = true then (cambiumref03_Check.l1 k3 l0_2 (l0_2.length : Int) (wrap64 (x65_3 + 1)) a0_0 l0_1 l0_2 a0_3 a0_4) else (some 7)) = some r := H
                    have A62 := Aside0.mk A620
                    clear A620
                    by_cases c63 : t140 = true
                    · subst c63
                      have H1 : (cambiumref03_Check.l1 k3 l0_2 (l0_2.length : Int) (wrap64 (x65_3 + 1)) a0_0 l0_1 l0_2 a0_3 a0_4) = some r := by rw [if_pos rfl] at H; exact H
                      clear H
                      have H := H1
                      clear H1
                      have H' := Aside0.mk H
                      clear H
                      have p138 : 0 ≤ (x65_3 : Int) := of_decide_eq_true (by first | (with_reducible assumption) | assumption)
                      have q138 : x65_3 < (l0_2.length : Int) := of_decide_eq_true (by first | (with_reducible assumption) | assumption)
                      obtain ⟨ad138, e138, hx138_0, hx138_1⟩ := at_T39 HR0_2.out x65_3 p138 q138
                      cases e138
                      replace hx138_0 := (HB.out.cell (World.block_lt_of_cell? w _ hx138_0)).trans hx138_0
                      replace hx138_1 := (HB.out.cell (World.block_lt_of_cell? w _ hx138_1)).trans hx138_1
                      replace p138 := eq_true p138
                      replace q138 := eq_true q138
                      go_wp2_with (first | ((with_reducible refine gate_dst (N := 6) rfl ?_); (try (refine gate_guard (by rfl) ?_; dsimp only)); refine bx_ (N := 6) (cs := #[.int .u32 0, .string (⟨#[]⟩ : ByteArray)]) (t := 39) ?_; intro gb139 hg w64 hbox hb; have BK139 := Aside0.mk (hbox); have GW139 := ge_ hg; have GE139 := ge_ hg; have NB133_139 := nl_ BK133 hg; have NB139_133 := ng_ BK133 hg; replace BK133 := kb_ BK133 hb; replace HB := hb_ hb; clear hb hbox hg; have hnb65 := NB139_133.out; have hnc65 := NB133_139.out; obtain ⟨hcz66_0, hcz66_1⟩ := cl2_ BK139; obtain ⟨hfz66_0, hfz66_1⟩ := fz2_ BK139; obtain ⟨hcz67_0, hcz67_1, hcz67_2, hcz67_3, hcz67_4⟩ := cl5_ BK133; obtain ⟨hfz67_0, hfz67_1, hfz67_2, hfz67_3, hfz67_4⟩ := fz5_ BK133) | (go_at_call 38; (with_reducible refine (cambiumref03_right.calls ((rd_T39 l0_2 x65_3).f1) true _ A62.out).mono ?_); rintro e w' ⟨rfl, ⟨nd, rfl⟩⟩))
                      go_roundg k3
                      case measure => have := HJ1.out; have := HK2.out; have := HK3.out; omega
                      case rel => exact ⟨(wrap64 (x65_3 + 1)), (by first | rfl | (simp; done) | (simp [*]; done)), H', ⟨by have := HJ1.out; have := HK2.out; have := HK3.out; omega⟩, ⟨bs_⟩, ⟨bel_⟩⟩
                    replace c63 := Bool.eq_false_iff.mpr c63
                    subst c63
                    have H1 : (some 7) = some r := by rw [if_neg (show ¬ (false = true) by decide)] at H; exact H
                    clear H
                    have H := H1
                    clear H1
                    obtain rfl := Option.some.inj H
                    have p138 : 0 ≤ (x65_3 : Int) := of_decide_eq_true (by first | (with_reducible assumption) | assumption)
                    have q138 : x65_3 < (l0_2.length : Int) := of_decide_eq_true (by first | (with_reducible assumption) | assumption)
                    obtain ⟨ad138, e138, hx138_0, hx138_1⟩ := at_T39 HR0_2.out x65_3 p138 q138
                    cases e138
                    replace hx138_0 := (HB.out.cell (World.block_lt_of_cell? w _ hx138_0)).trans hx138_0
                    replace hx138_1 := (HB.out.cell (World.block_lt_of_cell? w _ hx138_1)).trans hx138_1
                    replace p138 := eq_true p138
                    replace q138 := eq_true q138
                    go_wp2_with (first | ((with_reducible refine gate_dst (N := 6) rfl ?_); (try (refine gate_guard (by rfl) ?_; dsimp only)); refine bx_ (N := 6) (cs := #[.int .u32 0, .string (⟨#[]⟩ : ByteArray)]) (t := 39) ?_; intro gb139 hg w68 hbox hb; have BK139 := Aside0.mk (hbox); have GW139 := ge_ hg; have GE139 := ge_ hg; have NB133_139 := nl_ BK133 hg; have NB139_133 := ng_ BK133 hg; replace BK133 := kb_ BK133 hb; replace HB := hb_ hb; clear hb hbox hg; have hnb69 := NB139_133.out; have hnc69 := NB133_139.out; obtain ⟨hcz70_0, hcz70_1⟩ := cl2_ BK139; obtain ⟨hfz70_0, hfz70_1⟩ := fz2_ BK139; obtain ⟨hcz71_0, hcz71_1, hcz71_2, hcz71_3, hcz71_4⟩ := cl5_ BK133; obtain ⟨hfz71_0, hfz71_1, hfz71_2, hfz71_3, hfz71_4⟩ := fz5_ BK133) | (go_at_call 38; (with_reducible refine (cambiumref03_right.calls ((rd_T39 l0_2 x65_3).f1) false _ A62.out).mono ?_); rintro e w' ⟨rfl, ⟨nd, rfl⟩⟩))
                    go_ret
                    exact ⟨by first | rfl | (simp [errW_none, errW_some] <;> rfl) | (simp [*, errW_none, errW_some] <;> rfl), bel_⟩
                  rw [if_neg c56] at H
                  exact absurd H (by simp)
                rw [if_neg c55] at H
                exact absurd H (by simp)
              rw [if_neg c54] at H
              have c54b0 : decide (x65_3 < (l0_2.length : Int)) = false := decide_eq_false c54
              clear c54
              obtain rfl := Option.some.inj H
              go_wp2
              go_ret
              exact ⟨by first | rfl | (simp [errW_none, errW_some] <;> rfl) | (simp [*, errW_none, errW_some] <;> rfl), bel_⟩

end Go.Proofs.YtcphflfjhkeooaaDoor.Z
end

section
-- Printed by a program of this session (mp.py) out of the translation.
namespace Go.Proofs.YtcphflfjhkeooaaDoor.Z
open Go.RowKit Go.Proofs.YtcphflfjhkeooaaDoorW.PrintWords Go.Proofs.YtcphflfjhkeooaaDoorW.PrintLast Go.Proofs.YtcphflfjhkeooaaDoorW.PrintMore
attribute [local go_sem] max2_int min2_int max_two min_two max_three min_three max_four min_four   -- for this text's walks alone
set_option linter.unusedVariables false
set_option linter.unusedSimpArgs false

/-! ### cambiumref03_Write: function 14 -/
def cambiumref03_Write.f (k : Nat) (a0_0 : Int) (l0_1 : List (S39)) (l0_2 : List (S39)) (a0_3 : Bool) (a0_4 : Int) (a1 : Int) (a2 : ByteArray) : Option (Int × (List (S39)) × (List (S39)) × Bool × Int × Int) := (cambiumref03_Check.f k a0_0 l0_1 l0_2 a0_3 a0_4).bind fun t143 => (if t143 = 0 then ((cambiumref03_Copy.f a0_0 l0_1 l0_2 a0_3 a0_4).bind fun bt144 => (if bt144.2.2.2.1 = true then (some (bt144.1, bt144.2.1, bt144.2.2.1, bt144.2.2.2.1, bt144.2.2.2.2, 17)) else (if a1 ≥ bt144.1 then (some (bt144.1, bt144.2.1, bt144.2.2.1, bt144.2.2.2.1, bt144.2.2.2.2, 1)) else (if (a2.size : Int) > 512 then (some (bt144.1, bt144.2.1, bt144.2.2.1, bt144.2.2.2.1, bt144.2.2.2.2, 2)) else (if (bt144.2.2.1.length : Int) ≥ 16384 then (some (bt144.1, bt144.2.1, bt144.2.2.1, bt144.2.2.2.1, bt144.2.2.2.2, 8)) else ((cambiumref03_Cut.f k a2).bind fun t153 => (if bt144.2.2.1.length < 5864062014805 then ((some (bt144.2.2.1 ++ [(⟨a1, t153⟩ : S39)] : List (S39))).bind fun y154 => (if bt144.2.2.2.2 = 0 then (some (bt144.1, bt144.2.1, y154, true, bt144.2.2.2.2, 17)) else (if bt144.2.2.2.2 > 0 then (some (bt144.1, bt144.2.1, y154, bt144.2.2.2.1, wrap64 (bt144.2.2.2.2 - 1), 0)) else (some (bt144.1, bt144.2.1, y154, bt144.2.2.2.1, bt144.2.2.2.2, 0))))) else (none)))))))) else (some (0, ([] : List (S39)), ([] : List (S39)), false, 0, 7)))
theorem cambiumref03_Write.mono : ∀ a0 a1 a2 a3 a4 a5 a6 k, LeO (cambiumref03_Write.f k a0 a1 a2 a3 a4 a5 a6) (cambiumref03_Write.f (k + 1) a0 a1 a2 a3 a4 a5 a6) := by
  intro a0 a1 a2 a3 a4 a5 a6 k
  unfold cambiumref03_Write.f
  repeat' first
      | (with_reducible exact cambiumref03_Check.mono _ _ _ _ _ _)
      | (with_reducible exact cambiumref03_Cut.mono _ _)
      | (with_reducible exact LeO.refl _)
      | (with_reducible exact LeO.none _)
      | (with_reducible refine LeO.ite ?_ ?_)
      | (with_reducible refine LeO.bind ?_ (fun _ => ?_))
      | exact cambiumref03_Check.mono _ _ _ _ _ _
      | exact cambiumref03_Cut.mono _ _
      | exact LeO.none _
      | refine LeO.ite ?_ ?_
      | refine LeO.bind ?_ (fun _ => ?_)
def cambiumref03_Write.T12 : Bool × List (List Nat × List Nat) := (true, [([], []), ([0], [0]), ([], []), ([], []), ([3], [3]), ([2, 4], [2, 4]), ([5], [5]), ([1, 6, 4], [1, 6]), ([0, 1, 2, 3, 4, 5, 6, 7], []), ([8, 7, 7, 0, 1, 2, 3, 4, 5, 6, 7], [7, 8])])
def cambiumref03_Write.B12 : List Nat := [0, 1, 0, 0, 8, 28, 60, 127, 255, 511]
theorem cambiumref03_Write.tab12 : rtab .any (opsOf Tryd.f14 12) = cambiumref03_Write.T12 := by kernel_rfl
theorem cambiumref03_Write.bits12 : waitsOk cambiumref03_Write.T12.2 cambiumref03_Write.B12 = true := by kernel_rfl
set_option maxHeartbeats 8000000 in
set_option maxRecDepth 100000 in
theorem cambiumref03_Write.calls (k : Nat) (a0_0 : Int) (A0_1 : Option Addr) (c0_1 : Nat) (l0_1 : List (S39)) (A0_2 : Option Addr) (c0_2 : Nat) (l0_2 : List (S39)) (a0_3 : Bool) (a0_4 : Int) (a1 : Int) (a2 : ByteArray) (r1 : Int) (r2 : List (S39)) (r3 : List (S39)) (r4 : Bool) (r5 : Int) (r6 : Int) (w : World) (hr0_1 : Kd.C k39 w A0_1 l0_1.length l0_1) (hc0_1 : l0_1.length ≤ c0_1) (hr0_2 : Kd.C k39 w A0_2 l0_2.length l0_2) (hc0_2 : l0_2.length ≤ c0_2) (h : cambiumref03_Write.f k a0_0 l0_1 l0_2 a0_3 a0_4 a1 a2 = some (r1, r2, r3, r4, r5, r6)) :
    Calls Tryd.prog 14 #[.agg #[.int .u32 a0_0, .slice A0_1 l0_1.length c0_1, .slice A0_2 l0_2.length c0_2, .bool a0_3, .int .i64 a0_4], .int .u32 a1, .string a2] w fun e w' => ∃ v1_ v2_ : Value, e = .returned (.tuple #[.agg #[.int .u32 r1, v1_, v2_, .bool r4, .int .i64 r5], .int .i64 r6]) ∧ Kd.R k39 39 w' w.heap.size (fun k_ => some k_ ≠ (v2_ : Value).ownBlock) v1_ r2 ∧ Kd.R k39 39 w' w.heap.size (fun k_ => some k_ ≠ (v1_ : Value).ownBlock) v2_ r3 ∧ Below w.heap.size w w' := by
  have hu25 := Tryd.underlying25
  have hu39 := Tryd.underlying39
  have HR0_1 := Aside0.mk hr0_1
  have HC0_1 := Aside0.mk hc0_1
  clear hr0_1 hc0_1
  have HR0_2 := Aside0.mk hr0_2
  have HC0_2 := Aside0.mk hc0_2
  clear hr0_2 hc0_2
  have HB := Aside0.mk (Below.refl w.heap.size w)
  have H : ((cambiumref03_Check.f k a0_0 l0_1 l0_2 a0_3 a0_4).bind fun t143 => (if t143 = 0 then ((cambiumref03_Copy.f a0_0 l0_1 l0_2 a0_3 a0_4).bind fun bt144 => (if bt144.2.2.2.1 = true then (some (bt144.1, bt144.2.1, bt144.2.2.1, bt144.2.2.2.1, bt144.2.2.2.2, 17)) else (if a1 ≥ bt144.1 then (some (bt144.1, bt144.2.1, bt144.2.2.1, bt144.2.2.2.1, bt144.2.2.2.2, 1)) else (if (a2.size : Int) > 512 then (some (bt144.1, bt144.2.1, bt144.2.2.1, bt144.2.2.2.1, bt144.2.2.2.2, 2)) else (if (bt144.2.2.1.length : Int) ≥ 16384 then (some (bt144.1, bt144.2.1, bt144.2.2.1, bt144.2.2.2.1, bt144.2.2.2.2, 8)) else ((cambiumref03_Cut.f k a2).bind fun t153 => (if bt144.2.2.1.length < 5864062014805 then ((some (bt144.2.2.1 ++ [(⟨a1, t153⟩ : S39)] : List (S39))).bind fun y154 => (if bt144.2.2.2.2 = 0 then (some (bt144.1, bt144.2.1, y154, true, bt144.2.2.2.2, 17)) else (if bt144.2.2.2.2 > 0 then (some (bt144.1, bt144.2.1, y154, bt144.2.2.2.1, wrap64 (bt144.2.2.2.2 - 1), 0)) else (some (bt144.1, bt144.2.1, y154, bt144.2.2.2.1, bt144.2.2.2.2, 0))))) else (none)))))))) else (some (0, ([] : List (S39)), ([] : List (S39)), false, 0, 7)))) = some (r1, r2, r3, r4, r5, r6) := h
  clear h
  replace H := Option.bind_eq_some_iff.mp H
  obtain ⟨t143, A40, H⟩ := H
  replace H : (if t143 = 0 then ((cambiumref03_Copy.f a0_0 l0_1 l0_2 a0_3 a0_4).bind fun bt144 => (if bt144.2.2.2.1 = true then (some (bt144.1, bt144.2.1, bt144.2.2.1, bt144.2.2.2.1, bt144.2.2.2.2, 17)) else (if a1 ≥ bt144.1 then (some (bt144.1, bt144.2.1, bt144.2.2.1, bt144.2.2.2.1, bt144.2.2.2.2, 1)) else (if (a2.size : Int) > 512 then (some (bt144.1, bt144.2.1, bt144.2.2.1, bt144.2.2.2.1, bt144.2.2.2.2, 2)) else (if (bt144.2.2.1.length : Int) ≥ 16384 then (some (bt144.1, bt144.2.1, bt144.2.2.1, bt144.2.2.2.1, bt144.2.2.2.2, 8)) else ((cambiumref03_Cut.f k a2).bind fun t153 => (if bt144.2.2.1.length < 5864062014805 then ((some (bt144.2.2.1 ++ [(⟨a1, t153⟩ : S39)] : List (S39))).bind fun y154 => (if bt144.2.2.2.2 = 0 then (some (bt144.1, bt144.2.1, y154, true, bt144.2.2.2.2, 17)) else (if bt144.2.2.2.2 > 0 then (some (bt144.1, bt144.2.1, y154, bt144.2.2.2.1, wrap64 (bt144.2.2.2.2 - 1), 0)) else (some (bt144.1, bt144.2.1, y154, bt144.2.2.2.1, bt144.2.2.2.2, 0))))) else (none)))))))) else (some (0, ([] : List (S39)), ([] : List (S39)), false, 0, 7))) = some (r1, r2, r3, r4, r5, r6) := H
  have A4 := Aside0.mk A40
  clear A40
  by_cases c5 : t143 = 0
  · rw [if_pos c5] at H
    have c5b0 : (t143 == 0) = true := beq_iff_eq.mpr c5
    have c5b1 : (t143 != 0) = false := bne_eq_false_iff_eq.mpr c5
    clear c5
    replace H := Option.bind_eq_some_iff.mp H
    obtain ⟨⟨t144, t145, t148, t151, t152⟩, A60, H⟩ := H
    replace H : (if t151 = true then (some (t144, t145, t148, t151, t152, 17)) else (if a1 ≥ t144 then (some (t144, t145, t148, t151, t152, 1)) else (if (a2.size : Int) > 512 then (some (t144, t145, t148, t151, t152, 2)) else (if (t148.length : Int) ≥ 16384 then (some (t144, t145, t148, t151, t152, 8)) else ((cambiumref03_Cut.f k a2).bind fun t153 => (if t148.length < 5864062014805 then ((some (t148 ++ [(⟨a1, t153⟩ : S39)] : List (S39))).bind fun y154 => (if t152 = 0 then (some (t144, t145, y154, true, t152, 17)) else (if t152 > 0 then (some (t144, t145, y154, t151, wrap64 (t152 - 1), 0)) else (some (t144, t145, y154, t151, t152, 0))))) else (none))))))) = some (r1, r2, r3, r4, r5, r6) := H
    have A6 := Aside0.mk A60
    clear A60
    by_cases c7 : t151 = true
    · subst c7
      have H1 : (some (t144, t145, t148, true, t152, 17)) = some (r1, r2, r3, r4, r5, r6) := by rw [if_pos rfl] at H; exact H
      clear H
      have H := H1
      clear H1
      simp only [Option.some.injEq, Prod.mk.injEq] at H
      obtain ⟨rfl, rfl, rfl, rfl, rfl, rfl⟩ := H
      go_enter Tryd.func14, Tryd.ntmps14
      go_wp2_with (first | ((with_reducible refine gate_dst (N := 3) rfl ?_); refine bx_ (N := 3) (cs := #[.int .u32 a0_0, .slice A0_1 l0_1.length c0_1, .slice A0_2 l0_2.length c0_2, .bool a0_3, .int .i64 a0_4]) (t := 25) ?_; intro gb141 hg w8 hbox hb; have BK141 := Aside0.mk (hbox); have GW141 := ge_ hg; have GE141 := ge_ hg; replace HB := hb_ hb; clear hb hbox hg) | ((with_reducible refine gate_dst (N := 6) rfl ?_); refine bx_ (N := 6) (cs := #[.int .u32 0, .slice none 0 0, .slice none 0 0, .bool false, .int .i64 0]) (t := 25) ?_; intro gb142 hg w9 hbox hb; have BK142 := Aside0.mk (hbox); have GW142 := ge_ hg; have GE142 := ge_ hg; have NB141_142 := nl_ BK141 hg; have NB142_141 := ng_ BK141 hg; replace BK141 := kb_ BK141 hb; replace HB := hb_ hb; clear hb hbox hg; have hnb10 := NB141_142.out; have hnc10 := NB142_141.out; obtain ⟨hcz11_0, hcz11_1, hcz11_2, hcz11_3, hcz11_4⟩ := cl5_ BK141; obtain ⟨hfz11_0, hfz11_1, hfz11_2, hfz11_3, hfz11_4⟩ := fz5_ BK141) | ((with_reducible refine gate_callee (f := 22) rfl ?_); refine gl_ (some 9) Tryd.func22 #[.agg #[.int .u32 a0_0, .slice A0_1 l0_1.length c0_1, .slice A0_2 l0_2.length c0_2, .bool a0_3, .int .i64 a0_4]] ?_; (with_reducible refine (cambiumref03_Check.calls k a0_0 _ _ l0_1 _ _ l0_2 a0_3 a0_4 t143 _ ?side1 ?side2 ?side3 ?side4 A4.out).mono ?_); (case side1 => exact cb_ HR0_1); (case side2 => exact HC0_1.out); (case side3 => exact cb_ HR0_2); (case side4 => exact HC0_2.out); rintro e w12 ⟨rfl, hb⟩; refine ⟨_, rfl, ?_⟩; replace BK141 := kb_ BK141 hb; replace BK142 := kb_ BK142 hb; replace HB := hb_ hb; (try clear hb); (try clear hb2); (try clear hk); (try clear hi); obtain ⟨hcz13_0, hcz13_1, hcz13_2, hcz13_3, hcz13_4⟩ := cl5_ BK141; obtain ⟨hfz13_0, hfz13_1, hfz13_2, hfz13_3, hfz13_4⟩ := fz5_ BK141) | ((with_reducible refine gate_callee (f := 12) rfl ?_); refine gl_ (some 13) Tryd.func12 #[.agg #[.int .u32 a0_0, .slice A0_1 l0_1.length c0_1, .slice A0_2 l0_2.length c0_2, .bool a0_3, .int .i64 a0_4]] ?_; (with_reducible refine (cambiumref03_Copy.calls a0_0 _ _ l0_1 _ _ l0_2 a0_3 a0_4 t144 t145 t148 true t152 _ ?side1 ?side2 ?side3 ?side4 A6.out).mono ?_); (case side1 => exact cb_ HR0_1); (case side2 => exact HC0_1.out); (case side3 => exact cb_ HR0_2); (case side4 => exact HC0_2.out); rintro e w14 ⟨v146, v149, rfl, ho0, ho1, hb⟩; refine ⟨_, rfl, ?_⟩; have HO147 := rl_ ho0; have HO150 := rl_ ho1; replace BK141 := kb_ BK141 hb; replace BK142 := kb_ BK142 hb; replace HB := hb_ hb; (try clear hb); (try clear hb2); (try clear hk); (try clear hi); (try clear ho0); (try clear ho1); obtain ⟨hcz15_0, hcz15_1, hcz15_2, hcz15_3, hcz15_4⟩ := cl5_ BK141; obtain ⟨hfz15_0, hfz15_1, hfz15_2, hfz15_3, hfz15_4⟩ := fz5_ BK141; obtain ⟨Ao16, co16, eo16⟩ := Kd.R_slice HO147.out; subst eo16; obtain ⟨Ao17, co17, eo17⟩ := Kd.R_slice HO150.out; subst eo17; obtain ⟨hcz18_0, hcz18_1, hcz18_2, hcz18_3, hcz18_4⟩ := cl5_ BK142; obtain ⟨hfz18_0, hfz18_1, hfz18_2, hfz18_3, hfz18_4⟩ := fz5_ BK142))
      refine bodyPost_ret (results_ct rfl _ _ gb142 25 #[.int .u32 t144, .slice Ao16 t145.length co16, .slice Ao17 t148.length co17, .bool true, .int .i64 t152] (0, 0) _ rfl (bs_) Tryd.underlying25 rfl (by kernel_rfl)) rfl ?_
      exact ⟨_, _, by first | rfl | (simp [errW_none, errW_some] <;> rfl) | (simp [*, errW_none, errW_some] <;> rfl), rw_ HO147, rw_ HO150, bel_⟩
    replace c7 := Bool.eq_false_iff.mpr c7
    subst c7
    have H1 : (if a1 ≥ t144 then (some (t144, t145, t148, false, t152, 1)) else (if (a2.size : Int) > 512 then (some (t144, t145, t148, false, t152, 2)) else (if (t148.length : Int) ≥ 16384 then (some (t144, t145, t148, false, t152, 8)) else ((cambiumref03_Cut.f k a2).bind fun t153 => (if t148.length < 5864062014805 then ((some (t148 ++ [(⟨a1, t153⟩ : S39)] : List (S39))).bind fun y154 => (if t152 = 0 then (some (t144, t145, y154, true, t152, 17)) else (if t152 > 0 then (some (t144, t145, y154, false, wrap64 (t152 - 1), 0)) else (some (t144, t145, y154, false, t152, 0))))) else (none)))))) = some (r1, r2, r3, r4, r5, r6) := by rw [if_neg (show ¬ (false = true) by decide)] at H; exact H
    clear H
    have H := H1
    clear H1
    by_cases c19 : a1 ≥ t144
    · rw [if_pos c19] at H
      have c19b0 : decide (t144 ≤ a1) = true := decide_eq_true c19
      clear c19
      simp only [Option.some.injEq, Prod.mk.injEq] at H
      obtain ⟨rfl, rfl, rfl, rfl, rfl, rfl⟩ := H
      go_enter Tryd.func14, Tryd.ntmps14
      go_wp2_with (first | ((with_reducible refine gate_dst (N := 3) rfl ?_); refine bx_ (N := 3) (cs := #[.int .u32 a0_0, .slice A0_1 l0_1.length c0_1, .slice A0_2 l0_2.length c0_2, .bool a0_3, .int .i64 a0_4]) (t := 25) ?_; intro gb141 hg w20 hbox hb; have BK141 := Aside0.mk (hbox); have GW141 := ge_ hg; have GE141 := ge_ hg; replace HB := hb_ hb; clear hb hbox hg) | ((with_reducible refine gate_dst (N := 6) rfl ?_); refine bx_ (N := 6) (cs := #[.int .u32 0, .slice none 0 0, .slice none 0 0, .bool false, .int .i64 0]) (t := 25) ?_; intro gb142 hg w21 hbox hb; have BK142 := Aside0.mk (hbox); have GW142 := ge_ hg; have GE142 := ge_ hg; have NB141_142 := nl_ BK141 hg; have NB142_141 := ng_ BK141 hg; replace BK141 := kb_ BK141 hb; replace HB := hb_ hb; clear hb hbox hg; have hnb22 := NB141_142.out; have hnc22 := NB142_141.out; obtain ⟨hcz23_0, hcz23_1, hcz23_2, hcz23_3, hcz23_4⟩ := cl5_ BK141; obtain ⟨hfz23_0, hfz23_1, hfz23_2, hfz23_3, hfz23_4⟩ := fz5_ BK141) | ((with_reducible refine gate_callee (f := 22) rfl ?_); refine gl_ (some 9) Tryd.func22 #[.agg #[.int .u32 a0_0, .slice A0_1 l0_1.length c0_1, .slice A0_2 l0_2.length c0_2, .bool a0_3, .int .i64 a0_4]] ?_; (with_reducible refine (cambiumref03_Check.calls k a0_0 _ _ l0_1 _ _ l0_2 a0_3 a0_4 t143 _ ?side1 ?side2 ?side3 ?side4 A4.out).mono ?_); (case side1 => exact cb_ HR0_1); (case side2 => exact HC0_1.out); (case side3 => exact cb_ HR0_2); (case side4 => exact HC0_2.out); rintro e w24 ⟨rfl, hb⟩; refine ⟨_, rfl, ?_⟩; replace BK141 := kb_ BK141 hb; replace BK142 := kb_ BK142 hb; replace HB := hb_ hb; (try clear hb); (try clear hb2); (try clear hk); (try clear hi); obtain ⟨hcz25_0, hcz25_1, hcz25_2, hcz25_3, hcz25_4⟩ := cl5_ BK141; obtain ⟨hfz25_0, hfz25_1, hfz25_2, hfz25_3, hfz25_4⟩ := fz5_ BK141) | ((with_reducible refine gate_callee (f := 12) rfl ?_); refine gl_ (some 13) Tryd.func12 #[.agg #[.int .u32 a0_0, .slice A0_1 l0_1.length c0_1, .slice A0_2 l0_2.length c0_2, .bool a0_3, .int .i64 a0_4]] ?_; (with_reducible refine (cambiumref03_Copy.calls a0_0 _ _ l0_1 _ _ l0_2 a0_3 a0_4 t144 t145 t148 false t152 _ ?side1 ?side2 ?side3 ?side4 A6.out).mono ?_); (case side1 => exact cb_ HR0_1); (case side2 => exact HC0_1.out); (case side3 => exact cb_ HR0_2); (case side4 => exact HC0_2.out); rintro e w26 ⟨v146, v149, rfl, ho0, ho1, hb⟩; refine ⟨_, rfl, ?_⟩; have HO147 := rl_ ho0; have HO150 := rl_ ho1; replace BK141 := kb_ BK141 hb; replace BK142 := kb_ BK142 hb; replace HB := hb_ hb; (try clear hb); (try clear hb2); (try clear hk); (try clear hi); (try clear ho0); (try clear ho1); obtain ⟨hcz27_0, hcz27_1, hcz27_2, hcz27_3, hcz27_4⟩ := cl5_ BK141; obtain ⟨hfz27_0, hfz27_1, hfz27_2, hfz27_3, hfz27_4⟩ := fz5_ BK141; obtain ⟨Ao28, co28, eo28⟩ := Kd.R_slice HO147.out; subst eo28; obtain ⟨Ao29, co29, eo29⟩ := Kd.R_slice HO150.out; subst eo29; obtain ⟨hcz30_0, hcz30_1, hcz30_2, hcz30_3, hcz30_4⟩ := cl5_ BK142; obtain ⟨hfz30_0, hfz30_1, hfz30_2, hfz30_3, hfz30_4⟩ := fz5_ BK142))
      refine bodyPost_ret (results_ct rfl _ _ gb142 25 #[.int .u32 t144, .slice Ao28 t145.length co28, .slice Ao29 t148.length co29, .bool false, .int .i64 t152] (0, 0) _ rfl (bs_) Tryd.underlying25 rfl (by kernel_rfl)) rfl ?_
      exact ⟨_, _, by first | rfl | (simp [errW_none, errW_some] <;> rfl) | (simp [*, errW_none, errW_some] <;> rfl), rw_ HO147, rw_ HO150, bel_⟩
    rw [if_neg c19] at H
    have c19b0 : decide (t144 ≤ a1) = false := decide_eq_false c19
    clear c19
    by_cases c31 : (a2.size : Int) > 512
    · rw [if_pos c31] at H
      have c31b0 : decide (512 < (a2.size : Int)) = true := decide_eq_true c31
      have c31b1 : decide (512 < a2.size) = true := decide_eq_true (by omega)
      clear c31
      simp only [Option.some.injEq, Prod.mk.injEq] at H
      obtain ⟨rfl, rfl, rfl, rfl, rfl, rfl⟩ := H
      go_enter Tryd.func14, Tryd.ntmps14
      go_wp2_with (first | ((with_reducible refine gate_dst (N := 3) rfl ?_); refine bx_ (N := 3) (cs := #[.int .u32 a0_0, .slice A0_1 l0_1.length c0_1, .slice A0_2 l0_2.length c0_2, .bool a0_3, .int .i64 a0_4]) (t := 25) ?_; intro gb141 hg w32 hbox hb; have BK141 := Aside0.mk (hbox); have GW141 := ge_ hg; have GE141 := ge_ hg; replace HB := hb_ hb; clear hb hbox hg) | ((with_reducible refine gate_dst (N := 6) rfl ?_); refine bx_ (N := 6) (cs := #[.int .u32 0, .slice none 0 0, .slice none 0 0, .bool false, .int .i64 0]) (t := 25) ?_; intro gb142 hg w33 hbox hb; have BK142 := Aside0.mk (hbox); have GW142 := ge_ hg; have GE142 := ge_ hg; have NB141_142 := nl_ BK141 hg; have NB142_141 := ng_ BK141 hg; replace BK141 := kb_ BK141 hb; replace HB := hb_ hb; clear hb hbox hg; have hnb34 := NB141_142.out; have hnc34 := NB142_141.out; obtain ⟨hcz35_0, hcz35_1, hcz35_2, hcz35_3, hcz35_4⟩ := cl5_ BK141; obtain ⟨hfz35_0, hfz35_1, hfz35_2, hfz35_3, hfz35_4⟩ := fz5_ BK141) | ((with_reducible refine gate_callee (f := 22) rfl ?_); refine gl_ (some 9) Tryd.func22 #[.agg #[.int .u32 a0_0, .slice A0_1 l0_1.length c0_1, .slice A0_2 l0_2.length c0_2, .bool a0_3, .int .i64 a0_4]] ?_; (with_reducible refine (cambiumref03_Check.calls k a0_0 _ _ l0_1 _ _ l0_2 a0_3 a0_4 t143 _ ?side1 ?side2 ?side3 ?side4 A4.out).mono ?_); (case side1 => exact cb_ HR0_1); (case side2 => exact HC0_1.out); (case side3 => exact cb_ HR0_2); (case side4 => exact HC0_2.out); rintro e w36 ⟨rfl, hb⟩; refine ⟨_, rfl, ?_⟩; replace BK141 := kb_ BK141 hb; replace BK142 := kb_ BK142 hb; replace HB := hb_ hb; (try clear hb); (try clear hb2); (try clear hk); (try clear hi); obtain ⟨hcz37_0, hcz37_1, hcz37_2, hcz37_3, hcz37_4⟩ := cl5_ BK141; obtain ⟨hfz37_0, hfz37_1, hfz37_2, hfz37_3, hfz37_4⟩ := fz5_ BK141) | ((with_reducible refine gate_callee (f := 12) rfl ?_); refine gl_ (some 13) Tryd.func12 #[.agg #[.int .u32 a0_0, .slice A0_1 l0_1.length c0_1, .slice A0_2 l0_2.length c0_2, .bool a0_3, .int .i64 a0_4]] ?_; (with_reducible refine (cambiumref03_Copy.calls a0_0 _ _ l0_1 _ _ l0_2 a0_3 a0_4 t144 t145 t148 false t152 _ ?side1 ?side2 ?side3 ?side4 A6.out).mono ?_); (case side1 => exact cb_ HR0_1); (case side2 => exact HC0_1.out); (case side3 => exact cb_ HR0_2); (case side4 => exact HC0_2.out); rintro e w38 ⟨v146, v149, rfl, ho0, ho1, hb⟩; refine ⟨_, rfl, ?_⟩; have HO147 := rl_ ho0; have HO150 := rl_ ho1; replace BK141 := kb_ BK141 hb; replace BK142 := kb_ BK142 hb; replace HB := hb_ hb; (try clear hb); (try clear hb2); (try clear hk); (try clear hi); (try clear ho0); (try clear ho1); obtain ⟨hcz39_0, hcz39_1, hcz39_2, hcz39_3, hcz39_4⟩ := cl5_ BK141; obtain ⟨hfz39_0, hfz39_1, hfz39_2, hfz39_3, hfz39_4⟩ := fz5_ BK141; obtain ⟨Ao40, co40, eo40⟩ := Kd.R_slice HO147.out; subst eo40; obtain ⟨Ao41, co41, eo41⟩ := Kd.R_slice HO150.out; subst eo41; obtain ⟨hcz42_0, hcz42_1, hcz42_2, hcz42_3, hcz42_4⟩ := cl5_ BK142; obtain ⟨hfz42_0, hfz42_1, hfz42_2, hfz42_3, hfz42_4⟩ := fz5_ BK142))
      refine bodyPost_ret (results_ct rfl _ _ gb142 25 #[.int .u32 t144, .slice Ao40 t145.length co40, .slice Ao41 t148.length co41, .bool false, .int .i64 t152] (0, 0) _ rfl (bs_) Tryd.underlying25 rfl (by kernel_rfl)) rfl ?_
      exact ⟨_, _, by first | rfl | (simp [errW_none, errW_some] <;> rfl) | (simp [*, errW_none, errW_some] <;> rfl), rw_ HO147, rw_ HO150, bel_⟩
    rw [if_neg c31] at H
    have c31b0 : decide (512 < (a2.size : Int)) = false := decide_eq_false c31
    have c31b1 : decide (512 < a2.size) = false := decide_eq_false (by omega)
    clear c31
    by_cases c43 : (t148.length : Int) ≥ 16384
    · rw [if_pos c43] at H
      have c43b0 : decide (16384 ≤ (t148.length : Int)) = true := decide_eq_true c43
      have c43b1 : decide (16384 ≤ t148.length) = true := decide_eq_true (by omega)
      clear c43
      simp only [Option.some.injEq, Prod.mk.injEq] at H
      obtain ⟨rfl, rfl, rfl, rfl, rfl, rfl⟩ := H
      go_enter Tryd.func14, Tryd.ntmps14
      go_wp2_with (first | ((with_reducible refine gate_dst (N := 3) rfl ?_); refine bx_ (N := 3) (cs := #[.int .u32 a0_0, .slice A0_1 l0_1.length c0_1, .slice A0_2 l0_2.length c0_2, .bool a0_3, .int .i64 a0_4]) (t := 25) ?_; intro gb141 hg w44 hbox hb; have BK141 := Aside0.mk (hbox); have GW141 := ge_ hg; have GE141 := ge_ hg; replace HB := hb_ hb; clear hb hbox hg) | ((with_reducible refine gate_dst (N := 6) rfl ?_); refine bx_ (N := 6) (cs := #[.int .u32 0, .slice none 0 0, .slice none 0 0, .bool false, .int .i64 0]) (t := 25) ?_; intro gb142 hg w45 hbox hb; have BK142 := Aside0.mk (hbox); have GW142 := ge_ hg; have GE142 := ge_ hg; have NB141_142 := nl_ BK141 hg; have NB142_141 := ng_ BK141 hg; replace BK141 := kb_ BK141 hb; replace HB := hb_ hb; clear hb hbox hg; have hnb46 := NB141_142.out; have hnc46 := NB142_141.out; obtain ⟨hcz47_0, hcz47_1, hcz47_2, hcz47_3, hcz47_4⟩ := cl5_ BK141; obtain ⟨hfz47_0, hfz47_1, hfz47_2, hfz47_3, hfz47_4⟩ := fz5_ BK141) | ((with_reducible refine gate_callee (f := 22) rfl ?_); refine gl_ (some 9) Tryd.func22 #[.agg #[.int .u32 a0_0, .slice A0_1 l0_1.length c0_1, .slice A0_2 l0_2.length c0_2, .bool a0_3, .int .i64 a0_4]] ?_; (with_reducible refine (cambiumref03_Check.calls k a0_0 _ _ l0_1 _ _ l0_2 a0_3 a0_4 t143 _ ?side1 ?side2 ?side3 ?side4 A4.out).mono ?_); (case side1 => exact cb_ HR0_1); (case side2 => exact HC0_1.out); (case side3 => exact cb_ HR0_2); (case side4 => exact HC0_2.out); rintro e w48 ⟨rfl, hb⟩; refine ⟨_, rfl, ?_⟩; replace BK141 := kb_ BK141 hb; replace BK142 := kb_ BK142 hb; replace HB := hb_ hb; (try clear hb); (try clear hb2); (try clear hk); (try clear hi); obtain ⟨hcz49_0, hcz49_1, hcz49_2, hcz49_3, hcz49_4⟩ := cl5_ BK141; obtain ⟨hfz49_0, hfz49_1, hfz49_2, hfz49_3, hfz49_4⟩ := fz5_ BK141) | ((with_reducible refine gate_callee (f := 12) rfl ?_); refine gl_ (some 13) Tryd.func12 #[.agg #[.int .u32 a0_0, .slice A0_1 l0_1.length c0_1, .slice A0_2 l0_2.length c0_2, .bool a0_3, .int .i64 a0_4]] ?_; (with_reducible refine (cambiumref03_Copy.calls a0_0 _ _ l0_1 _ _ l0_2 a0_3 a0_4 t144 t145 t148 false t152 _ ?side1 ?side2 ?side3 ?side4 A6.out).mono ?_); (case side1 => exact cb_ HR0_1); (case side2 => exact HC0_1.out); (case side3 => exact cb_ HR0_2); (case side4 => exact HC0_2.out); rintro e w50 ⟨v146, v149, rfl, ho0, ho1, hb⟩; refine ⟨_, rfl, ?_⟩; have HO147 := rl_ ho0; have HO150 := rl_ ho1; replace BK141 := kb_ BK141 hb; replace BK142 := kb_ BK142 hb; replace HB := hb_ hb; (try clear hb); (try clear hb2); (try clear hk); (try clear hi); (try clear ho0); (try clear ho1); obtain ⟨hcz51_0, hcz51_1, hcz51_2, hcz51_3, hcz51_4⟩ := cl5_ BK141; obtain ⟨hfz51_0, hfz51_1, hfz51_2, hfz51_3, hfz51_4⟩ := fz5_ BK141; obtain ⟨Ao52, co52, eo52⟩ := Kd.R_slice HO147.out; subst eo52; obtain ⟨Ao53, co53, eo53⟩ := Kd.R_slice HO150.out; subst eo53; obtain ⟨hcz54_0, hcz54_1, hcz54_2, hcz54_3, hcz54_4⟩ := cl5_ BK142; obtain ⟨hfz54_0, hfz54_1, hfz54_2, hfz54_3, hfz54_4⟩ := fz5_ BK142))
      refine bodyPost_ret (results_ct rfl _ _ gb142 25 #[.int .u32 t144, .slice Ao52 t145.length co52, .slice Ao53 t148.length co53, .bool false, .int .i64 t152] (0, 0) _ rfl (bs_) Tryd.underlying25 rfl (by kernel_rfl)) rfl ?_
      exact ⟨_, _, by first | rfl | (simp [errW_none, errW_some] <;> rfl) | (simp [*, errW_none, errW_some] <;> rfl), rw_ HO147, rw_ HO150, bel_⟩
    rw [if_neg c43] at H
    have c43b0 : decide (16384 ≤ (t148.length : Int)) = false := decide_eq_false c43
    have c43b1 : decide (16384 ≤ t148.length) = false := decide_eq_false (by omega)
    clear c43
    replace H := Option.bind_eq_some_iff.mp H
    obtain ⟨t153, A550, H⟩ := H
    replace H : (if t148.length < 5864062014805 then ((some (t148 ++ [(⟨a1, t153⟩ : S39)] : List (S39))).bind fun y154 => (if t152 = 0 then (some (t144, t145, y154, true, t152, 17)) else (if t152 > 0 then (some (t144, t145, y154, false, wrap64 (t152 - 1), 0)) else (some (t144, t145, y154, false, t152, 0))))) else (none)) = some (r1, r2, r3, r4, r5, r6) := H
    have A55 := Aside0.mk A550
    clear A550
    by_cases c56 : t148.length < 5864062014805
    · rw [if_pos c56] at H
      have LMc56 := Aside0.mk c56
      clear c56
      obtain ⟨y154, hy154⟩ : ∃ y_ : List (S39), y_ = (t148 ++ [(⟨a1, t153⟩ : S39)]) := ⟨_, rfl⟩
      replace H : (if t152 = 0 then (some (t144, t145, y154, true, t152, 17)) else (if t152 > 0 then (some (t144, t145, y154, false, wrap64 (t152 - 1), 0)) else (some (t144, t145, y154, false, t152, 0)))) = some (r1, r2, r3, r4, r5, r6) := by first | (rw [hy154]; with_reducible exact H) | (have H2_ := (Option.bind_some _ _).symm.trans H; rw [hy154]; with_reducible exact H2_) | (have H2_ := (Option.bind_some _ _).symm.trans H; with_reducible exact H2_) | with_reducible exact H | (rw [hy154]; exact H) | exact H
      have Ny154 := Aside0.mk hy154
      clear hy154
      by_cases c57 : t152 = 0
      · rw [if_pos c57] at H
        have c57b0 : (t152 == 0) = true := beq_iff_eq.mpr c57
        have c57b1 : (t152 != 0) = false := bne_eq_false_iff_eq.mpr c57
        clear c57
        simp only [Option.some.injEq, Prod.mk.injEq] at H
        obtain ⟨rfl, rfl, rfl, rfl, rfl, rfl⟩ := H
        go_enter Tryd.func14, Tryd.ntmps14
        try go_wp2_with (first | ((with_reducible refine gate_dst (N := 3) rfl ?_); refine bx_ (N := 3) (cs := #[.int .u32 a0_0, .slice A0_1 l0_1.length c0_1, .slice A0_2 l0_2.length c0_2, .bool a0_3, .int .i64 a0_4]) (t := 25) ?_; intro gb141 hg w58 hbox hb; have BK141 := Aside0.mk (hbox); have GW141 := ge_ hg; have GE141 := ge_ hg; replace HB := hb_ hb; clear hb hbox hg) | ((with_reducible refine gate_dst (N := 6) rfl ?_); refine bx_ (N := 6) (cs := #[.int .u32 0, .slice none 0 0, .slice none 0 0, .bool false, .int .i64 0]) (t := 25) ?_; intro gb142 hg w59 hbox hb; have BK142 := Aside0.mk (hbox); have GW142 := ge_ hg; have GE142 := ge_ hg; have NB141_142 := nl_ BK141 hg; have NB142_141 := ng_ BK141 hg; replace BK141 := kb_ BK141 hb; replace HB := hb_ hb; clear hb hbox hg; have hnb60 := NB141_142.out; have hnc60 := NB142_141.out; obtain ⟨hcz61_0, hcz61_1, hcz61_2, hcz61_3, hcz61_4⟩ := cl5_ BK141; obtain ⟨hfz61_0, hfz61_1, hfz61_2, hfz61_3, hfz61_4⟩ := fz5_ BK141) | ((with_reducible refine gate_callee (f := 22) rfl ?_); refine gl_ (some 9) Tryd.func22 #[.agg #[.int .u32 a0_0, .slice A0_1 l0_1.length c0_1, .slice A0_2 l0_2.length c0_2, .bool a0_3, .int .i64 a0_4]] ?_; (with_reducible refine (cambiumref03_Check.calls k a0_0 _ _ l0_1 _ _ l0_2 a0_3 a0_4 t143 _ ?side1 ?side2 ?side3 ?side4 A4.out).mono ?_); (case side1 => exact cb_ HR0_1); (case side2 => exact HC0_1.out); (case side3 => exact cb_ HR0_2); (case side4 => exact HC0_2.out); rintro e w62 ⟨rfl, hb⟩; refine ⟨_, rfl, ?_⟩; replace BK141 := kb_ BK141 hb; replace BK142 := kb_ BK142 hb; replace HB := hb_ hb; (try clear hb); (try clear hb2); (try clear hk); (try clear hi); obtain ⟨hcz63_0, hcz63_1, hcz63_2, hcz63_3, hcz63_4⟩ := cl5_ BK141; obtain ⟨hfz63_0, hfz63_1, hfz63_2, hfz63_3, hfz63_4⟩ := fz5_ BK141) | ((with_reducible refine gate_callee (f := 12) rfl ?_); refine gl_ (some 13) Tryd.func12 #[.agg #[.int .u32 a0_0, .slice A0_1 l0_1.length c0_1, .slice A0_2 l0_2.length c0_2, .bool a0_3, .int .i64 a0_4]] ?_; (with_reducible refine (cambiumref03_Copy.calls a0_0 _ _ l0_1 _ _ l0_2 a0_3 a0_4 t144 t145 t148 false t152 _ ?side1 ?side2 ?side3 ?side4 A6.out).mono ?_); (case side1 => exact cb_ HR0_1); (case side2 => exact HC0_1.out); (case side3 => exact cb_ HR0_2); (case side4 => exact HC0_2.out); rintro e w64 ⟨v146, v149, rfl, ho0, ho1, hb⟩; refine ⟨_, rfl, ?_⟩; have HO147 := rl_ ho0; have HO150 := rl_ ho1; replace BK141 := kb_ BK141 hb; replace BK142 := kb_ BK142 hb; replace HB := hb_ hb; (try clear hb); (try clear hb2); (try clear hk); (try clear hi); (try clear ho0); (try clear ho1); obtain ⟨hcz65_0, hcz65_1, hcz65_2, hcz65_3, hcz65_4⟩ := cl5_ BK141; obtain ⟨hfz65_0, hfz65_1, hfz65_2, hfz65_3, hfz65_4⟩ := fz5_ BK141; obtain ⟨Ao66, co66, eo66⟩ := Kd.R_slice HO147.out; subst eo66; obtain ⟨Ao67, co67, eo67⟩ := Kd.R_slice HO150.out; subst eo67))
        have n0_ : Aside0 (Kd.R k39 39 (((((w64.setCell ⟨gb141, 0, none⟩ (.int .u32 t144)).setCell ⟨gb141, 1, none⟩ (.slice Ao66 t145.length co66)).setCell ⟨gb141, 2, none⟩ (.slice Ao67 t148.length co67)).setCell ⟨gb141, 3, none⟩ (.bool false)).setCell ⟨gb141, 4, none⟩ (.int .i64 t152)) w.heap.size (fun k_ => some k_ ≠ (.slice Ao67 t148.length co67 : Value).ownBlock) (.slice Ao66 t145.length co66) t145) := ⟨rw_ HO147⟩
        have n1_ : Aside0 (Kd.R k39 39 (((((w64.setCell ⟨gb141, 0, none⟩ (.int .u32 t144)).setCell ⟨gb141, 1, none⟩ (.slice Ao66 t145.length co66)).setCell ⟨gb141, 2, none⟩ (.slice Ao67 t148.length co67)).setCell ⟨gb141, 3, none⟩ (.bool false)).setCell ⟨gb141, 4, none⟩ (.int .i64 t152)) w.heap.size (fun k_ => some k_ ≠ (.slice Ao66 t145.length co66 : Value).ownBlock) (.slice Ao67 t148.length co67) t148) := ⟨rw_ HO150⟩
        have n2_ : Aside0 ((((((w64.setCell ⟨gb141, 0, none⟩ (.int .u32 t144)).setCell ⟨gb141, 1, none⟩ (.slice Ao66 t145.length co66)).setCell ⟨gb141, 2, none⟩ (.slice Ao67 t148.length co67)).setCell ⟨gb141, 3, none⟩ (.bool false)).setCell ⟨gb141, 4, none⟩ (.int .i64 t152)).heap[gb141]? = some (.cells #[.int .u32 t144, .slice Ao66 t145.length co66, .slice Ao67 t148.length co67, .bool false, .int .i64 t152] 25 (0, 0))) := ⟨bs_⟩
        have n3_ : Aside0 ((((((w64.setCell ⟨gb141, 0, none⟩ (.int .u32 t144)).setCell ⟨gb141, 1, none⟩ (.slice Ao66 t145.length co66)).setCell ⟨gb141, 2, none⟩ (.slice Ao67 t148.length co67)).setCell ⟨gb141, 3, none⟩ (.bool false)).setCell ⟨gb141, 4, none⟩ (.int .i64 t152)).heap[gb142]? = some (.cells #[.int .u32 0, .slice none 0 0, .slice none 0 0, .bool false, .int .i64 0] 25 (0, 0))) := ⟨bs_⟩
        have n4_ : Aside0 (Below w.heap.size w (((((w64.setCell ⟨gb141, 0, none⟩ (.int .u32 t144)).setCell ⟨gb141, 1, none⟩ (.slice Ao66 t145.length co66)).setCell ⟨gb141, 2, none⟩ (.slice Ao67 t148.length co67)).setCell ⟨gb141, 3, none⟩ (.bool false)).setCell ⟨gb141, 4, none⟩ (.int .i64 t152))) := ⟨bel_⟩
        (try clear HO147)
        (try clear HO150)
        (try clear BK141)
        (try clear BK142)
        (try clear HB)
        generalize (((((w64.setCell ⟨gb141, 0, none⟩ (.int .u32 t144)).setCell ⟨gb141, 1, none⟩ (.slice Ao66 t145.length co66)).setCell ⟨gb141, 2, none⟩ (.slice Ao67 t148.length co67)).setCell ⟨gb141, 3, none⟩ (.bool false)).setCell ⟨gb141, 4, none⟩ (.int .i64 t152)) = w68 at n0_ n1_ n2_ n3_ n4_ ⊢
        have HO147 := n0_
        have HO150 := n1_
        have BK141 := n2_
        have BK142 := n3_
        have HB := n4_
        clear n0_ n1_ n2_ n3_ n4_
        replace HO147 := Aside0.mk (Kd.R_drew HO147.out)
        replace HO150 := Aside0.mk (Kd.R_drew HO150.out)
        replace BK141 := Aside0.mk (blk_drew BK141.out)
        replace BK142 := Aside0.mk (blk_drew BK142.out)
        replace HB := Aside0.mk (below_drew1 HB.out)
        refine start_ (n := 10) (S := fun w' => w'.cell? ⟨gb141, 0, none⟩ = some (.int .u32 t144) ∧ w'.cell? ⟨gb141, 1, none⟩ = some (.slice Ao66 t145.length co66) ∧ w'.cell? ⟨gb141, 2, none⟩ = some (.slice Ao67 t148.length co67) ∧ w'.cell? ⟨gb141, 3, none⟩ = some (.bool false) ∧ w'.cell? ⟨gb141, 4, none⟩ = some (.int .i64 t152)) (ds := [9]) #[false, false, false, false, false, false, false, false, false, false] (by kernel_rfl) rfl rfl hc_ (fun hHeld => ?_); refine with_tabW cambiumref03_Write.tab12 cambiumref03_Write.bits12 (fun HT_ HW_ => ?_)
        generalize w68.drew = w69 at HO147 HO150 BK141 BK142 HB hHeld ⊢
        refine pu_ 0 35 ?_
        refine pu_ 2 37 ?_
        refine pu_ 3 38 ?_
        refine tk5_ 1 36 ?_
        refine on_ 4 39 (fun K hK => ?_)
        refine goes_ Tryd.func24 (by kernel_rfl) rfl #[.string a2] (by rfl) rfl rfl (by (try simp only [List.map_toArray, List.map_cons, List.map_nil]); first | done | rfl | (simp only [List.length_drop, List.length_take]; rfl)) ?_
        with_reducible refine (cambiumref03_Cut.calls k a2 t153 _ A55.out).mono ?_
        rintro e w' ⟨rfl, ⟨nd, rfl⟩⟩
        refine ⟨_, rfl, ?_⟩
        refine hK.out _ _ hc_ (fun hHeld => ?_)
        clear hK K
        refine nm_ 39 ?_
        refine pu_ 5 40 ?_
        refine on_ 6 41 (fun K hK => ?_)
        refine value_ (w1 := ?_) (v := ?_) (by rfl) rfl ?_ ?_
        rotate_left 2
        · go_simp
          constructor
          · rfl
          rfl
        refine hK.out _ _ ⟨(blk_cell (blk_alloc BK141.out _) 0).trans rfl, (blk_cell (blk_alloc BK141.out _) 1).trans rfl, (blk_cell (blk_alloc BK141.out _) 2).trans rfl, (blk_cell (blk_alloc BK141.out _) 3).trans rfl, (blk_cell (blk_alloc BK141.out _) 4).trans rfl⟩ (fun hHeld => ?_)
        clear hK K
        refine nm_ 41 ?_
        refine on_ 7 42 (fun K hK => ?_)
        refine Kd.R_append_step k39 (w0 := w) w.heap.size (by rfl) (.tmp 36) (.tmp 41) 23 39 (.agg #[(.int .u32 0), (.string ⟨#[]⟩)]) 24 rfl Tryd.underlying23 info39 rfl (by decide) (by omega) (.slice Ao67 t148.length co67) t148 (⟨a1, t153⟩ : S39) [.int .u32 a1, .string t153] (fun k_ => some k_ ≠ (.slice Ao66 t145.length co66 : Value).ownBlock) (fun _ => False) rfl rfl ?aP (fun _ hk => hk.elim) ?aF ?aO ?aB ?aS ?aL ?_
        (case aP => exact k39_mkM _ _ _ (⟨a1, t153⟩ : S39))
        (case aB => exact bel_)
        (case aF => exact (fun k_ hk => Kd.fresh' (Kd.R_lt (ra_ HO147)) k_ hk))
        (case aO => exact (ra_ HO150))
        (case aS => exact (below_size bel_))
        (case aL => have := LMc56.out; omega)
        intro v155 w70 ho hb hg hat
        rw [← Ny154.out] at ho
        have HO156 := Aside0.mk (ho)
        replace BK141 := Aside0.mk (blk_grown (bk_ BK141) hg (Kd.R_ne HO150.out BK141.out (by decide)))
        replace BK142 := Aside0.mk (blk_grown (bk_ BK142) hg (Kd.R_ne HO150.out BK142.out (by decide)))
        replace HO147 := Aside0.mk (Kd.R_after (ok := (fun _ => True)) (by (with_reducible repeat (first | apply Kd.R_alloc | apply Kd.R_drewN | apply Kd.R_drew)); exact Kd.R_mono HO147.out (fun _ hk => ⟨trivial, hk⟩)) hg hat)
        replace HB := Aside0.mk (hb)
        clear HO150
        clear ho hb hg hat
        obtain ⟨Ao71, co71, eo71⟩ := Kd.R_slice HO156.out
        (first | subst eo71 | (injection eo71 with f1_ f2_ f3_; have f4_ := f1_.symm; have f5_ := f3_.symm; clear f1_ f2_ f3_; subst f4_; subst f5_))
        refine hK.out _ _ hc_ (fun hHeld => ?_)
        clear hK K
        refine nm_ 42 ?_
        refine pu_ 8 43 ?_
        refine last_ (i := 9) (N := none) #[true, true, true, true, true, true, true, true, true, true] rfl rfl (one_of HT_.out (by kernel_rfl)) (by decide) (fun K hK => ?_)
        have hs72 : w70.cell? ⟨gb141, 2, none⟩ = some (.slice Ao67 t148.length co67) := (blk_cell BK141.out 2).trans rfl
        have hfs72 := blk_frozen BK141.out 2
        have hns72_1 := NB142_141.out
        have hms72_1 := NB141_142.out
        refine skip_ (w1 := ?_) (by rfl) rfl ?_ ?_
        rotate_left
        · go_simp
          rfl
        refine hK.out _ _ ?_
        clear hK K
        refine done_ (done_of HT_.out (by kernel_rfl)) ?_
        obtain ⟨hcz73_0, hcz73_1, hcz73_2, hcz73_3, hcz73_4⟩ := cl5_ BK141
        obtain ⟨hfz73_0, hfz73_1, hfz73_2, hfz73_3, hfz73_4⟩ := fz5_ BK141
        obtain ⟨hcz74_0, hcz74_1, hcz74_2, hcz74_3, hcz74_4⟩ := cl5_ BK142
        obtain ⟨hfz74_0, hfz74_1, hfz74_2, hfz74_3, hfz74_4⟩ := fz5_ BK142
        try go_wp2
        refine bodyPost_ret (results_ct rfl _ _ gb142 25 #[.int .u32 t144, .slice Ao66 t145.length co66, .slice Ao71 y154.length co71, .bool true, .int .i64 t152] (0, 0) _ rfl (bs_) Tryd.underlying25 rfl (by kernel_rfl)) rfl ?_
        exact ⟨_, _, by first | rfl | (simp [errW_none, errW_some] <;> rfl) | (simp [*, errW_none, errW_some] <;> rfl), by (with_reducible repeat (first | apply Kd.R_alloc | apply Kd.R_drewN | apply Kd.R_drew)); exact Kd.R_mono (Kd.R_far (p := ⟨gb142, 4, none⟩) (Kd.R_far (p := ⟨gb142, 3, none⟩) (Kd.R_far (p := ⟨gb142, 2, none⟩) (Kd.R_far (p := ⟨gb142, 1, none⟩) (Kd.R_far (p := ⟨gb142, 0, none⟩) (Kd.R_far (p := ⟨gb141, 3, none⟩) (Kd.R_far (p := ⟨gb141, 2, none⟩) (Kd.R_types (Kd.R_types HO147.out BK141.out (by decide)) BK142.out (by decide)) (fun _ hk => hk.1.2) (.slice Ao71 y154.length co71)) (fun _ hk => hk.1.2) (.bool true)) (fun _ hk => hk.2) (.int .u32 t144)) (fun _ hk => hk.2) (.slice Ao66 t145.length co66)) (fun _ hk => hk.2) (.slice Ao71 y154.length co71)) (fun _ hk => hk.2) (.bool true)) (fun _ hk => hk.2) (.int .i64 t152)) (fun _ hk => hk.1.1.2), rw_ HO156, bel_⟩
      rw [if_neg c57] at H
      have c57b0 : (t152 == 0) = false := beq_eq_false_iff_ne.mpr c57
      have c57b1 : (t152 != 0) = true := bne_iff_ne.mpr c57
      by_cases c75 : t152 > 0
      · rw [if_pos c75] at H
        have c75b0 : decide (0 < t152) = true := decide_eq_true c75
        clear c75
        simp only [Option.some.injEq, Prod.mk.injEq] at H
        obtain ⟨rfl, rfl, rfl, rfl, rfl, rfl⟩ := H
        go_enter Tryd.func14, Tryd.ntmps14
        try go_wp2_with (first | ((with_reducible refine gate_dst (N := 3) rfl ?_); refine bx_ (N := 3) (cs := #[.int .u32 a0_0, .slice A0_1 l0_1.length c0_1, .slice A0_2 l0_2.length c0_2, .bool a0_3, .int .i64 a0_4]) (t := 25) ?_; intro gb141 hg w76 hbox hb; have BK141 := Aside0.mk (hbox); have GW141 := ge_ hg; have GE141 := ge_ hg; replace HB := hb_ hb; clear hb hbox hg) | ((with_reducible refine gate_dst (N := 6) rfl ?_); refine bx_ (N := 6) (cs := #[.int .u32 0, .slice none 0 0, .slice none 0 0, .bool false, .int .i64 0]) (t := 25) ?_; intro gb142 hg w77 hbox hb; have BK142 := Aside0.mk (hbox); have GW142 := ge_ hg; have GE142 := ge_ hg; have NB141_142 := nl_ BK141 hg; have NB142_141 := ng_ BK141 hg; replace BK141 := kb_ BK141 hb; replace HB := hb_ hb; clear hb hbox hg; have hnb78 := NB141_142.out; have hnc78 := NB142_141.out; obtain ⟨hcz79_0, hcz79_1, hcz79_2, hcz79_3, hcz79_4⟩ := cl5_ BK141; obtain ⟨hfz79_0, hfz79_1, hfz79_2, hfz79_3, hfz79_4⟩ := fz5_ BK141) | ((with_reducible refine gate_callee (f := 22) rfl ?_); refine gl_ (some 9) Tryd.func22 #[.agg #[.int .u32 a0_0, .slice A0_1 l0_1.length c0_1, .slice A0_2 l0_2.length c0_2, .bool a0_3, .int .i64 a0_4]] ?_; (with_reducible refine (cambiumref03_Check.calls k a0_0 _ _ l0_1 _ _ l0_2 a0_3 a0_4 t143 _ ?side1 ?side2 ?side3 ?side4 A4.out).mono ?_); (case side1 => exact cb_ HR0_1); (case side2 => exact HC0_1.out); (case side3 => exact cb_ HR0_2); (case side4 => exact HC0_2.out); rintro e w80 ⟨rfl, hb⟩; refine ⟨_, rfl, ?_⟩; replace BK141 := kb_ BK141 hb; replace BK142 := kb_ BK142 hb; replace HB := hb_ hb; (try clear hb); (try clear hb2); (try clear hk); (try clear hi); obtain ⟨hcz81_0, hcz81_1, hcz81_2, hcz81_3, hcz81_4⟩ := cl5_ BK141; obtain ⟨hfz81_0, hfz81_1, hfz81_2, hfz81_3, hfz81_4⟩ := fz5_ BK141) | ((with_reducible refine gate_callee (f := 12) rfl ?_); refine gl_ (some 13) Tryd.func12 #[.agg #[.int .u32 a0_0, .slice A0_1 l0_1.length c0_1, .slice A0_2 l0_2.length c0_2, .bool a0_3, .int .i64 a0_4]] ?_; (with_reducible refine (cambiumref03_Copy.calls a0_0 _ _ l0_1 _ _ l0_2 a0_3 a0_4 t144 t145 t148 false t152 _ ?side1 ?side2 ?side3 ?side4 A6.out).mono ?_); (case side1 => exact cb_ HR0_1); (case side2 => exact HC0_1.out); (case side3 => exact cb_ HR0_2); (case side4 => exact HC0_2.out); rintro e w82 ⟨v146, v149, rfl, ho0, ho1, hb⟩; refine ⟨_, rfl, ?_⟩; have HO147 := rl_ ho0; have HO150 := rl_ ho1; replace BK141 := kb_ BK141 hb; replace BK142 := kb_ BK142 hb; replace HB := hb_ hb; (try clear hb); (try clear hb2); (try clear hk); (try clear hi); (try clear ho0); (try clear ho1); obtain ⟨hcz83_0, hcz83_1, hcz83_2, hcz83_3, hcz83_4⟩ := cl5_ BK141; obtain ⟨hfz83_0, hfz83_1, hfz83_2, hfz83_3, hfz83_4⟩ := fz5_ BK141; obtain ⟨Ao84, co84, eo84⟩ := Kd.R_slice HO147.out; subst eo84; obtain ⟨Ao85, co85, eo85⟩ := Kd.R_slice HO150.out; subst eo85))
        have n0_ : Aside0 (Kd.R k39 39 (((((w82.setCell ⟨gb141, 0, none⟩ (.int .u32 t144)).setCell ⟨gb141, 1, none⟩ (.slice Ao84 t145.length co84)).setCell ⟨gb141, 2, none⟩ (.slice Ao85 t148.length co85)).setCell ⟨gb141, 3, none⟩ (.bool false)).setCell ⟨gb141, 4, none⟩ (.int .i64 t152)) w.heap.size (fun k_ => some k_ ≠ (.slice Ao85 t148.length co85 : Value).ownBlock) (.slice Ao84 t145.length co84) t145) := ⟨rw_ HO147⟩
        have n1_ : Aside0 (Kd.R k39 39 (((((w82.setCell ⟨gb141, 0, none⟩ (.int .u32 t144)).setCell ⟨gb141, 1, none⟩ (.slice Ao84 t145.length co84)).setCell ⟨gb141, 2, none⟩ (.slice Ao85 t148.length co85)).setCell ⟨gb141, 3, none⟩ (.bool false)).setCell ⟨gb141, 4, none⟩ (.int .i64 t152)) w.heap.size (fun k_ => some k_ ≠ (.slice Ao84 t145.length co84 : Value).ownBlock) (.slice Ao85 t148.length co85) t148) := ⟨rw_ HO150⟩
        have n2_ : Aside0 ((((((w82.setCell ⟨gb141, 0, none⟩ (.int .u32 t144)).setCell ⟨gb141, 1, none⟩ (.slice Ao84 t145.length co84)).setCell ⟨gb141, 2, none⟩ (.slice Ao85 t148.length co85)).setCell ⟨gb141, 3, none⟩ (.bool false)).setCell ⟨gb141, 4, none⟩ (.int .i64 t152)).heap[gb141]? = some (.cells #[.int .u32 t144, .slice Ao84 t145.length co84, .slice Ao85 t148.length co85, .bool false, .int .i64 t152] 25 (0, 0))) := ⟨bs_⟩
        have n3_ : Aside0 ((((((w82.setCell ⟨gb141, 0, none⟩ (.int .u32 t144)).setCell ⟨gb141, 1, none⟩ (.slice Ao84 t145.length co84)).setCell ⟨gb141, 2, none⟩ (.slice Ao85 t148.length co85)).setCell ⟨gb141, 3, none⟩ (.bool false)).setCell ⟨gb141, 4, none⟩ (.int .i64 t152)).heap[gb142]? = some (.cells #[.int .u32 0, .slice none 0 0, .slice none 0 0, .bool false, .int .i64 0] 25 (0, 0))) := ⟨bs_⟩
        have n4_ : Aside0 (Below w.heap.size w (((((w82.setCell ⟨gb141, 0, none⟩ (.int .u32 t144)).setCell ⟨gb141, 1, none⟩ (.slice Ao84 t145.length co84)).setCell ⟨gb141, 2, none⟩ (.slice Ao85 t148.length co85)).setCell ⟨gb141, 3, none⟩ (.bool false)).setCell ⟨gb141, 4, none⟩ (.int .i64 t152))) := ⟨bel_⟩
        (try clear HO147)
        (try clear HO150)
        (try clear BK141)
        (try clear BK142)
        (try clear HB)
        generalize (((((w82.setCell ⟨gb141, 0, none⟩ (.int .u32 t144)).setCell ⟨gb141, 1, none⟩ (.slice Ao84 t145.length co84)).setCell ⟨gb141, 2, none⟩ (.slice Ao85 t148.length co85)).setCell ⟨gb141, 3, none⟩ (.bool false)).setCell ⟨gb141, 4, none⟩ (.int .i64 t152)) = w86 at n0_ n1_ n2_ n3_ n4_ ⊢
        have HO147 := n0_
        have HO150 := n1_
        have BK141 := n2_
        have BK142 := n3_
        have HB := n4_
        clear n0_ n1_ n2_ n3_ n4_
        replace HO147 := Aside0.mk (Kd.R_drew HO147.out)
        replace HO150 := Aside0.mk (Kd.R_drew HO150.out)
        replace BK141 := Aside0.mk (blk_drew BK141.out)
        replace BK142 := Aside0.mk (blk_drew BK142.out)
        replace HB := Aside0.mk (below_drew1 HB.out)
        refine start_ (n := 10) (S := fun w' => w'.cell? ⟨gb141, 0, none⟩ = some (.int .u32 t144) ∧ w'.cell? ⟨gb141, 1, none⟩ = some (.slice Ao84 t145.length co84) ∧ w'.cell? ⟨gb141, 2, none⟩ = some (.slice Ao85 t148.length co85) ∧ w'.cell? ⟨gb141, 3, none⟩ = some (.bool false) ∧ w'.cell? ⟨gb141, 4, none⟩ = some (.int .i64 t152)) (ds := [9]) #[false, false, false, false, false, false, false, false, false, false] (by kernel_rfl) rfl rfl hc_ (fun hHeld => ?_); refine with_tabW cambiumref03_Write.tab12 cambiumref03_Write.bits12 (fun HT_ HW_ => ?_)
        generalize w86.drew = w87 at HO147 HO150 BK141 BK142 HB hHeld ⊢
        refine pu_ 0 35 ?_
        refine pu_ 2 37 ?_
        refine pu_ 3 38 ?_
        refine tk5_ 1 36 ?_
        refine on_ 4 39 (fun K hK => ?_)
        refine goes_ Tryd.func24 (by kernel_rfl) rfl #[.string a2] (by rfl) rfl rfl (by (try simp only [List.map_toArray, List.map_cons, List.map_nil]); first | done | rfl | (simp only [List.length_drop, List.length_take]; rfl)) ?_
        with_reducible refine (cambiumref03_Cut.calls k a2 t153 _ A55.out).mono ?_
        rintro e w' ⟨rfl, ⟨nd, rfl⟩⟩
        refine ⟨_, rfl, ?_⟩
        refine hK.out _ _ hc_ (fun hHeld => ?_)
        clear hK K
        refine nm_ 39 ?_
        refine pu_ 5 40 ?_
        refine on_ 6 41 (fun K hK => ?_)
        refine value_ (w1 := ?_) (v := ?_) (by rfl) rfl ?_ ?_
        rotate_left 2
        · go_simp
          constructor
          · rfl
          rfl
        refine hK.out _ _ ⟨(blk_cell (blk_alloc BK141.out _) 0).trans rfl, (blk_cell (blk_alloc BK141.out _) 1).trans rfl, (blk_cell (blk_alloc BK141.out _) 2).trans rfl, (blk_cell (blk_alloc BK141.out _) 3).trans rfl, (blk_cell (blk_alloc BK141.out _) 4).trans rfl⟩ (fun hHeld => ?_)
        clear hK K
        refine nm_ 41 ?_
        refine on_ 7 42 (fun K hK => ?_)
        refine Kd.R_append_step k39 (w0 := w) w.heap.size (by rfl) (.tmp 36) (.tmp 41) 23 39 (.agg #[(.int .u32 0), (.string ⟨#[]⟩)]) 24 rfl Tryd.underlying23 info39 rfl (by decide) (by omega) (.slice Ao85 t148.length co85) t148 (⟨a1, t153⟩ : S39) [.int .u32 a1, .string t153] (fun k_ => some k_ ≠ (.slice Ao84 t145.length co84 : Value).ownBlock) (fun _ => False) rfl rfl ?aP (fun _ hk => hk.elim) ?aF ?aO ?aB ?aS ?aL ?_
        (case aP => exact k39_mkM _ _ _ (⟨a1, t153⟩ : S39))
        (case aB => exact bel_)
        (case aF => exact (fun k_ hk => Kd.fresh' (Kd.R_lt (ra_ HO147)) k_ hk))
        (case aO => exact (ra_ HO150))
        (case aS => exact (below_size bel_))
        (case aL => have := LMc56.out; omega)
        intro v155 w88 ho hb hg hat
        rw [← Ny154.out] at ho
        have HO156 := Aside0.mk (ho)
        replace BK141 := Aside0.mk (blk_grown (bk_ BK141) hg (Kd.R_ne HO150.out BK141.out (by decide)))
        replace BK142 := Aside0.mk (blk_grown (bk_ BK142) hg (Kd.R_ne HO150.out BK142.out (by decide)))
        replace HO147 := Aside0.mk (Kd.R_after (ok := (fun _ => True)) (by (with_reducible repeat (first | apply Kd.R_alloc | apply Kd.R_drewN | apply Kd.R_drew)); exact Kd.R_mono HO147.out (fun _ hk => ⟨trivial, hk⟩)) hg hat)
        replace HB := Aside0.mk (hb)
        clear HO150
        clear ho hb hg hat
        obtain ⟨Ao89, co89, eo89⟩ := Kd.R_slice HO156.out
        (first | subst eo89 | (injection eo89 with f1_ f2_ f3_; have f4_ := f1_.symm; have f5_ := f3_.symm; clear f1_ f2_ f3_; subst f4_; subst f5_))
        refine hK.out _ _ hc_ (fun hHeld => ?_)
        clear hK K
        refine nm_ 42 ?_
        refine pu_ 8 43 ?_
        refine last_ (i := 9) (N := none) #[true, true, true, true, true, true, true, true, true, true] rfl rfl (one_of HT_.out (by kernel_rfl)) (by decide) (fun K hK => ?_)
        have hs90 : w88.cell? ⟨gb141, 2, none⟩ = some (.slice Ao85 t148.length co85) := (blk_cell BK141.out 2).trans rfl
        have hfs90 := blk_frozen BK141.out 2
        have hns90_1 := NB142_141.out
        have hms90_1 := NB141_142.out
        refine skip_ (w1 := ?_) (by rfl) rfl ?_ ?_
        rotate_left
        · go_simp
          rfl
        refine hK.out _ _ ?_
        clear hK K
        refine done_ (done_of HT_.out (by kernel_rfl)) ?_
        obtain ⟨hcz91_0, hcz91_1, hcz91_2, hcz91_3, hcz91_4⟩ := cl5_ BK141
        obtain ⟨hfz91_0, hfz91_1, hfz91_2, hfz91_3, hfz91_4⟩ := fz5_ BK141
        obtain ⟨hcz92_0, hcz92_1, hcz92_2, hcz92_3, hcz92_4⟩ := cl5_ BK142
        obtain ⟨hfz92_0, hfz92_1, hfz92_2, hfz92_3, hfz92_4⟩ := fz5_ BK142
        try go_wp2
        refine bodyPost_ret (results_ct rfl _ _ gb142 25 #[.int .u32 t144, .slice Ao84 t145.length co84, .slice Ao89 y154.length co89, .bool false, .int .i64 (wrap64 (t152 - 1))] (0, 0) _ rfl (bs_) Tryd.underlying25 rfl (by kernel_rfl)) rfl ?_
        exact ⟨_, _, by first | rfl | (simp [errW_none, errW_some] <;> rfl) | (simp [*, errW_none, errW_some] <;> rfl), by (with_reducible repeat (first | apply Kd.R_alloc | apply Kd.R_drewN | apply Kd.R_drew)); exact Kd.R_mono (Kd.R_far (p := ⟨gb142, 4, none⟩) (Kd.R_far (p := ⟨gb142, 3, none⟩) (Kd.R_far (p := ⟨gb142, 2, none⟩) (Kd.R_far (p := ⟨gb142, 1, none⟩) (Kd.R_far (p := ⟨gb142, 0, none⟩) (Kd.R_far (p := ⟨gb141, 4, none⟩) (Kd.R_far (p := ⟨gb141, 2, none⟩) (Kd.R_types (Kd.R_types HO147.out BK141.out (by decide)) BK142.out (by decide)) (fun _ hk => hk.1.2) (.slice Ao89 y154.length co89)) (fun _ hk => hk.1.2) (.int .i64 (wrap64 (t152 - 1)))) (fun _ hk => hk.2) (.int .u32 t144)) (fun _ hk => hk.2) (.slice Ao84 t145.length co84)) (fun _ hk => hk.2) (.slice Ao89 y154.length co89)) (fun _ hk => hk.2) (.bool false)) (fun _ hk => hk.2) (.int .i64 (wrap64 (t152 - 1)))) (fun _ hk => hk.1.1.2), rw_ HO156, bel_⟩
      rw [if_neg c75] at H
      have c75b0 : decide (0 < t152) = false := decide_eq_false c75
      clear c75
      simp only [Option.some.injEq, Prod.mk.injEq] at H
      obtain ⟨rfl, rfl, rfl, rfl, rfl, rfl⟩ := H
      go_enter Tryd.func14, Tryd.ntmps14
      try go_wp2_with (first | ((with_reducible refine gate_dst (N := 3) rfl ?_); refine bx_ (N := 3) (cs := #[.int .u32 a0_0, .slice A0_1 l0_1.length c0_1, .slice A0_2 l0_2.length c0_2, .bool a0_3, .int .i64 a0_4]) (t := 25) ?_; intro gb141 hg w93 hbox hb; have BK141 := Aside0.mk (hbox); have GW141 := ge_ hg; have GE141 := ge_ hg; replace HB := hb_ hb; clear hb hbox hg) | ((with_reducible refine gate_dst (N := 6) rfl ?_); refine bx_ (N := 6) (cs := #[.int .u32 0, .slice none 0 0, .slice none 0 0, .bool false, .int .i64 0]) (t := 25) ?_; intro gb142 hg w94 hbox hb; have BK142 := Aside0.mk (hbox); have GW142 := ge_ hg; have GE142 := ge_ hg; have NB141_142 := nl_ BK141 hg; have NB142_141 := ng_ BK141 hg; replace BK141 := kb_ BK141 hb; replace HB := hb_ hb; clear hb hbox hg; have hnb95 := NB141_142.out; have hnc95 := NB142_141.out; obtain ⟨hcz96_0, hcz96_1, hcz96_2, hcz96_3, hcz96_4⟩ := cl5_ BK141; obtain ⟨hfz96_0, hfz96_1, hfz96_2, hfz96_3, hfz96_4⟩ := fz5_ BK141) | ((with_reducible refine gate_callee (f := 22) rfl ?_); refine gl_ (some 9) Tryd.func22 #[.agg #[.int .u32 a0_0, .slice A0_1 l0_1.length c0_1, .slice A0_2 l0_2.length c0_2, .bool a0_3, .int .i64 a0_4]] ?_; (with_reducible refine (cambiumref03_Check.calls k a0_0 _ _ l0_1 _ _ l0_2 a0_3 a0_4 t143 _ ?side1 ?side2 ?side3 ?side4 A4.out).mono ?_); (case side1 => exact cb_ HR0_1); (case side2 => exact HC0_1.out); (case side3 => exact cb_ HR0_2); (case side4 => exact HC0_2.out); rintro e w97 ⟨rfl, hb⟩; refine ⟨_, rfl, ?_⟩; replace BK141 := kb_ BK141 hb; replace BK142 := kb_ BK142 hb; replace HB := hb_ hb; (try clear hb); (try clear hb2); (try clear hk); (try clear hi); obtain ⟨hcz98_0, hcz98_1, hcz98_2, hcz98_3, hcz98_4⟩ := cl5_ BK141; obtain ⟨hfz98_0, hfz98_1, hfz98_2, hfz98_3, hfz98_4⟩ := fz5_ BK141) | ((with_reducible refine gate_callee (f := 12) rfl ?_); refine gl_ (some 13) Tryd.func12 #[.agg #[.int .u32 a0_0, .slice A0_1 l0_1.length c0_1, .slice A0_2 l0_2.length c0_2, .bool a0_3, .int .i64 a0_4]] ?_; (with_reducible refine (cambiumref03_Copy.calls a0_0 _ _ l0_1 _ _ l0_2 a0_3 a0_4 t144 t145 t148 false t152 _ ?side1 ?side2 ?side3 ?side4 A6.out).mono ?_); (case side1 => exact cb_ HR0_1); (case side2 => exact HC0_1.out); (case side3 => exact cb_ HR0_2); (case side4 => exact HC0_2.out); rintro e w99 ⟨v146, v149, rfl, ho0, ho1, hb⟩; refine ⟨_, rfl, ?_⟩; have HO147 := rl_ ho0; have HO150 := rl_ ho1; replace BK141 := kb_ BK141 hb; replace BK142 := kb_ BK142 hb; replace HB := hb_ hb; (try clear hb); (try clear hb2); (try clear hk); (try clear hi); (try clear ho0); (try clear ho1); obtain ⟨hcz100_0, hcz100_1, hcz100_2, hcz100_3, hcz100_4⟩ := cl5_ BK141; obtain ⟨hfz100_0, hfz100_1, hfz100_2, hfz100_3, hfz100_4⟩ := fz5_ BK141; obtain ⟨Ao101, co101, eo101⟩ := Kd.R_slice HO147.out; subst eo101; obtain ⟨Ao102, co102, eo102⟩ := Kd.R_slice HO150.out; subst eo102))
      have n0_ : Aside0 (Kd.R k39 39 (((((w99.setCell ⟨gb141, 0, none⟩ (.int .u32 t144)).setCell ⟨gb141, 1, none⟩ (.slice Ao101 t145.length co101)).setCell ⟨gb141, 2, none⟩ (.slice Ao102 t148.length co102)).setCell ⟨gb141, 3, none⟩ (.bool false)).setCell ⟨gb141, 4, none⟩ (.int .i64 t152)) w.heap.size (fun k_ => some k_ ≠ (.slice Ao102 t148.length co102 : Value).ownBlock) (.slice Ao101 t145.length co101) t145) := ⟨rw_ HO147⟩
      have n1_ : Aside0 (Kd.R k39 39 (((((w99.setCell ⟨gb141, 0, none⟩ (.int .u32 t144)).setCell ⟨gb141, 1, none⟩ (.slice Ao101 t145.length co101)).setCell ⟨gb141, 2, none⟩ (.slice Ao102 t148.length co102)).setCell ⟨gb141, 3, none⟩ (.bool false)).setCell ⟨gb141, 4, none⟩ (.int .i64 t152)) w.heap.size (fun k_ => some k_ ≠ (.slice Ao101 t145.length co101 : Value).ownBlock) (.slice Ao102 t148.length co102) t148) := ⟨rw_ HO150⟩
      have n2_ : Aside0 ((((((w99.setCell ⟨gb141, 0, none⟩ (.int .u32 t144)).setCell ⟨gb141, 1, none⟩ (.slice Ao101 t145.length co101)).setCell ⟨gb141, 2, none⟩ (.slice Ao102 t148.length co102)).setCell ⟨gb141, 3, none⟩ (.bool false)).setCell ⟨gb141, 4, none⟩ (.int .i64 t152)).heap[gb141]? = some (.cells #[.int .u32 t144, .slice Ao101 t145.length co101, .slice Ao102 t148.length co102, .bool false, .int .i64 t152] 25 (0, 0))) := ⟨bs_⟩
      have n3_ : Aside0 ((((((w99.setCell ⟨gb141, 0, none⟩ (.int .u32 t144)).setCell ⟨gb141, 1, none⟩ (.slice Ao101 t145.length co101)).setCell ⟨gb141, 2, none⟩ (.slice Ao102 t148.length co102)).setCell ⟨gb141, 3, none⟩ (.bool false)).setCell ⟨gb141, 4, none⟩ (.int .i64 t152)).heap[gb142]? = some (.cells #[.int .u32 0, .slice none 0 0, .slice none 0 0, .bool false, .int .i64 0] 25 (0, 0))) := ⟨bs_⟩
      have n4_ : Aside0 (Below w.heap.size w (((((w99.setCell ⟨gb141, 0, none⟩ (.int .u32 t144)).setCell ⟨gb141, 1, none⟩ (.slice Ao101 t145.length co101)).setCell ⟨gb141, 2, none⟩ (.slice Ao102 t148.length co102)).setCell ⟨gb141, 3, none⟩ (.bool false)).setCell ⟨gb141, 4, none⟩ (.int .i64 t152))) := ⟨bel_⟩
      (try clear HO147)
      (try clear HO150)
      (try clear BK141)
      (try clear BK142)
      (try clear HB)
      generalize (((((w99.setCell ⟨gb141, 0, none⟩ (.int .u32 t144)).setCell ⟨gb141, 1, none⟩ (.slice Ao101 t145.length co101)).setCell ⟨gb141, 2, none⟩ (.slice Ao102 t148.length co102)).setCell ⟨gb141, 3, none⟩ (.bool false)).setCell ⟨gb141, 4, none⟩ (.int .i64 t152)) = w103 at n0_ n1_ n2_ n3_ n4_ ⊢
      have HO147 := n0_
      have HO150 := n1_
      have BK141 := n2_
      have BK142 := n3_
      have HB := n4_
      clear n0_ n1_ n2_ n3_ n4_
      replace HO147 := Aside0.mk (Kd.R_drew HO147.out)
      replace HO150 := Aside0.mk (Kd.R_drew HO150.out)
      replace BK141 := Aside0.mk (blk_drew BK141.out)
      replace BK142 := Aside0.mk (blk_drew BK142.out)
      replace HB := Aside0.mk (below_drew1 HB.out)
      refine start_ (n := 10) (S := fun w' => w'.cell? ⟨gb141, 0, none⟩ = some (.int .u32 t144) ∧ w'.cell? ⟨gb141, 1, none⟩ = some (.slice Ao101 t145.length co101) ∧ w'.cell? ⟨gb141, 2, none⟩ = some (.slice Ao102 t148.length co102) ∧ w'.cell? ⟨gb141, 3, none⟩ = some (.bool false) ∧ w'.cell? ⟨gb141, 4, none⟩ = some (.int .i64 t152)) (ds := [9]) #[false, false, false, false, false, false, false, false, false, false] (by kernel_rfl) rfl rfl hc_ (fun hHeld => ?_); refine with_tabW cambiumref03_Write.tab12 cambiumref03_Write.bits12 (fun HT_ HW_ => ?_)
      generalize w103.drew = w104 at HO147 HO150 BK141 BK142 HB hHeld ⊢
      refine pu_ 0 35 ?_
      refine pu_ 2 37 ?_
      refine pu_ 3 38 ?_
      refine tk5_ 1 36 ?_
      refine on_ 4 39 (fun K hK => ?_)
      refine goes_ Tryd.func24 (by kernel_rfl) rfl #[.string a2] (by rfl) rfl rfl (by (try simp only [List.map_toArray, List.map_cons, List.map_nil]); first | done | rfl | (simp only [List.length_drop, List.length_take]; rfl)) ?_
      with_reducible refine (cambiumref03_Cut.calls k a2 t153 _ A55.out).mono ?_
      rintro e w' ⟨rfl, ⟨nd, rfl⟩⟩
      refine ⟨_, rfl, ?_⟩
      refine hK.out _ _ hc_ (fun hHeld => ?_)
      clear hK K
      refine nm_ 39 ?_
      refine pu_ 5 40 ?_
      refine on_ 6 41 (fun K hK => ?_)
      refine value_ (w1 := ?_) (v := ?_) (by rfl) rfl ?_ ?_
      rotate_left 2
      · go_simp
        constructor
        · rfl
        rfl
      refine hK.out _ _ ⟨(blk_cell (blk_alloc BK141.out _) 0).trans rfl, (blk_cell (blk_alloc BK141.out _) 1).trans rfl, (blk_cell (blk_alloc BK141.out _) 2).trans rfl, (blk_cell (blk_alloc BK141.out _) 3).trans rfl, (blk_cell (blk_alloc BK141.out _) 4).trans rfl⟩ (fun hHeld => ?_)
      clear hK K
      refine nm_ 41 ?_
      refine on_ 7 42 (fun K hK => ?_)
      refine Kd.R_append_step k39 (w0 := w) w.heap.size (by rfl) (.tmp 36) (.tmp 41) 23 39 (.agg #[(.int .u32 0), (.string ⟨#[]⟩)]) 24 rfl Tryd.underlying23 info39 rfl (by decide) (by omega) (.slice Ao102 t148.length co102) t148 (⟨a1, t153⟩ : S39) [.int .u32 a1, .string t153] (fun k_ => some k_ ≠ (.slice Ao101 t145.length co101 : Value).ownBlock) (fun _ => False) rfl rfl ?aP (fun _ hk => hk.elim) ?aF ?aO ?aB ?aS ?aL ?_
      (case aP => exact k39_mkM _ _ _ (⟨a1, t153⟩ : S39))
      (case aB => exact bel_)
      (case aF => exact (fun k_ hk => Kd.fresh' (Kd.R_lt (ra_ HO147)) k_ hk))
      (case aO => exact (ra_ HO150))
      (case aS => exact (below_size bel_))
      (case aL => have := LMc56.out; omega)
      intro v155 w105 ho hb hg hat
      rw [← Ny154.out] at ho
      have HO156 := Aside0.mk (ho)
      replace BK141 := Aside0.mk (blk_grown (bk_ BK141) hg (Kd.R_ne HO150.out BK141.out (by decide)))
      replace BK142 := Aside0.mk (blk_grown (bk_ BK142) hg (Kd.R_ne HO150.out BK142.out (by decide)))
      replace HO147 := Aside0.mk (Kd.R_after (ok := (fun _ => True)) (by (with_reducible repeat (first | apply Kd.R_alloc | apply Kd.R_drewN | apply Kd.R_drew)); exact Kd.R_mono HO147.out (fun _ hk => ⟨trivial, hk⟩)) hg hat)
      replace HB := Aside0.mk (hb)
      clear HO150
      clear ho hb hg hat
      obtain ⟨Ao106, co106, eo106⟩ := Kd.R_slice HO156.out
      (first | subst eo106 | (injection eo106 with f1_ f2_ f3_; have f4_ := f1_.symm; have f5_ := f3_.symm; clear f1_ f2_ f3_; subst f4_; subst f5_))
      refine hK.out _ _ hc_ (fun hHeld => ?_)
      clear hK K
      refine nm_ 42 ?_
      refine pu_ 8 43 ?_
      refine last_ (i := 9) (N := none) #[true, true, true, true, true, true, true, true, true, true] rfl rfl (one_of HT_.out (by kernel_rfl)) (by decide) (fun K hK => ?_)
      have hs107 : w105.cell? ⟨gb141, 2, none⟩ = some (.slice Ao102 t148.length co102) := (blk_cell BK141.out 2).trans rfl
      have hfs107 := blk_frozen BK141.out 2
      have hns107_1 := NB142_141.out
      have hms107_1 := NB141_142.out
      refine skip_ (w1 := ?_) (by rfl) rfl ?_ ?_
      rotate_left
      · go_simp
        rfl
      refine hK.out _ _ ?_
      clear hK K
      refine done_ (done_of HT_.out (by kernel_rfl)) ?_
      obtain ⟨hcz108_0, hcz108_1, hcz108_2, hcz108_3, hcz108_4⟩ := cl5_ BK141
      obtain ⟨hfz108_0, hfz108_1, hfz108_2, hfz108_3, hfz108_4⟩ := fz5_ BK141
      obtain ⟨hcz109_0, hcz109_1, hcz109_2, hcz109_3, hcz109_4⟩ := cl5_ BK142
      obtain ⟨hfz109_0, hfz109_1, hfz109_2, hfz109_3, hfz109_4⟩ := fz5_ BK142
      try go_wp2
      refine bodyPost_ret (results_ct rfl _ _ gb142 25 #[.int .u32 t144, .slice Ao101 t145.length co101, .slice Ao106 y154.length co106, .bool false, .int .i64 t152] (0, 0) _ rfl (bs_) Tryd.underlying25 rfl (by kernel_rfl)) rfl ?_
      exact ⟨_, _, by first | rfl | (simp [errW_none, errW_some] <;> rfl) | (simp [*, errW_none, errW_some] <;> rfl), by (with_reducible repeat (first | apply Kd.R_alloc | apply Kd.R_drewN | apply Kd.R_drew)); exact Kd.R_mono (Kd.R_far (p := ⟨gb142, 4, none⟩) (Kd.R_far (p := ⟨gb142, 3, none⟩) (Kd.R_far (p := ⟨gb142, 2, none⟩) (Kd.R_far (p := ⟨gb142, 1, none⟩) (Kd.R_far (p := ⟨gb142, 0, none⟩) (Kd.R_far (p := ⟨gb141, 2, none⟩) (Kd.R_types (Kd.R_types HO147.out BK141.out (by decide)) BK142.out (by decide)) (fun _ hk => hk.1.2) (.slice Ao106 y154.length co106)) (fun _ hk => hk.2) (.int .u32 t144)) (fun _ hk => hk.2) (.slice Ao101 t145.length co101)) (fun _ hk => hk.2) (.slice Ao106 y154.length co106)) (fun _ hk => hk.2) (.bool false)) (fun _ hk => hk.2) (.int .i64 t152)) (fun _ hk => hk.1.1.2), rw_ HO156, bel_⟩
    rw [if_neg c56] at H
    exact absurd H (by simp)
  rw [if_neg c5] at H
  have c5b0 : (t143 == 0) = false := beq_eq_false_iff_ne.mpr c5
  have c5b1 : (t143 != 0) = true := bne_iff_ne.mpr c5
  simp only [Option.some.injEq, Prod.mk.injEq] at H
  obtain ⟨rfl, rfl, rfl, rfl, rfl, rfl⟩ := H
  go_enter Tryd.func14, Tryd.ntmps14
  go_wp2_with (first | ((with_reducible refine gate_dst (N := 3) rfl ?_); refine bx_ (N := 3) (cs := #[.int .u32 a0_0, .slice A0_1 l0_1.length c0_1, .slice A0_2 l0_2.length c0_2, .bool a0_3, .int .i64 a0_4]) (t := 25) ?_; intro gb141 hg w110 hbox hb; have BK141 := Aside0.mk (hbox); have GW141 := ge_ hg; have GE141 := ge_ hg; replace HB := hb_ hb; clear hb hbox hg) | ((with_reducible refine gate_dst (N := 6) rfl ?_); refine bx_ (N := 6) (cs := #[.int .u32 0, .slice none 0 0, .slice none 0 0, .bool false, .int .i64 0]) (t := 25) ?_; intro gb142 hg w111 hbox hb; have BK142 := Aside0.mk (hbox); have GW142 := ge_ hg; have GE142 := ge_ hg; have NB141_142 := nl_ BK141 hg; have NB142_141 := ng_ BK141 hg; replace BK141 := kb_ BK141 hb; replace HB := hb_ hb; clear hb hbox hg; have hnb112 := NB141_142.out; have hnc112 := NB142_141.out; obtain ⟨hcz113_0, hcz113_1, hcz113_2, hcz113_3, hcz113_4⟩ := cl5_ BK141; obtain ⟨hfz113_0, hfz113_1, hfz113_2, hfz113_3, hfz113_4⟩ := fz5_ BK141) | ((with_reducible refine gate_callee (f := 22) rfl ?_); refine gl_ (some 9) Tryd.func22 #[.agg #[.int .u32 a0_0, .slice A0_1 l0_1.length c0_1, .slice A0_2 l0_2.length c0_2, .bool a0_3, .int .i64 a0_4]] ?_; (with_reducible refine (cambiumref03_Check.calls k a0_0 _ _ l0_1 _ _ l0_2 a0_3 a0_4 t143 _ ?side1 ?side2 ?side3 ?side4 A4.out).mono ?_); (case side1 => exact cb_ HR0_1); (case side2 => exact HC0_1.out); (case side3 => exact cb_ HR0_2); (case side4 => exact HC0_2.out); rintro e w114 ⟨rfl, hb⟩; refine ⟨_, rfl, ?_⟩; replace BK141 := kb_ BK141 hb; replace BK142 := kb_ BK142 hb; replace HB := hb_ hb; (try clear hb); (try clear hb2); (try clear hk); (try clear hi); obtain ⟨hcz115_0, hcz115_1, hcz115_2, hcz115_3, hcz115_4⟩ := cl5_ BK142; obtain ⟨hfz115_0, hfz115_1, hfz115_2, hfz115_3, hfz115_4⟩ := fz5_ BK142))
  refine bodyPost_ret (results_ct rfl _ _ gb142 25 #[.int .u32 0, .slice none 0 0, .slice none 0 0, .bool false, .int .i64 0] (0, 0) _ rfl (bs_) Tryd.underlying25 rfl (by kernel_rfl)) rfl ?_
  exact ⟨_, _, by first | rfl | (simp [errW_none, errW_some] <;> rfl) | (simp [*, errW_none, errW_some] <;> rfl), by first | exact Kd.R_nil _ _ _ _ _ | exact Kd.N_nil _ _ _ _ _ | exact Kd.V_nil _ _ _ _ _ | exact Kd.Q_nil _ _ _ _ _ | exact Kd.S_nil _ _ _ _ _, by first | exact Kd.R_nil _ _ _ _ _ | exact Kd.N_nil _ _ _ _ _ | exact Kd.V_nil _ _ _ _ _ | exact Kd.Q_nil _ _ _ _ _ | exact Kd.S_nil _ _ _ _ _, bel_⟩

end Go.Proofs.YtcphflfjhkeooaaDoor.Z
end

section
-- Printed by a program of this session (mp.py) out of the translation.
namespace Go.Proofs.YtcphflfjhkeooaaDoor.Z
open Go.RowKit Go.Proofs.YtcphflfjhkeooaaDoorW.PrintWords Go.Proofs.YtcphflfjhkeooaaDoorW.PrintLast Go.Proofs.YtcphflfjhkeooaaDoorW.PrintMore
attribute [local go_sem] max2_int min2_int max_two min_two max_three min_three max_four min_four   -- for this text's walks alone
set_option linter.unusedVariables false
set_option linter.unusedSimpArgs false

/-! ### cambiumref03_put: function 32 -/
mutual
def cambiumref03_put.l0 : Nat → List (S39) → Bool → List (S39) → Int → Int → Int → ByteArray → Option ((List (S39)))
  | 0, _, _, _, _, _, _, _ => none
  | k + 1, x5, x6, x12, x13, x14, x166000, x166001 => if x14 < x13 then (if 0 ≤ x14 then (if x14 < (x12.length : Int) then (if x6 = true then (cambiumref03_put.j1 k x5 x6 x12 x13 x14 false x166000 x166001 ((rd_T39 x12 x14).f0) ((rd_T39 x12 x14).f1)) else (cambiumref03_put.j1 k x5 x6 x12 x13 x14 (decide (((rd_T39 x12 x14).f0) ≥ x166000)) x166000 x166001 ((rd_T39 x12 x14).f0) ((rd_T39 x12 x14).f1))) else (none)) else (none)) else (if x6 = true then (some x5) else (if x5.length < 5864062014805 then (some (x5 ++ [(⟨x166000, x166001⟩ : S39)])) else (none)))
def cambiumref03_put.j1 : Nat → List (S39) → Bool → List (S39) → Int → Int → Bool → Int → ByteArray → Int → ByteArray → Option ((List (S39)))
  | 0, _, _, _, _, _, _, _, _, _, _ => none
  | k + 1, x5, x6, x12, x13, x14, x26, x166000, x166001, x171000, x171001 => if x26 = true then (if x5.length < 5864062014805 then ((some (x5 ++ [(⟨x166000, x166001⟩ : S39)] : List (S39))).bind fun y171 => (if x171000 = x166000 then (cambiumref03_put.l0 k y171 true x12 x13 (wrap64 (x14 + 1)) x166000 x166001) else (if y171.length < 5864062014805 then (cambiumref03_put.l0 k (y171 ++ [(⟨x171000, x171001⟩ : S39)]) true x12 x13 (wrap64 (x14 + 1)) x166000 x166001) else (none)))) else (none)) else (if x171000 = x166000 then (cambiumref03_put.l0 k x5 x6 x12 x13 (wrap64 (x14 + 1)) x166000 x166001) else (if x5.length < 5864062014805 then (cambiumref03_put.l0 k (x5 ++ [(⟨x171000, x171001⟩ : S39)]) x6 x12 x13 (wrap64 (x14 + 1)) x166000 x166001) else (none)))
end
def cambiumref03_put.f (k : Nat) (l0 : List (S39)) (a1_0 : Int) (a1_1 : ByteArray) : Option ((List (S39))) := cambiumref03_put.l0 k ([] : List (S39)) (a1_1.toList == ([] : List UInt8)) l0 (l0.length : Int) 0 a1_0 a1_1
theorem cambiumref03_put.mono_l : ∀ k, (∀ y0 y1 y2 y3 y4 y5 y6, LeO (cambiumref03_put.l0 k y0 y1 y2 y3 y4 y5 y6) (cambiumref03_put.l0 (k + 1) y0 y1 y2 y3 y4 y5 y6)) ∧ (∀ y0 y1 y2 y3 y4 y5 y6 y7 y8 y9, LeO (cambiumref03_put.j1 k y0 y1 y2 y3 y4 y5 y6 y7 y8 y9) (cambiumref03_put.j1 (k + 1) y0 y1 y2 y3 y4 y5 y6 y7 y8 y9))
  | 0 => ⟨fun _ _ _ _ _ _ _ r h => by simp [cambiumref03_put.l0] at h, fun _ _ _ _ _ _ _ _ _ _ r h => by simp [cambiumref03_put.j1] at h⟩
  | k + 1 => by
    obtain ⟨ih0, ih1⟩ := cambiumref03_put.mono_l k
    refine ⟨?_, ?_⟩
    · intro y0 y1 y2 y3 y4 y5 y6
      unfold cambiumref03_put.l0
      repeat' first
      | (with_reducible exact ih0 _ _ _ _ _ _ _)
      | (with_reducible exact ih1 _ _ _ _ _ _ _ _ _ _)
      | (with_reducible exact LeO.refl _)
      | (with_reducible exact LeO.none _)
      | (with_reducible refine LeO.ite ?_ ?_)
      | (with_reducible refine LeO.bind ?_ (fun _ => ?_))
      | exact ih0 _ _ _ _ _ _ _
      | exact ih1 _ _ _ _ _ _ _ _ _ _
      | exact LeO.none _
      | refine LeO.ite ?_ ?_
      | refine LeO.bind ?_ (fun _ => ?_)
    intro y0 y1 y2 y3 y4 y5 y6 y7 y8 y9
    unfold cambiumref03_put.j1
    repeat' first
    | (with_reducible exact ih0 _ _ _ _ _ _ _)
    | (with_reducible exact ih1 _ _ _ _ _ _ _ _ _ _)
    | (with_reducible exact LeO.refl _)
    | (with_reducible exact LeO.none _)
    | (with_reducible refine LeO.ite ?_ ?_)
    | (with_reducible refine LeO.bind ?_ (fun _ => ?_))
    | exact ih0 _ _ _ _ _ _ _
    | exact ih1 _ _ _ _ _ _ _ _ _ _
    | exact LeO.none _
    | refine LeO.ite ?_ ?_
    | refine LeO.bind ?_ (fun _ => ?_)
theorem cambiumref03_put.mono : ∀ a0 a1 a2 k, LeO (cambiumref03_put.f k a0 a1 a2) (cambiumref03_put.f (k + 1) a0 a1 a2) := by
  intro a0 a1 a2 k
  obtain ⟨ih0, ih1⟩ := cambiumref03_put.mono_l k
  unfold cambiumref03_put.f
  repeat' first
      | (with_reducible exact ih0 _ _ _ _ _ _ _)
      | (with_reducible exact ih1 _ _ _ _ _ _ _ _ _ _)
      | (with_reducible exact LeO.refl _)
      | (with_reducible exact LeO.none _)
      | (with_reducible refine LeO.ite ?_ ?_)
      | (with_reducible refine LeO.bind ?_ (fun _ => ?_))
      | exact ih0 _ _ _ _ _ _ _
      | exact ih1 _ _ _ _ _ _ _ _ _ _
      | exact LeO.none _
      | refine LeO.ite ?_ ?_
      | refine LeO.bind ?_ (fun _ => ?_)
set_option maxHeartbeats 8000000 in
set_option maxRecDepth 100000 in
theorem cambiumref03_put.calls (k : Nat) (A0 : Option Addr) (c0 : Nat) (l0 : List (S39)) (a1_0 : Int) (a1_1 : ByteArray) (r : List (S39)) (w : World) (hr0 : Kd.C k39 w A0 l0.length l0) (hc0 : l0.length ≤ c0) (h : cambiumref03_put.f k l0 a1_0 a1_1 = some r) :
    Calls Tryd.prog 32 #[.slice A0 l0.length c0, .agg #[.int .u32 a1_0, .string a1_1]] w fun e w' => ∃ v0_ : Value, e = .returned (v0_) ∧ Kd.R k39 39 w' w.heap.size (fun _ => True) v0_ r ∧ Below w.heap.size w w' := by
  have hu39 := Tryd.underlying39
  have HR0 := Aside0.mk hr0
  have HC0 := Aside0.mk hc0
  clear hr0 hc0
  have HB := Aside0.mk (Below.refl w.heap.size w)
  have H : (cambiumref03_put.l0 k ([] : List (S39)) (a1_1.toList == ([] : List UInt8)) l0 (l0.length : Int) 0 a1_0 a1_1) = some r := h
  clear h
  have H' := Aside0.mk H
  clear H
  go_enter Tryd.func32, Tryd.ntmps32
  go_wp2_with (first | ((with_reducible refine gate_dst (N := 3) rfl ?_); refine bx_ (N := 3) (cs := #[.int .u32 a1_0, .string a1_1]) (t := 39) ?_; intro gb165 hg w3 hbox hb; have BK165 := Aside0.mk (hbox); have GW165 := ge_ hg; have GE165 := ge_ hg; replace HB := hb_ hb; clear hb hbox hg; obtain ⟨hcz4_0, hcz4_1⟩ := cl2_ BK165; obtain ⟨hfz4_0, hfz4_1⟩ := fz2_ BK165))
  go_loopg [5, 6, 14] k (fun kq v5 v6 v14 w' => ∃ (x5_1 : List (S39)) (x6_1 : Bool) (x14_1 : Int), v6 = .bool x6_1 ∧ v14 = .int .i64 x14_1 ∧ Aside0 (cambiumref03_put.l0 kq x5_1 x6_1 l0 (l0.length : Int) x14_1 a1_0 a1_1 = some r) ∧ Aside0 (kq ≤ k) ∧ Aside0 (Kd.R k39 39 w' w.heap.size (fun k_ => k_ ≠ gb165) v5 x5_1) ∧ Aside0 (w'.heap[gb165]? = some (.cells #[.int .u32 a1_0, .string a1_1] 39 (0, 0))) ∧ Aside0 (Below w.heap.size w w'))
  case atStart => exact ⟨(([] : List (S39))), ((a1_1.toList == ([] : List UInt8))), (0), (by first | rfl | (simp; done) | (simp [*]; done)), (by first | rfl | (simp; done) | (simp [*]; done)), H', ⟨Nat.le_refl _⟩, ⟨by first | exact Kd.R_nil _ _ _ _ _ | exact Kd.N_nil _ _ _ _ _ | exact Kd.V_nil _ _ _ _ _ | exact Kd.Q_nil _ _ _ _ _ | exact Kd.S_nil _ _ _ _ _⟩, ⟨bk_ BK165⟩, ⟨bel_⟩⟩
  case round =>
    clear H'
    try clear p2
    try clear c3
    try clear hcz4_0
    try clear hcz4_1
    try clear hfz4_0
    try clear hfz4_1
    obtain ⟨x5_1, x6_1, x14_1, rfl, rfl, HA, HK1, HO_5, BK165, HB⟩ := hrel
    cases gk with
    | zero => exact absurd HA.out (by simp [cambiumref03_put.l0])
    | succ k1 =>
      have H := HA.out
      clear HA
      simp only [cambiumref03_put.l0] at H
      by_cases c5 : x14_1 < (l0.length : Int)
      · rw [if_pos c5] at H
        have c5b0 : decide (x14_1 < (l0.length : Int)) = true := decide_eq_true c5
        clear c5
        by_cases c6 : 0 ≤ x14_1
        · rw [if_pos c6] at H
          have c6b0 : decide (0 ≤ x14_1) = true := decide_eq_true c6
          clear c6
          by_cases c7 : x14_1 < (l0.length : Int)
          · rw [if_pos c7] at H
            have c7b0 : decide (x14_1 < (l0.length : Int)) = true := decide_eq_true c7
            clear c7
            have HC8 := Aside0.mk H
            clear H
            have p169 : 0 ≤ (x14_1 : Int) := of_decide_eq_true (by first | (with_reducible assumption) | assumption)
            have q169 : x14_1 < (l0.length : Int) := of_decide_eq_true (by first | (with_reducible assumption) | assumption)
            obtain ⟨ad169, e169, hx169_0, hx169_1⟩ := at_T39 HR0.out x14_1 p169 q169
            cases e169
            replace hx169_0 := (HB.out.cell (World.block_lt_of_cell? w _ hx169_0)).trans hx169_0
            replace hx169_1 := (HB.out.cell (World.block_lt_of_cell? w _ hx169_1)).trans hx169_1
            replace p169 := eq_true p169
            replace q169 := eq_true q169
            go_upto_region 6 with (first | ((with_reducible refine gate_dst (N := 8) rfl ?_); refine bx_ (N := 8) (cs := #[.int .u32 0, .string (⟨#[]⟩ : ByteArray)]) (t := 39) ?_; intro gb170 hg w9 hbox hb; have n0_ := Aside0.mk (Kd.R_below (Kd.R_elderB (ra_ HO_5) gb170 (Nat.le_of_eq hg.symm)) hb); have n1_ := Aside0.mk (blk_below (bk_ BK165) hb); have n2_ := Aside0.mk (below_step bel_ hb); have n3_ := Aside0.mk (hbox); have n4_ := Aside0.mk ((by rw [hg]; exact (below_size bel_) : w.heap.size ≤ gb170)); have n5_ := Aside0.mk ((by rw [hg]; exact (below_size bel_) : w.heap.size ≤ gb170)); have n6_ := Aside0.mk ((by rw [hg]; exact Nat.ne_of_lt (blk_lt (bk_ BK165)) : gb165 ≠ gb170)); have n7_ := Aside0.mk ((by rw [hg]; exact Nat.ne_of_gt (blk_lt (bk_ BK165)) : gb170 ≠ gb165)); clear HO_5; clear BK165; clear HB; have HO_5 := n0_; have BK165 := n1_; have HB := n2_; have BK170 := n3_; have GW170 := n4_; have GE170 := n5_; have NB165_170 := n6_; have NB170_165 := n7_; clear n0_ n1_ n2_ n3_ n4_ n5_ n6_ n7_; clear hb hbox hg; have hnb10 := NB170_165.out; have hnc10 := NB165_170.out; have hcz11_0 : w9.cell? ⟨gb170, 0, none⟩ = some (.int .u32 0) := (blk_cell BK170.out 0).trans rfl; have hcz11_1 : w9.cell? ⟨gb170, 1, none⟩ = some (.string (⟨#[]⟩ : ByteArray)) := (blk_cell BK170.out 1).trans rfl; have hfz11_0 := blk_frozen BK170.out 0; have hfz11_1 := blk_frozen BK170.out 1))
            (try simp only [Act.put, List.setIfInBounds_toArray, List.set_cons_zero, List.set_cons_succ])
            go_cut [26] (fun v26 wc => ∃ (kq : Nat) (x26_7 : Bool), v26 = .bool x26_7 ∧ Aside0 (cambiumref03_put.j1 kq x5_1 x6_1 l0 (l0.length : Int) x14_1 x26_7 a1_0 a1_1 ((rd_T39 l0 x14_1).f0) ((rd_T39 l0 x14_1).f1) = some r) ∧ Aside0 (kq ≤ k1) ∧ Aside0 (Kd.R k39 39 wc w.heap.size (fun k_ => k_ ≠ gb165 ∧ k_ ≠ gb170) u5 x5_1) ∧ Aside0 (wc.heap[gb165]? = some (.cells #[.int .u32 a1_0, .string a1_1] 39 (0, 0))) ∧ Aside0 (wc.heap[gb170]? = some (.cells #[.int .u32 ((rd_T39 l0 x14_1).f0), .string ((rd_T39 l0 x14_1).f1)] 39 (0, 0))) ∧ Aside0 (Below w.heap.size w wc))
            case first =>
              have H := HC8.out
              clear HC8
              by_cases c12 : x6_1 = true
              · subst c12
                have H1 : (cambiumref03_put.j1 k1 x5_1 true l0 (l0.length : Int) x14_1 false a1_0 a1_1 ((rd_T39 l0 x14_1).f0) ((rd_T39 l0 x14_1).f1)) = some r := by rw [if_pos rfl] at H; exact H
                clear H
                have H := H1
                clear H1
                have H' := Aside0.mk H
                clear H
                go_wp2
                go_meet
                case rel => exact ⟨_, (false), (by first | rfl | (simp; done) | (simp [*]; done)), H', ⟨by have := HK1.out; first | omega | exact Nat.le_refl _⟩, ⟨by (with_reducible repeat (first | apply Kd.R_alloc | apply Kd.R_drewN | apply Kd.R_drew)); exact Kd.R_mono (Kd.R_far (p := ⟨gb170, 1, none⟩) (Kd.R_far (p := ⟨gb170, 0, none⟩) (Kd.R_mono HO_5.out (fun k_ hk => (⟨hk, hk.2⟩ : _ ∧ k_ ≠ gb170))) (fun _ hk => hk.2) (.int .u32 ((rd_T39 l0 x14_1).f0))) (fun _ hk => hk.2) (.string ((rd_T39 l0 x14_1).f1))) (fun _ hk => ⟨hk.1.1, hk.1.2⟩)⟩, ⟨bs_⟩, ⟨bs_⟩, ⟨bel_⟩⟩
              replace c12 := Bool.eq_false_iff.mpr c12
              subst c12
              have H1 : (cambiumref03_put.j1 k1 x5_1 false l0 (l0.length : Int) x14_1 (decide (((rd_T39 l0 x14_1).f0) ≥ a1_0)) a1_0 a1_1 ((rd_T39 l0 x14_1).f0) ((rd_T39 l0 x14_1).f1)) = some r := by rw [if_neg (show ¬ (false = true) by decide)] at H; exact H
              clear H
              have H := H1
              clear H1
              have H' := Aside0.mk H
              clear H
              have hnb13 := NB170_165.out
              have hnc13 := NB165_170.out
              obtain ⟨hcz14_0, hcz14_1⟩ := cl2_ BK170
              obtain ⟨hfz14_0, hfz14_1⟩ := fz2_ BK170
              obtain ⟨hcz15_0, hcz15_1⟩ := cl2_ BK165
              obtain ⟨hfz15_0, hfz15_1⟩ := fz2_ BK165
              go_wp2
              go_meet
              case rel => exact ⟨_, (decide (((rd_T39 l0 x14_1).f0) ≥ a1_0)), (by first | rfl | (simp; done) | (simp [*]; done)), H', ⟨by have := HK1.out; first | omega | exact Nat.le_refl _⟩, ⟨by (with_reducible repeat (first | apply Kd.R_alloc | apply Kd.R_drewN | apply Kd.R_drew)); exact Kd.R_mono (Kd.R_far (p := ⟨gb170, 1, none⟩) (Kd.R_far (p := ⟨gb170, 0, none⟩) (Kd.R_mono HO_5.out (fun k_ hk => (⟨hk, hk.2⟩ : _ ∧ k_ ≠ gb170))) (fun _ hk => hk.2) (.int .u32 ((rd_T39 l0 x14_1).f0))) (fun _ hk => hk.2) (.string ((rd_T39 l0 x14_1).f1))) (fun _ hk => ⟨hk.1.1, hk.1.2⟩)⟩, ⟨bs_⟩, ⟨bs_⟩, ⟨bel_⟩⟩
            case rest =>
              clear HC8
              try clear c1
              try clear p1
              try clear q1
              try clear hx1
              try clear p2
              try clear c3
              try clear c5
              try clear c5b0
              try clear c6
              try clear c6b0
              try clear c7
              try clear c7b0
              try clear c10
              try clear c12
              try clear c13
              try clear hcz11_0
              try clear hcz11_1
              try clear hcz14_0
              try clear hcz14_1
              try clear hcz15_0
              try clear hcz15_1
              try clear hcz4_0
              try clear hcz4_1
              try clear hfz11_0
              try clear hfz11_1
              try clear hfz14_0
              try clear hfz14_1
              try clear hfz15_0
              try clear hfz15_1
              try clear hfz4_0
              try clear hfz4_1
              try clear hx169_0
              try clear hx169_1
              try clear p169
              try clear p2
              try clear q169
              obtain ⟨kq, x26_7, rfl, HA, HJ7, HO_5, BK165, BK170, HB⟩ := hcut
              cases kq with
              | zero => exact absurd HA.out (by simp [cambiumref03_put.j1])
              | succ kj7 =>
                have H := HA.out
                clear HA
                simp only [cambiumref03_put.j1] at H
                by_cases c16 : x26_7 = true
                · subst c16
                  have H1 : (if x5_1.length < 5864062014805 then ((some (x5_1 ++ [(⟨a1_0, a1_1⟩ : S39)] : List (S39))).bind fun y171 => (if ((rd_T39 l0 x14_1).f0) = a1_0 then (cambiumref03_put.l0 kj7 y171 true l0 (l0.length : Int) (wrap64 (x14_1 + 1)) a1_0 a1_1) else (if y171.length < 5864062014805 then (cambiumref03_put.l0 kj7 (y171 ++ [(⟨((rd_T39 l0 x14_1).f0), ((rd_T39 l0 x14_1).f1)⟩ : S39)]) true l0 (l0.length : Int) (wrap64 (x14_1 + 1)) a1_0 a1_1) else (none)))) else (none)) = some r := by rw [if_pos rfl] at H; exact H
                  clear H
                  have H := H1
                  clear H1
                  by_cases c17 : x5_1.length < 5864062014805
                  · rw [if_pos c17] at H
                    have LMc17 := Aside0.mk c17
                    clear c17
                    obtain ⟨y171, hy171⟩ : ∃ y_ : List (S39), y_ = (x5_1 ++ [(⟨a1_0, a1_1⟩ : S39)]) := ⟨_, rfl⟩
                    replace H : (if ((rd_T39 l0 x14_1).f0) = a1_0 then (cambiumref03_put.l0 kj7 y171 true l0 (l0.length : Int) (wrap64 (x14_1 + 1)) a1_0 a1_1) else (if y171.length < 5864062014805 then (cambiumref03_put.l0 kj7 (y171 ++ [(⟨((rd_T39 l0 x14_1).f0), ((rd_T39 l0 x14_1).f1)⟩ : S39)]) true l0 (l0.length : Int) (wrap64 (x14_1 + 1)) a1_0 a1_1) else (none))) = some r := by first | (rw [hy171]; with_reducible exact H) | (have H2_ := (Option.bind_some _ _).symm.trans H; rw [hy171]; with_reducible exact H2_) | (have H2_ := (Option.bind_some _ _).symm.trans H; with_reducible exact H2_) | with_reducible exact H | (rw [hy171]; exact H) | exact H
                    have Ny171 := Aside0.mk hy171
                    clear hy171
                    by_cases c18 : ((rd_T39 l0 x14_1).f0) = a1_0
                    · rw [if_pos c18] at H
                      have c18b0 : (((rd_T39 l0 x14_1).f0) == a1_0) = true := beq_iff_eq.mpr c18
                      have c18b1 : (((rd_T39 l0 x14_1).f0) != a1_0) = false := bne_eq_false_iff_eq.mpr c18
                      clear c18
                      have H' := Aside0.mk H
                      clear H
                      have hnb19 := NB165_170.out
                      have hnc19 := NB170_165.out
                      obtain ⟨hcz20_0, hcz20_1⟩ := cl2_ BK165
                      obtain ⟨hfz20_0, hfz20_1⟩ := fz2_ BK165
                      go_wp2_with (first | ((with_reducible refine gate_builtin (b := .append) (xs := #[.tmp 27, .tmp 29]) rfl ?_); at_builtin; refine Kd.R_append k39 (w0 := w) w.heap.size rfl (.tmp 27) (.tmp 29) 23 39 (.agg #[(.int .u32 0), (.string ⟨#[]⟩)]) 24 rfl Tryd.underlying23 info39 rfl (by decide) (by omega) u5 x5_1 (⟨a1_0, a1_1⟩ : S39) [.int .u32 a1_0, .string a1_1] (fun k_ => k_ ≠ gb165 ∧ k_ ≠ gb170) (fun _ => False) rfl rfl ?aP (fun _ hk => hk.elim) ?aF ?aO ?aB ?aS ?aL ?_; (case aP => exact k39_mkM _ _ _ (⟨a1_0, a1_1⟩ : S39)); (case aB => exact bel_); (case aF => exact (fun k_ hk => ⟨Kd.freshB (bk_ BK165) k_ hk, Kd.freshB (bk_ BK170) k_ hk⟩)); (case aO => exact (ra_ HO_5)); (case aS => exact (below_size bel_)); (case aL => have := LMc17.out; omega); intro v172 w21 ho hb hg hat; rw [← Ny171.out] at ho; have HO173 := Aside0.mk (ho); replace BK165 := Aside0.mk (blk_grown (bk_ BK165) hg (Kd.R_away HO_5.out (fun _ hk => hk.1))); replace BK170 := Aside0.mk (blk_grown (bk_ BK170) hg (Kd.R_away HO_5.out (fun _ hk => hk.2))); replace HB := Aside0.mk (hb); clear HO_5; clear ho hb hg hat; obtain ⟨hcz22_0, hcz22_1⟩ := cl2_ BK170; obtain ⟨hfz22_0, hfz22_1⟩ := fz2_ BK170; obtain ⟨hcz23_0, hcz23_1⟩ := cl2_ BK165; obtain ⟨hfz23_0, hfz23_1⟩ := fz2_ BK165))
                      go_roundg kj7
                      case measure => have := HK1.out; have := HJ7.out; omega
                      case rel => exact ⟨(y171), (true), (wrap64 (x14_1 + 1)), (by first | rfl | (simp; done) | (simp [*]; done)), (by first | rfl | (simp; done) | (simp [*]; done)), H', ⟨by have := HK1.out; have := HJ7.out; omega⟩, ⟨by (with_reducible repeat (first | apply Kd.R_alloc | apply Kd.R_drewN | apply Kd.R_drew)); exact Kd.R_mono HO173.out (fun _ hk => hk.1)⟩, ⟨bk_ BK165⟩, ⟨bel_⟩⟩
                    rw [if_neg c18] at H
                    have c18b0 : (((rd_T39 l0 x14_1).f0) == a1_0) = false := beq_eq_false_iff_ne.mpr c18
                    have c18b1 : (((rd_T39 l0 x14_1).f0) != a1_0) = true := bne_iff_ne.mpr c18
                    by_cases c24 : y171.length < 5864062014805
                    · rw [if_pos c24] at H
                      have LMc24 := Aside0.mk c24
                      clear c24
                      obtain ⟨y174, hy174⟩ : ∃ y_ : List (S39), y_ = (y171 ++ [(⟨((rd_T39 l0 x14_1).f0), ((rd_T39 l0 x14_1).f1)⟩ : S39)]) := ⟨_, rfl⟩
                      replace H : (cambiumref03_put.l0 kj7 y174 true l0 (l0.length : Int) (wrap64 (x14_1 + 1)) a1_0 a1_1) = some r := by first | (rw [hy174]; with_reducible exact H) | (have H2_ := (Option.bind_some _ _).symm.trans H; rw [hy174]; with_reducible exact H2_) | (have H2_ := (Option.bind_some _ _).symm.trans H; with_reducible exact H2_) | with_reducible exact H | (rw [hy174]; exact H) | exact H
                      have Ny174 := Aside0.mk hy174
                      clear hy174
                      have H' := Aside0.mk H
                      clear H
                      have hnb25 := NB165_170.out
                      have hnc25 := NB170_165.out
                      obtain ⟨hcz26_0, hcz26_1⟩ := cl2_ BK165
                      obtain ⟨hfz26_0, hfz26_1⟩ := fz2_ BK165
                      go_wp2_with (first | ((with_reducible refine gate_builtin (b := .append) (xs := #[.tmp 27, .tmp 29]) rfl ?_); at_builtin; refine Kd.R_append k39 (w0 := w) w.heap.size rfl (.tmp 27) (.tmp 29) 23 39 (.agg #[(.int .u32 0), (.string ⟨#[]⟩)]) 24 rfl Tryd.underlying23 info39 rfl (by decide) (by omega) u5 x5_1 (⟨a1_0, a1_1⟩ : S39) [.int .u32 a1_0, .string a1_1] (fun k_ => k_ ≠ gb165 ∧ k_ ≠ gb170) (fun _ => False) rfl rfl ?aP (fun _ hk => hk.elim) ?aF ?aO ?aB ?aS ?aL ?_; (case aP => exact k39_mkM _ _ _ (⟨a1_0, a1_1⟩ : S39)); (case aB => exact bel_); (case aF => exact (fun k_ hk => ⟨Kd.freshB (bk_ BK165) k_ hk, Kd.freshB (bk_ BK170) k_ hk⟩)); (case aO => exact (ra_ HO_5)); (case aS => exact (below_size bel_)); (case aL => have := LMc17.out; omega); intro v172 w27 ho hb hg hat; rw [← Ny171.out] at ho; have HO173 := Aside0.mk (ho); replace BK165 := Aside0.mk (blk_grown (bk_ BK165) hg (Kd.R_away HO_5.out (fun _ hk => hk.1))); replace BK170 := Aside0.mk (blk_grown (bk_ BK170) hg (Kd.R_away HO_5.out (fun _ hk => hk.2))); replace HB := Aside0.mk (hb); clear HO_5; clear ho hb hg hat; obtain ⟨hcz28_0, hcz28_1⟩ := cl2_ BK170; obtain ⟨hfz28_0, hfz28_1⟩ := fz2_ BK170; obtain ⟨hcz29_0, hcz29_1⟩ := cl2_ BK165; obtain ⟨hfz29_0, hfz29_1⟩ := fz2_ BK165) | ((with_reducible refine gate_builtin (b := .append) (xs := #[.tmp 36, .tmp 38]) rfl ?_); at_builtin; refine Kd.R_append k39 (w0 := w) w.heap.size rfl (.tmp 36) (.tmp 38) 23 39 (.agg #[(.int .u32 0), (.string ⟨#[]⟩)]) 24 rfl Tryd.underlying23 info39 rfl (by decide) (by omega) v172 y171 (⟨((rd_T39 l0 x14_1).f0), ((rd_T39 l0 x14_1).f1)⟩ : S39) [.int .u32 ((rd_T39 l0 x14_1).f0), .string ((rd_T39 l0 x14_1).f1)] (fun k_ => k_ ≠ gb165 ∧ k_ ≠ gb170) (fun _ => False) rfl rfl ?aP (fun _ hk => hk.elim) ?aF ?aO ?aB ?aS ?aL ?_; (case aP => exact k39_mkM _ _ _ (⟨((rd_T39 l0 x14_1).f0), ((rd_T39 l0 x14_1).f1)⟩ : S39)); (case aB => exact bel_); (case aF => exact (fun k_ hk => ⟨Kd.freshB (bk_ BK165) k_ hk, Kd.freshB (bk_ BK170) k_ hk⟩)); (case aO => exact (ra_ HO173)); (case aS => exact (below_size bel_)); (case aL => have := LMc24.out; omega); intro v175 w30 ho hb hg hat; rw [← Ny174.out] at ho; have HO176 := Aside0.mk (ho); replace BK165 := Aside0.mk (blk_grown (bk_ BK165) hg (Kd.R_away HO173.out (fun _ hk => hk.1))); replace BK170 := Aside0.mk (blk_grown (bk_ BK170) hg (Kd.R_away HO173.out (fun _ hk => hk.2))); replace HB := Aside0.mk (hb); clear HO173; clear ho hb hg hat))
                      go_roundg kj7
                      case measure => have := HK1.out; have := HJ7.out; omega
                      case rel => exact ⟨(y174), (true), (wrap64 (x14_1 + 1)), (by first | rfl | (simp; done) | (simp [*]; done)), (by first | rfl | (simp; done) | (simp [*]; done)), H', ⟨by have := HK1.out; have := HJ7.out; omega⟩, ⟨by (with_reducible repeat (first | apply Kd.R_alloc | apply Kd.R_drewN | apply Kd.R_drew)); exact Kd.R_mono HO176.out (fun _ hk => hk.1)⟩, ⟨bk_ BK165⟩, ⟨bel_⟩⟩
                    rw [if_neg c24] at H
                    exact absurd H (by simp)
                  rw [if_neg c17] at H
                  exact absurd H (by simp)
                replace c16 := Bool.eq_false_iff.mpr c16
                subst c16
                have H1 : (if ((rd_T39 l0 x14_1).f0) = a1_0 then (cambiumref03_put.l0 kj7 x5_1 x6_1 l0 (l0.length : Int) (wrap64 (x14_1 + 1)) a1_0 a1_1) else (if x5_1.length < 5864062014805 then (cambiumref03_put.l0 kj7 (x5_1 ++ [(⟨((rd_T39 l0 x14_1).f0), ((rd_T39 l0 x14_1).f1)⟩ : S39)]) x6_1 l0 (l0.length : Int) (wrap64 (x14_1 + 1)) a1_0 a1_1) else (none))) = some r := by rw [if_neg (show ¬ (false = true) by decide)] at H; exact H
                clear H
                have H := H1
                clear H1
                by_cases c31 : ((rd_T39 l0 x14_1).f0) = a1_0
                · rw [if_pos c31] at H
                  have c31b0 : (((rd_T39 l0 x14_1).f0) == a1_0) = true := beq_iff_eq.mpr c31
                  have c31b1 : (((rd_T39 l0 x14_1).f0) != a1_0) = false := bne_eq_false_iff_eq.mpr c31
                  clear c31
                  have H' := Aside0.mk H
                  clear H
                  have hnb32 := NB170_165.out
                  have hnc32 := NB165_170.out
                  obtain ⟨hcz33_0, hcz33_1⟩ := cl2_ BK170
                  obtain ⟨hfz33_0, hfz33_1⟩ := fz2_ BK170
                  obtain ⟨hcz34_0, hcz34_1⟩ := cl2_ BK165
                  obtain ⟨hfz34_0, hfz34_1⟩ := fz2_ BK165
                  go_wp2
                  go_roundg kj7
                  case measure => have := HK1.out; have := HJ7.out; omega
                  case rel => exact ⟨(x5_1), (x6_1), (wrap64 (x14_1 + 1)), (by first | rfl | (simp; done) | (simp [*]; done)), (by first | rfl | (simp; done) | (simp [*]; done)), H', ⟨by have := HK1.out; have := HJ7.out; omega⟩, ⟨by (with_reducible repeat (first | apply Kd.R_alloc | apply Kd.R_drewN | apply Kd.R_drew)); exact Kd.R_mono HO_5.out (fun _ hk => hk.1)⟩, ⟨bk_ BK165⟩, ⟨bel_⟩⟩
                rw [if_neg c31] at H
                have c31b0 : (((rd_T39 l0 x14_1).f0) == a1_0) = false := beq_eq_false_iff_ne.mpr c31
                have c31b1 : (((rd_T39 l0 x14_1).f0) != a1_0) = true := bne_iff_ne.mpr c31
                by_cases c35 : x5_1.length < 5864062014805
                · rw [if_pos c35] at H
                  have LMc35 := Aside0.mk c35
                  clear c35
                  obtain ⟨y177, hy177⟩ : ∃ y_ : List (S39), y_ = (x5_1 ++ [(⟨((rd_T39 l0 x14_1).f0), ((rd_T39 l0 x14_1).f1)⟩ : S39)]) := ⟨_, rfl⟩
                  replace H : (cambiumref03_put.l0 kj7 y177 x6_1 l0 (l0.length : Int) (wrap64 (x14_1 + 1)) a1_0 a1_1) = some r := by first | (rw [hy177]; with_reducible exact H) | (have H2_ := (Option.bind_some _ _).symm.trans H; rw [hy177]; with_reducible exact H2_) | (have H2_ := (Option.bind_some _ _).symm.trans H; with_reducible exact H2_) | with_reducible exact H | (rw [hy177]; exact H) | exact H
                  have Ny177 := Aside0.mk hy177
                  clear hy177
                  have H' := Aside0.mk H
                  clear H
                  have hnb36 := NB170_165.out
                  have hnc36 := NB165_170.out
                  obtain ⟨hcz37_0, hcz37_1⟩ := cl2_ BK170
                  obtain ⟨hfz37_0, hfz37_1⟩ := fz2_ BK170
                  obtain ⟨hcz38_0, hcz38_1⟩ := cl2_ BK165
                  obtain ⟨hfz38_0, hfz38_1⟩ := fz2_ BK165
                  go_wp2_with (first | ((with_reducible refine gate_builtin (b := .append) (xs := #[.tmp 36, .tmp 38]) rfl ?_); at_builtin; refine Kd.R_append k39 (w0 := w) w.heap.size rfl (.tmp 36) (.tmp 38) 23 39 (.agg #[(.int .u32 0), (.string ⟨#[]⟩)]) 24 rfl Tryd.underlying23 info39 rfl (by decide) (by omega) u5 x5_1 (⟨((rd_T39 l0 x14_1).f0), ((rd_T39 l0 x14_1).f1)⟩ : S39) [.int .u32 ((rd_T39 l0 x14_1).f0), .string ((rd_T39 l0 x14_1).f1)] (fun k_ => k_ ≠ gb165 ∧ k_ ≠ gb170) (fun _ => False) rfl rfl ?aP (fun _ hk => hk.elim) ?aF ?aO ?aB ?aS ?aL ?_; (case aP => exact k39_mkM _ _ _ (⟨((rd_T39 l0 x14_1).f0), ((rd_T39 l0 x14_1).f1)⟩ : S39)); (case aB => exact bel_); (case aF => exact (fun k_ hk => ⟨Kd.freshB (bk_ BK165) k_ hk, Kd.freshB (bk_ BK170) k_ hk⟩)); (case aO => exact (ra_ HO_5)); (case aS => exact (below_size bel_)); (case aL => have := LMc35.out; omega); intro v178 w39 ho hb hg hat; rw [← Ny177.out] at ho; have HO179 := Aside0.mk (ho); replace BK165 := Aside0.mk (blk_grown (bk_ BK165) hg (Kd.R_away HO_5.out (fun _ hk => hk.1))); replace BK170 := Aside0.mk (blk_grown (bk_ BK170) hg (Kd.R_away HO_5.out (fun _ hk => hk.2))); replace HB := Aside0.mk (hb); clear HO_5; clear ho hb hg hat))
                  go_roundg kj7
                  case measure => have := HK1.out; have := HJ7.out; omega
                  case rel => exact ⟨(y177), (x6_1), (wrap64 (x14_1 + 1)), (by first | rfl | (simp; done) | (simp [*]; done)), (by first | rfl | (simp; done) | (simp [*]; done)), H', ⟨by have := HK1.out; have := HJ7.out; omega⟩, ⟨by (with_reducible repeat (first | apply Kd.R_alloc | apply Kd.R_drewN | apply Kd.R_drew)); exact Kd.R_mono HO179.out (fun _ hk => hk.1)⟩, ⟨bk_ BK165⟩, ⟨bel_⟩⟩
                rw [if_neg c35] at H
                exact absurd H (by simp)
          rw [if_neg c7] at H
          exact absurd H (by simp)
        rw [if_neg c6] at H
        exact absurd H (by simp)
      rw [if_neg c5] at H
      have c5b0 : decide (x14_1 < (l0.length : Int)) = false := decide_eq_false c5
      clear c5
      by_cases c40 : x6_1 = true
      · subst c40
        have H1 : (some x5_1) = some r := by rw [if_pos rfl] at H; exact H
        clear H
        have H := H1
        clear H1
        obtain rfl := Option.some.inj H
        go_wp2
        go_ret
        exact ⟨_, by first | rfl | (simp [errW_none, errW_some] <;> rfl) | (simp [*, errW_none, errW_some] <;> rfl), by (with_reducible repeat (first | apply Kd.R_alloc | apply Kd.R_drewN | apply Kd.R_drew)); exact Kd.R_mono HO_5.out (fun _ hk => trivial), bel_⟩
      replace c40 := Bool.eq_false_iff.mpr c40
      subst c40
      have H1 : (if x5_1.length < 5864062014805 then (some (x5_1 ++ [(⟨a1_0, a1_1⟩ : S39)])) else (none)) = some r := by rw [if_neg (show ¬ (false = true) by decide)] at H; exact H
      clear H
      have H := H1
      clear H1
      by_cases c41 : x5_1.length < 5864062014805
      · rw [if_pos c41] at H
        have LMc41 := Aside0.mk c41
        clear c41
        obtain ⟨y166, hy166⟩ : ∃ y_ : List (S39), y_ = (x5_1 ++ [(⟨a1_0, a1_1⟩ : S39)]) := ⟨_, rfl⟩
        replace H : (some y166) = some r := by first | (rw [hy166]; with_reducible exact H) | (have H2_ := (Option.bind_some _ _).symm.trans H; rw [hy166]; with_reducible exact H2_) | (have H2_ := (Option.bind_some _ _).symm.trans H; with_reducible exact H2_) | with_reducible exact H | (rw [hy166]; exact H) | exact H
        have Ny166 := Aside0.mk hy166
        clear hy166
        obtain rfl := Option.some.inj H
        obtain ⟨hcz42_0, hcz42_1⟩ := cl2_ BK165
        obtain ⟨hfz42_0, hfz42_1⟩ := fz2_ BK165
        go_wp2_with (first | ((with_reducible refine gate_builtin (b := .append) (xs := #[.tmp 43, .tmp 45]) rfl ?_); at_builtin; refine Kd.R_append k39 (w0 := w) w.heap.size rfl (.tmp 43) (.tmp 45) 23 39 (.agg #[(.int .u32 0), (.string ⟨#[]⟩)]) 24 rfl Tryd.underlying23 info39 rfl (by decide) (by omega) u5 x5_1 (⟨a1_0, a1_1⟩ : S39) [.int .u32 a1_0, .string a1_1] (fun k_ => k_ ≠ gb165) (fun _ => False) rfl rfl ?aP (fun _ hk => hk.elim) ?aF ?aO ?aB ?aS ?aL ?_; (case aP => exact k39_mkM _ _ _ (⟨a1_0, a1_1⟩ : S39)); (case aB => exact bel_); (case aF => exact (fun k_ hk => Kd.freshB (bk_ BK165) k_ hk)); (case aO => exact (ra_ HO_5)); (case aS => exact (below_size bel_)); (case aL => have := LMc41.out; omega); intro v167 w43 ho hb hg hat; rw [← Ny166.out] at ho; have HO168 := Aside0.mk (ho); replace BK165 := Aside0.mk (blk_grown (bk_ BK165) hg (Kd.R_away HO_5.out (fun _ hk => hk))); replace HB := Aside0.mk (hb); clear HO_5; clear ho hb hg hat))
        go_ret
        exact ⟨_, by first | rfl | (simp [errW_none, errW_some] <;> rfl) | (simp [*, errW_none, errW_some] <;> rfl), by (with_reducible repeat (first | apply Kd.R_alloc | apply Kd.R_drewN | apply Kd.R_drew)); exact Kd.R_mono HO168.out (fun _ hk => trivial), bel_⟩
      rw [if_neg c41] at H
      exact absurd H (by simp)

end Go.Proofs.YtcphflfjhkeooaaDoor.Z
end

section
-- Printed by a program of this session (mp.py) out of the translation.
namespace Go.Proofs.YtcphflfjhkeooaaDoor.Z
open Go.RowKit Go.Proofs.YtcphflfjhkeooaaDoorW.PrintWords Go.Proofs.YtcphflfjhkeooaaDoorW.PrintLast Go.Proofs.YtcphflfjhkeooaaDoorW.PrintMore
attribute [local go_sem] max2_int min2_int max_two min_two max_three min_three max_four min_four   -- for this text's walks alone
set_option linter.unusedVariables false
set_option linter.unusedSimpArgs false

/-! ### cambiumref03_Flush: function 16 -/
mutual
def cambiumref03_Flush.j0 : Nat → Bool → Int → List (S39) → List (S39) → Bool → Int → Option (Int × (List (S39)) × (List (S39)) × Bool × Int × Int)
  | 0, _, _, _, _, _, _ => none
  | k + 1, x18, x181000, x181001, x181002, x181003, x181004 => if x18 = true then (some (x181000, x181001, x181002, true, x181004, 17)) else (if x181004 > 0 then (cambiumref03_Flush.j1 k x181000 x181001 x181002 x181003 (wrap64 (x181004 - 1))) else (cambiumref03_Flush.j1 k x181000 x181001 x181002 x181003 x181004))
def cambiumref03_Flush.j1 : Nat → Int → List (S39) → List (S39) → Bool → Int → Option (Int × (List (S39)) × (List (S39)) × Bool × Int × Int)
  | 0, _, _, _, _, _ => none
  | k + 1, x181000, x181001, x181002, x181003, x181004 => cambiumref03_Flush.l0 k x181002 (x181002.length : Int) 0 x181000 x181001 x181002 x181003 x181004
def cambiumref03_Flush.l0 : Nat → List (S39) → Int → Int → Int → List (S39) → List (S39) → Bool → Int → Option (Int × (List (S39)) × (List (S39)) × Bool × Int × Int)
  | 0, _, _, _, _, _, _, _, _ => none
  | k + 1, x29, x30, x31, x181000, x181001, x181002, x181003, x181004 => if x31 < x30 then (if 0 ≤ x31 then (if x31 < (x29.length : Int) then ((cambiumref03_put.f k x181001 ((rd_T39 x29 x31).f0) ((rd_T39 x29 x31).f1)).bind fun t194 => (cambiumref03_Flush.l0 k x29 x30 (wrap64 (x31 + 1)) x181000 t194 x181002 x181003 x181004)) else (none)) else (none)) else (some (x181000, x181001, ([] : List (S39)), x181003, x181004, 0))
end
def cambiumref03_Flush.f (k : Nat) (a0_0 : Int) (l0_1 : List (S39)) (l0_2 : List (S39)) (a0_3 : Bool) (a0_4 : Int) : Option (Int × (List (S39)) × (List (S39)) × Bool × Int × Int) := (cambiumref03_Check.f k a0_0 l0_1 l0_2 a0_3 a0_4).bind fun t182 => (if t182 = 0 then ((cambiumref03_Copy.f a0_0 l0_1 l0_2 a0_3 a0_4).bind fun bt183 => (if bt183.2.2.2.1 = true then (cambiumref03_Flush.j0 k true bt183.1 bt183.2.1 bt183.2.2.1 bt183.2.2.2.1 bt183.2.2.2.2) else (cambiumref03_Flush.j0 k (bt183.2.2.2.2 == 0) bt183.1 bt183.2.1 bt183.2.2.1 bt183.2.2.2.1 bt183.2.2.2.2))) else (some (0, ([] : List (S39)), ([] : List (S39)), false, 0, 7)))
theorem cambiumref03_Flush.mono_l : ∀ k, (∀ y0 y1 y2 y3 y4 y5, LeO (cambiumref03_Flush.j0 k y0 y1 y2 y3 y4 y5) (cambiumref03_Flush.j0 (k + 1) y0 y1 y2 y3 y4 y5)) ∧ (∀ y0 y1 y2 y3 y4, LeO (cambiumref03_Flush.j1 k y0 y1 y2 y3 y4) (cambiumref03_Flush.j1 (k + 1) y0 y1 y2 y3 y4)) ∧ (∀ y0 y1 y2 y3 y4 y5 y6 y7, LeO (cambiumref03_Flush.l0 k y0 y1 y2 y3 y4 y5 y6 y7) (cambiumref03_Flush.l0 (k + 1) y0 y1 y2 y3 y4 y5 y6 y7))
  | 0 => ⟨fun _ _ _ _ _ _ r h => by simp [cambiumref03_Flush.j0] at h, fun _ _ _ _ _ r h => by simp [cambiumref03_Flush.j1] at h, fun _ _ _ _ _ _ _ _ r h => by simp [cambiumref03_Flush.l0] at h⟩
  | k + 1 => by
    obtain ⟨ih0, ih1, ih2⟩ := cambiumref03_Flush.mono_l k
    refine ⟨?_, ?_, ?_⟩
    · intro y0 y1 y2 y3 y4 y5
      unfold cambiumref03_Flush.j0
      repeat' first
      | (with_reducible exact ih0 _ _ _ _ _ _)
      | (with_reducible exact ih1 _ _ _ _ _)
      | (with_reducible exact ih2 _ _ _ _ _ _ _ _)
      | (with_reducible exact cambiumref03_Check.mono _ _ _ _ _ _)
      | (with_reducible exact cambiumref03_put.mono _ _ _ _)
      | (with_reducible exact LeO.refl _)
      | (with_reducible exact LeO.none _)
      | (with_reducible refine LeO.ite ?_ ?_)
      | (with_reducible refine LeO.bind ?_ (fun _ => ?_))
      | exact ih0 _ _ _ _ _ _
      | exact ih1 _ _ _ _ _
      | exact ih2 _ _ _ _ _ _ _ _
      | exact cambiumref03_Check.mono _ _ _ _ _ _
      | exact cambiumref03_put.mono _ _ _ _
      | exact LeO.none _
      | refine LeO.ite ?_ ?_
      | refine LeO.bind ?_ (fun _ => ?_)
    · intro y0 y1 y2 y3 y4
      unfold cambiumref03_Flush.j1
      repeat' first
      | (with_reducible exact ih0 _ _ _ _ _ _)
      | (with_reducible exact ih1 _ _ _ _ _)
      | (with_reducible exact ih2 _ _ _ _ _ _ _ _)
      | (with_reducible exact cambiumref03_Check.mono _ _ _ _ _ _)
      | (with_reducible exact cambiumref03_put.mono _ _ _ _)
      | (with_reducible exact LeO.refl _)
      | (with_reducible exact LeO.none _)
      | (with_reducible refine LeO.ite ?_ ?_)
      | (with_reducible refine LeO.bind ?_ (fun _ => ?_))
      | exact ih0 _ _ _ _ _ _
      | exact ih1 _ _ _ _ _
      | exact ih2 _ _ _ _ _ _ _ _
      | exact cambiumref03_Check.mono _ _ _ _ _ _
      | exact cambiumref03_put.mono _ _ _ _
      | exact LeO.none _
      | refine LeO.ite ?_ ?_
      | refine LeO.bind ?_ (fun _ => ?_)
    intro y0 y1 y2 y3 y4 y5 y6 y7
    unfold cambiumref03_Flush.l0
    repeat' first
    | (with_reducible exact ih0 _ _ _ _ _ _)
    | (with_reducible exact ih1 _ _ _ _ _)
    | (with_reducible exact ih2 _ _ _ _ _ _ _ _)
    | (with_reducible exact cambiumref03_Check.mono _ _ _ _ _ _)
    | (with_reducible exact cambiumref03_put.mono _ _ _ _)
    | (with_reducible exact LeO.refl _)
    | (with_reducible exact LeO.none _)
    | (with_reducible refine LeO.ite ?_ ?_)
    | (with_reducible refine LeO.bind ?_ (fun _ => ?_))
    | exact ih0 _ _ _ _ _ _
    | exact ih1 _ _ _ _ _
    | exact ih2 _ _ _ _ _ _ _ _
    | exact cambiumref03_Check.mono _ _ _ _ _ _
    | exact cambiumref03_put.mono _ _ _ _
    | exact LeO.none _
    | refine LeO.ite ?_ ?_
    | refine LeO.bind ?_ (fun _ => ?_)
theorem cambiumref03_Flush.mono : ∀ a0 a1 a2 a3 a4 k, LeO (cambiumref03_Flush.f k a0 a1 a2 a3 a4) (cambiumref03_Flush.f (k + 1) a0 a1 a2 a3 a4) := by
  intro a0 a1 a2 a3 a4 k
  obtain ⟨ih0, ih1, ih2⟩ := cambiumref03_Flush.mono_l k
  unfold cambiumref03_Flush.f
  repeat' first
      | (with_reducible exact ih0 _ _ _ _ _ _)
      | (with_reducible exact ih1 _ _ _ _ _)
      | (with_reducible exact ih2 _ _ _ _ _ _ _ _)
      | (with_reducible exact cambiumref03_Check.mono _ _ _ _ _ _)
      | (with_reducible exact cambiumref03_put.mono _ _ _ _)
      | (with_reducible exact LeO.refl _)
      | (with_reducible exact LeO.none _)
      | (with_reducible refine LeO.ite ?_ ?_)
      | (with_reducible refine LeO.bind ?_ (fun _ => ?_))
      | exact ih0 _ _ _ _ _ _
      | exact ih1 _ _ _ _ _
      | exact ih2 _ _ _ _ _ _ _ _
      | exact cambiumref03_Check.mono _ _ _ _ _ _
      | exact cambiumref03_put.mono _ _ _ _
      | exact LeO.none _
      | refine LeO.ite ?_ ?_
      | refine LeO.bind ?_ (fun _ => ?_)
set_option maxHeartbeats 8000000 in
set_option maxRecDepth 100000 in
theorem cambiumref03_Flush.calls (k : Nat) (a0_0 : Int) (A0_1 : Option Addr) (c0_1 : Nat) (l0_1 : List (S39)) (A0_2 : Option Addr) (c0_2 : Nat) (l0_2 : List (S39)) (a0_3 : Bool) (a0_4 : Int) (r1 : Int) (r2 : List (S39)) (r3 : List (S39)) (r4 : Bool) (r5 : Int) (r6 : Int) (w : World) (hr0_1 : Kd.C k39 w A0_1 l0_1.length l0_1) (hc0_1 : l0_1.length ≤ c0_1) (hr0_2 : Kd.C k39 w A0_2 l0_2.length l0_2) (hc0_2 : l0_2.length ≤ c0_2) (h : cambiumref03_Flush.f k a0_0 l0_1 l0_2 a0_3 a0_4 = some (r1, r2, r3, r4, r5, r6)) :
    Calls Tryd.prog 16 #[.agg #[.int .u32 a0_0, .slice A0_1 l0_1.length c0_1, .slice A0_2 l0_2.length c0_2, .bool a0_3, .int .i64 a0_4]] w fun e w' => ∃ v1_ v2_ : Value, e = .returned (.tuple #[.agg #[.int .u32 r1, v1_, v2_, .bool r4, .int .i64 r5], .int .i64 r6]) ∧ Kd.R k39 39 w' w.heap.size (fun k_ => some k_ ≠ (v2_ : Value).ownBlock) v1_ r2 ∧ Kd.R k39 39 w' w.heap.size (fun k_ => some k_ ≠ (v1_ : Value).ownBlock) v2_ r3 ∧ Below w.heap.size w w' := by
  have hu25 := Tryd.underlying25
  have hu39 := Tryd.underlying39
  have HR0_1 := Aside0.mk hr0_1
  have HC0_1 := Aside0.mk hc0_1
  clear hr0_1 hc0_1
  have HR0_2 := Aside0.mk hr0_2
  have HC0_2 := Aside0.mk hc0_2
  clear hr0_2 hc0_2
  have HB := Aside0.mk (Below.refl w.heap.size w)
  have H : ((cambiumref03_Check.f k a0_0 l0_1 l0_2 a0_3 a0_4).bind fun t182 => (if t182 = 0 then ((cambiumref03_Copy.f a0_0 l0_1 l0_2 a0_3 a0_4).bind fun bt183 => (if bt183.2.2.2.1 = true then (cambiumref03_Flush.j0 k true bt183.1 bt183.2.1 bt183.2.2.1 bt183.2.2.2.1 bt183.2.2.2.2) else (cambiumref03_Flush.j0 k (bt183.2.2.2.2 == 0) bt183.1 bt183.2.1 bt183.2.2.1 bt183.2.2.2.1 bt183.2.2.2.2))) else (some (0, ([] : List (S39)), ([] : List (S39)), false, 0, 7)))) = some (r1, r2, r3, r4, r5, r6) := h
  clear h
  replace H := Option.bind_eq_some_iff.mp H
  obtain ⟨t182, A20, H⟩ := H
  replace H : (if t182 = 0 then ((cambiumref03_Copy.f a0_0 l0_1 l0_2 a0_3 a0_4).bind fun bt183 => (if bt183.2.2.2.1 = true then (cambiumref03_Flush.j0 k true bt183.1 bt183.2.1 bt183.2.2.1 bt183.2.2.2.1 bt183.2.2.2.2) else (cambiumref03_Flush.j0 k (bt183.2.2.2.2 == 0) bt183.1 bt183.2.1 bt183.2.2.1 bt183.2.2.2.1 bt183.2.2.2.2))) else (some (0, ([] : List (S39)), ([] : List (S39)), false, 0, 7))) = some (r1, r2, r3, r4, r5, r6) := H
  have A2 := Aside0.mk A20
  clear A20
  by_cases c3 : t182 = 0
  · rw [if_pos c3] at H
    have c3b0 : (t182 == 0) = true := beq_iff_eq.mpr c3
    have c3b1 : (t182 != 0) = false := bne_eq_false_iff_eq.mpr c3
    clear c3
    replace H := Option.bind_eq_some_iff.mp H
    obtain ⟨⟨t183, t184, t187, t190, t191⟩, A40, H⟩ := H
    replace H : (if t190 = true then (cambiumref03_Flush.j0 k true t183 t184 t187 t190 t191) else (cambiumref03_Flush.j0 k (t191 == 0) t183 t184 t187 t190 t191)) = some (r1, r2, r3, r4, r5, r6) := H
    have A4 := Aside0.mk A40
    clear A40
    have HC5 := Aside0.mk H
    clear H
    go_enter Tryd.func16, Tryd.ntmps16
    go_upto_region 4 with (first | ((with_reducible refine gate_dst (N := 1) rfl ?_); refine bx_ (N := 1) (cs := #[.int .u32 a0_0, .slice A0_1 l0_1.length c0_1, .slice A0_2 l0_2.length c0_2, .bool a0_3, .int .i64 a0_4]) (t := 25) ?_; intro gb180 hg w6 hbox hb; have n0_ := Aside0.mk (below_step bel_ hb); have n1_ := Aside0.mk (hbox); have n2_ := Aside0.mk ((by rw [hg]; exact (below_size bel_) : w.heap.size ≤ gb180)); have n3_ := Aside0.mk ((by rw [hg]; exact (below_size bel_) : w.heap.size ≤ gb180)); clear HB; have HB := n0_; have BK180 := n1_; have GW180 := n2_; have GE180 := n3_; clear n0_ n1_ n2_ n3_; clear hb hbox hg) | ((with_reducible refine gate_dst (N := 2) rfl ?_); refine bx_ (N := 2) (cs := #[.int .u32 0, .slice none 0 0, .slice none 0 0, .bool false, .int .i64 0]) (t := 25) ?_; intro gb181 hg w7 hbox hb; have n0_ := Aside0.mk (blk_below (bk_ BK180) hb); have n1_ := Aside0.mk (below_step bel_ hb); have n2_ := Aside0.mk (hbox); have n3_ := Aside0.mk ((by rw [hg]; exact (below_size bel_) : w.heap.size ≤ gb181)); have n4_ := Aside0.mk ((by rw [hg]; exact (below_size bel_) : w.heap.size ≤ gb181)); have n5_ := Aside0.mk ((by rw [hg]; exact Nat.ne_of_lt (blk_lt (bk_ BK180)) : gb180 ≠ gb181)); have n6_ := Aside0.mk ((by rw [hg]; exact Nat.ne_of_gt (blk_lt (bk_ BK180)) : gb181 ≠ gb180)); clear BK180; clear HB; have BK180 := n0_; have HB := n1_; have BK181 := n2_; have GW181 := n3_; have GE181 := n4_; have NB180_181 := n5_; have NB181_180 := n6_; clear n0_ n1_ n2_ n3_ n4_ n5_ n6_; clear hb hbox hg; have hnb8 := NB180_181.out; have hnc8 := NB181_180.out; have hcz9_0 : w7.cell? ⟨gb180, 0, none⟩ = some (.int .u32 a0_0) := (blk_cell BK180.out 0).trans rfl; have hcz9_1 : w7.cell? ⟨gb180, 1, none⟩ = some (.slice A0_1 l0_1.length c0_1) := (blk_cell BK180.out 1).trans rfl; have hcz9_2 : w7.cell? ⟨gb180, 2, none⟩ = some (.slice A0_2 l0_2.length c0_2) := (blk_cell BK180.out 2).trans rfl; have hcz9_3 : w7.cell? ⟨gb180, 3, none⟩ = some (.bool a0_3) := (blk_cell BK180.out 3).trans rfl; have hcz9_4 : w7.cell? ⟨gb180, 4, none⟩ = some (.int .i64 a0_4) := (blk_cell BK180.out 4).trans rfl; have hfz9_0 := blk_frozen BK180.out 0; have hfz9_1 := blk_frozen BK180.out 1; have hfz9_2 := blk_frozen BK180.out 2; have hfz9_3 := blk_frozen BK180.out 3; have hfz9_4 := blk_frozen BK180.out 4) | ((with_reducible refine gate_callee (f := 22) rfl ?_); refine gl_ (some 7) Tryd.func22 #[.agg #[.int .u32 a0_0, .slice A0_1 l0_1.length c0_1, .slice A0_2 l0_2.length c0_2, .bool a0_3, .int .i64 a0_4]] ?_; (with_reducible refine (cambiumref03_Check.calls k a0_0 _ _ l0_1 _ _ l0_2 a0_3 a0_4 t182 _ ?side1 ?side2 ?side3 ?side4 A2.out).mono ?_); (case side1 => exact cb_ HR0_1); (case side2 => exact HC0_1.out); (case side3 => exact cb_ HR0_2); (case side4 => exact HC0_2.out); rintro e w10 ⟨rfl, hb⟩; refine ⟨_, rfl, ?_⟩; have n0_ := Aside0.mk (blk_below (bk_ BK180) hb); have n1_ := Aside0.mk (blk_below (bk_ BK181) hb); have n2_ := Aside0.mk (below_step bel_ hb); clear BK180; clear BK181; clear HB; have BK180 := n0_; have BK181 := n1_; have HB := n2_; clear n0_ n1_ n2_; (try clear hb); (try clear hb2); (try clear hk); (try clear hi); have hcz11_0 : w10.cell? ⟨gb180, 0, none⟩ = some (.int .u32 a0_0) := (blk_cell BK180.out 0).trans rfl; have hcz11_1 : w10.cell? ⟨gb180, 1, none⟩ = some (.slice A0_1 l0_1.length c0_1) := (blk_cell BK180.out 1).trans rfl; have hcz11_2 : w10.cell? ⟨gb180, 2, none⟩ = some (.slice A0_2 l0_2.length c0_2) := (blk_cell BK180.out 2).trans rfl; have hcz11_3 : w10.cell? ⟨gb180, 3, none⟩ = some (.bool a0_3) := (blk_cell BK180.out 3).trans rfl; have hcz11_4 : w10.cell? ⟨gb180, 4, none⟩ = some (.int .i64 a0_4) := (blk_cell BK180.out 4).trans rfl; have hfz11_0 := blk_frozen BK180.out 0; have hfz11_1 := blk_frozen BK180.out 1; have hfz11_2 := blk_frozen BK180.out 2; have hfz11_3 := blk_frozen BK180.out 3; have hfz11_4 := blk_frozen BK180.out 4) | ((with_reducible refine gate_callee (f := 12) rfl ?_); refine gl_ (some 11) Tryd.func12 #[.agg #[.int .u32 a0_0, .slice A0_1 l0_1.length c0_1, .slice A0_2 l0_2.length c0_2, .bool a0_3, .int .i64 a0_4]] ?_; (with_reducible refine (cambiumref03_Copy.calls a0_0 _ _ l0_1 _ _ l0_2 a0_3 a0_4 t183 t184 t187 t190 t191 _ ?side1 ?side2 ?side3 ?side4 A4.out).mono ?_); (case side1 => exact cb_ HR0_1); (case side2 => exact HC0_1.out); (case side3 => exact cb_ HR0_2); (case side4 => exact HC0_2.out); rintro e w12 ⟨v185, v188, rfl, ho0, ho1, hb⟩; refine ⟨_, rfl, ?_⟩; have n0_ := Aside0.mk (Kd.R_lower ho0 (below_size bel_)); have n1_ := Aside0.mk (Kd.R_lower ho1 (below_size bel_)); have n2_ := Aside0.mk (blk_below (bk_ BK180) hb); have n3_ := Aside0.mk (blk_below (bk_ BK181) hb); have n4_ := Aside0.mk (below_step bel_ hb); clear BK180; clear BK181; clear HB; have HO186 := n0_; have HO189 := n1_; have BK180 := n2_; have BK181 := n3_; have HB := n4_; clear n0_ n1_ n2_ n3_ n4_; (try clear hb); (try clear hb2); (try clear hk); (try clear hi); (try clear ho0); (try clear ho1); have hcz13_0 : w12.cell? ⟨gb180, 0, none⟩ = some (.int .u32 a0_0) := (blk_cell BK180.out 0).trans rfl; have hcz13_1 : w12.cell? ⟨gb180, 1, none⟩ = some (.slice A0_1 l0_1.length c0_1) := (blk_cell BK180.out 1).trans rfl; have hcz13_2 : w12.cell? ⟨gb180, 2, none⟩ = some (.slice A0_2 l0_2.length c0_2) := (blk_cell BK180.out 2).trans rfl; have hcz13_3 : w12.cell? ⟨gb180, 3, none⟩ = some (.bool a0_3) := (blk_cell BK180.out 3).trans rfl; have hcz13_4 : w12.cell? ⟨gb180, 4, none⟩ = some (.int .i64 a0_4) := (blk_cell BK180.out 4).trans rfl; have hfz13_0 := blk_frozen BK180.out 0; have hfz13_1 := blk_frozen BK180.out 1; have hfz13_2 := blk_frozen BK180.out 2; have hfz13_3 := blk_frozen BK180.out 3; have hfz13_4 := blk_frozen BK180.out 4; obtain ⟨Ao14, co14, eo14⟩ := Kd.R_slice HO186.out; subst eo14; obtain ⟨Ao15, co15, eo15⟩ := Kd.R_slice HO189.out; subst eo15))
    (try simp only [Act.put, List.setIfInBounds_toArray, List.set_cons_zero, List.set_cons_succ])
    go_cut [18] (fun v18 wc => ∃ (kq : Nat) (x18_4 : Bool), v18 = .bool x18_4 ∧ Aside0 (cambiumref03_Flush.j0 kq x18_4 t183 t184 t187 t190 t191 = some (r1, r2, r3, r4, r5, r6)) ∧ Aside0 (kq ≤ k) ∧ Aside0 (Kd.R k39 39 wc w.heap.size (fun k_ => some k_ ≠ ((.slice Ao15 t187.length co15) : Value).ownBlock) (.slice Ao14 t184.length co14) t184) ∧ Aside0 (Kd.R k39 39 wc w.heap.size (fun k_ => some k_ ≠ ((.slice Ao14 t184.length co14) : Value).ownBlock) (.slice Ao15 t187.length co15) t187) ∧ Aside0 (wc.heap[gb180]? = some (.cells #[.int .u32 t183, (.slice Ao14 t184.length co14), (.slice Ao15 t187.length co15), .bool t190, .int .i64 t191] 25 (0, 0))) ∧ Aside0 (wc.heap[gb181]? = some (.cells #[.int .u32 0, (.slice none 0 0), (.slice none 0 0), .bool false, .int .i64 0] 25 (0, 0))) ∧ Aside0 (Below w.heap.size w wc))
    case first =>
      have H := HC5.out
      clear HC5
      by_cases c16 : t190 = true
      · subst c16
        have H1 : (cambiumref03_Flush.j0 k true t183 t184 t187 true t191) = some (r1, r2, r3, r4, r5, r6) := by rw [if_pos rfl] at H; exact H
        clear H
        have H := H1
        clear H1
        have H' := Aside0.mk H
        clear H
        have hnb17 := NB180_181.out
        have hnc17 := NB181_180.out
        obtain ⟨hcz18_0, hcz18_1, hcz18_2, hcz18_3, hcz18_4⟩ := cl5_ BK180
        obtain ⟨hfz18_0, hfz18_1, hfz18_2, hfz18_3, hfz18_4⟩ := fz5_ BK180
        go_wp2
        go_meet
        case rel => exact ⟨_, (true), (by first | rfl | (simp; done) | (simp [*]; done)), H', ⟨by first | omega | exact Nat.le_refl _⟩, ⟨rw_ HO186⟩, ⟨rw_ HO189⟩, ⟨bs_⟩, ⟨bs_⟩, ⟨bel_⟩⟩
      replace c16 := Bool.eq_false_iff.mpr c16
      subst c16
      have H1 : (cambiumref03_Flush.j0 k (t191 == 0) t183 t184 t187 false t191) = some (r1, r2, r3, r4, r5, r6) := by rw [if_neg (show ¬ (false = true) by decide)] at H; exact H
      clear H
      have H := H1
      clear H1
      have H' := Aside0.mk H
      clear H
      have hnb19 := NB180_181.out
      have hnc19 := NB181_180.out
      obtain ⟨hcz20_0, hcz20_1, hcz20_2, hcz20_3, hcz20_4⟩ := cl5_ BK180
      obtain ⟨hfz20_0, hfz20_1, hfz20_2, hfz20_3, hfz20_4⟩ := fz5_ BK180
      go_wp2
      go_meet
      case rel => exact ⟨_, ((t191 == 0)), (by first | rfl | (simp; done) | (simp [*]; done)), H', ⟨by first | omega | exact Nat.le_refl _⟩, ⟨rw_ HO186⟩, ⟨rw_ HO189⟩, ⟨bs_⟩, ⟨bs_⟩, ⟨bel_⟩⟩
    case rest =>
      clear HC5
      try clear c1
      try clear c2
      try clear p2
      try clear c3
      try clear c3b0
      try clear c3b1
      try clear c8
      try clear c12
      try clear c16
      try clear c17
      try clear c19
      try clear hcz11_0
      try clear hcz11_1
      try clear hcz11_2
      try clear hcz11_3
      try clear hcz11_4
      try clear hcz13_0
      try clear hcz13_1
      try clear hcz13_2
      try clear hcz13_3
      try clear hcz13_4
      try clear hcz18_0
      try clear hcz18_1
      try clear hcz18_2
      try clear hcz18_3
      try clear hcz18_4
      try clear hcz20_0
      try clear hcz20_1
      try clear hcz20_2
      try clear hcz20_3
      try clear hcz20_4
      try clear hcz9_0
      try clear hcz9_1
      try clear hcz9_2
      try clear hcz9_3
      try clear hcz9_4
      try clear hfz11_0
      try clear hfz11_1
      try clear hfz11_2
      try clear hfz11_3
      try clear hfz11_4
      try clear hfz13_0
      try clear hfz13_1
      try clear hfz13_2
      try clear hfz13_3
      try clear hfz13_4
      try clear hfz18_0
      try clear hfz18_1
      try clear hfz18_2
      try clear hfz18_3
      try clear hfz18_4
      try clear hfz20_0
      try clear hfz20_1
      try clear hfz20_2
      try clear hfz20_3
      try clear hfz20_4
      try clear hfz9_0
      try clear hfz9_1
      try clear hfz9_2
      try clear hfz9_3
      try clear hfz9_4
      obtain ⟨kq, x18_4, rfl, HA, HJ4, HO_181001, HO_181002, BK180, BK181, HB⟩ := hcut
      cases kq with
      | zero => exact absurd HA.out (by simp [cambiumref03_Flush.j0])
      | succ kj4 =>
        have H := HA.out
        clear HA
        simp only [cambiumref03_Flush.j0] at H
        by_cases c21 : x18_4 = true
        · subst c21
          have H1 : (some (t183, t184, t187, true, t191, 17)) = some (r1, r2, r3, r4, r5, r6) := by rw [if_pos rfl] at H; exact H
          clear H
          have H := H1
          clear H1
          simp only [Option.some.injEq, Prod.mk.injEq] at H
          obtain ⟨rfl, rfl, rfl, rfl, rfl, rfl⟩ := H
          have hnb22 := NB180_181.out
          have hnc22 := NB181_180.out
          obtain ⟨hcz23_0, hcz23_1, hcz23_2, hcz23_3, hcz23_4⟩ := cl5_ BK180
          obtain ⟨hfz23_0, hfz23_1, hfz23_2, hfz23_3, hfz23_4⟩ := fz5_ BK180
          obtain ⟨hcz24_0, hcz24_1, hcz24_2, hcz24_3, hcz24_4⟩ := cl5_ BK181
          obtain ⟨hfz24_0, hfz24_1, hfz24_2, hfz24_3, hfz24_4⟩ := fz5_ BK181
          go_wp2
          refine bodyPost_ret (results_ct rfl _ _ gb181 25 #[.int .u32 t183, .slice Ao14 t184.length co14, .slice Ao15 t187.length co15, .bool true, .int .i64 t191] (0, 0) _ rfl (bs_) Tryd.underlying25 rfl (by kernel_rfl)) rfl ?_
          exact ⟨_, _, by first | rfl | (simp [errW_none, errW_some] <;> rfl) | (simp [*, errW_none, errW_some] <;> rfl), rw_ HO_181001, rw_ HO_181002, bel_⟩
        replace c21 := Bool.eq_false_iff.mpr c21
        subst c21
        have H1 : (if t191 > 0 then (cambiumref03_Flush.j1 kj4 t183 t184 t187 t190 (wrap64 (t191 - 1))) else (cambiumref03_Flush.j1 kj4 t183 t184 t187 t190 t191)) = some (r1, r2, r3, r4, r5, r6) := by rw [if_neg (show ¬ (false = true) by decide)] at H; exact H
        clear H
        have H := H1
        clear H1
        have HC25 := Aside0.mk H
        clear H
        have hnb26 := NB180_181.out
        have hnc26 := NB181_180.out
        obtain ⟨hcz27_0, hcz27_1, hcz27_2, hcz27_3, hcz27_4⟩ := cl5_ BK180
        obtain ⟨hfz27_0, hfz27_1, hfz27_2, hfz27_3, hfz27_4⟩ := fz5_ BK180
        go_upto_if 23 with (fail)
        go_cut [] (fun wc => ∃ (kq : Nat) (x181004_24 : Int), Aside0 (cambiumref03_Flush.j1 kq t183 t184 t187 t190 x181004_24 = some (r1, r2, r3, r4, r5, r6)) ∧ Aside0 (kq ≤ kj4) ∧ Aside0 (Kd.R k39 39 wc w.heap.size (fun k_ => some k_ ≠ ((.slice Ao15 t187.length co15) : Value).ownBlock) (.slice Ao14 t184.length co14) t184) ∧ Aside0 (Kd.R k39 39 wc w.heap.size (fun k_ => some k_ ≠ ((.slice Ao14 t184.length co14) : Value).ownBlock) (.slice Ao15 t187.length co15) t187) ∧ Aside0 (wc.heap[gb180]? = some (.cells #[.int .u32 t183, (.slice Ao14 t184.length co14), (.slice Ao15 t187.length co15), .bool t190, .int .i64 x181004_24] 25 (0, 0))) ∧ Aside0 (wc.heap[gb181]? = some (.cells #[.int .u32 0, (.slice none 0 0), (.slice none 0 0), .bool false, .int .i64 0] 25 (0, 0))) ∧ Aside0 (Below w.heap.size w wc))
        case first =>
          have H := HC25.out
          clear HC25
          by_cases c28 : t191 > 0
          · rw [if_pos c28] at H
            have c28b0 : decide (0 < t191) = true := decide_eq_true c28
            clear c28
            (first | rw [c28b0] | (simp only [i64_w, i32_w]; rw [c28b0]) | skip)
            have H' := Aside0.mk H
            clear H
            have hnb29 := NB180_181.out
            have hnc29 := NB181_180.out
            obtain ⟨hcz30_0, hcz30_1, hcz30_2, hcz30_3, hcz30_4⟩ := cl5_ BK180
            obtain ⟨hfz30_0, hfz30_1, hfz30_2, hfz30_3, hfz30_4⟩ := fz5_ BK180
            go_wp2
            go_meet
            case rel => exact ⟨_, (wrap64 (t191 - 1)), H', ⟨by have := HJ4.out; first | omega | exact Nat.le_refl _⟩, ⟨rw_ HO_181001⟩, ⟨rw_ HO_181002⟩, ⟨bs_⟩, ⟨bs_⟩, ⟨bel_⟩⟩
          rw [if_neg c28] at H
          have c28b0 : decide (0 < t191) = false := decide_eq_false c28
          clear c28
          (first | rw [c28b0] | (simp only [i64_w, i32_w]; rw [c28b0]) | skip)
          have H' := Aside0.mk H
          clear H
          go_wp2
          go_meet
          case rel => exact ⟨_, (t191), H', ⟨by have := HJ4.out; first | omega | exact Nat.le_refl _⟩, ⟨ra_ HO_181001⟩, ⟨ra_ HO_181002⟩, ⟨bk_ BK180⟩, ⟨bk_ BK181⟩, ⟨bel_⟩⟩
        case rest =>
          clear HC25
          try clear c1
          try clear c2
          try clear p2
          try clear c3
          try clear c3b0
          try clear c3b1
          try clear p6
          try clear c8
          try clear c12
          try clear c16
          try clear c17
          try clear c19
          try clear c21
          try clear c22
          try clear c26
          try clear c28
          try clear c28b0
          try clear c29
          try clear hcz11_0
          try clear hcz11_1
          try clear hcz11_2
          try clear hcz11_3
          try clear hcz11_4
          try clear hcz13_0
          try clear hcz13_1
          try clear hcz13_2
          try clear hcz13_3
          try clear hcz13_4
          try clear hcz18_0
          try clear hcz18_1
          try clear hcz18_2
          try clear hcz18_3
          try clear hcz18_4
          try clear hcz20_0
          try clear hcz20_1
          try clear hcz20_2
          try clear hcz20_3
          try clear hcz20_4
          try clear hcz23_0
          try clear hcz23_1
          try clear hcz23_2
          try clear hcz23_3
          try clear hcz23_4
          try clear hcz24_0
          try clear hcz24_1
          try clear hcz24_2
          try clear hcz24_3
          try clear hcz24_4
          try clear hcz27_0
          try clear hcz27_1
          try clear hcz27_2
          try clear hcz27_3
          try clear hcz27_4
          try clear hcz30_0
          try clear hcz30_1
          try clear hcz30_2
          try clear hcz30_3
          try clear hcz30_4
          try clear hcz9_0
          try clear hcz9_1
          try clear hcz9_2
          try clear hcz9_3
          try clear hcz9_4
          try clear hfz11_0
          try clear hfz11_1
          try clear hfz11_2
          try clear hfz11_3
          try clear hfz11_4
          try clear hfz13_0
          try clear hfz13_1
          try clear hfz13_2
          try clear hfz13_3
          try clear hfz13_4
          try clear hfz18_0
          try clear hfz18_1
          try clear hfz18_2
          try clear hfz18_3
          try clear hfz18_4
          try clear hfz20_0
          try clear hfz20_1
          try clear hfz20_2
          try clear hfz20_3
          try clear hfz20_4
          try clear hfz23_0
          try clear hfz23_1
          try clear hfz23_2
          try clear hfz23_3
          try clear hfz23_4
          try clear hfz24_0
          try clear hfz24_1
          try clear hfz24_2
          try clear hfz24_3
          try clear hfz24_4
          try clear hfz27_0
          try clear hfz27_1
          try clear hfz27_2
          try clear hfz27_3
          try clear hfz27_4
          try clear hfz30_0
          try clear hfz30_1
          try clear hfz30_2
          try clear hfz30_3
          try clear hfz30_4
          try clear hfz9_0
          try clear hfz9_1
          try clear hfz9_2
          try clear hfz9_3
          try clear hfz9_4
          try clear p2
          obtain ⟨kq, x181004_24, HA, HJ24, HO_181001, HO_181002, BK180, BK181, HB⟩ := hcut
          cases kq with
          | zero => exact absurd HA.out (by simp [cambiumref03_Flush.j1])
          | succ kj24 =>
            have H := HA.out
            clear HA
            simp only [cambiumref03_Flush.j1] at H
            have H' := Aside0.mk H
            clear H
            have hnb31 := NB180_181.out
            have hnc31 := NB181_180.out
            obtain ⟨hcz32_0, hcz32_1, hcz32_2, hcz32_3, hcz32_4⟩ := cl5_ BK180
            obtain ⟨hfz32_0, hfz32_1, hfz32_2, hfz32_3, hfz32_4⟩ := fz5_ BK180
            go_wp2
            go_loopg [31] kj24 (fun kq v31 w' => ∃ (x31_3 : Int) (x181001_3 : List (S39)) (u181001 : Value), v31 = .int .i64 x31_3 ∧ Aside0 (cambiumref03_Flush.l0 kq t187 (t187.length : Int) x31_3 t183 x181001_3 t187 t190 x181004_24 = some (r1, r2, r3, r4, r5, r6)) ∧ Aside0 (kq ≤ kj24) ∧ Aside0 (Kd.R k39 39 w' w.heap.size (fun k_ => some k_ ≠ (u181001 : Value).ownBlock) (.slice Ao15 t187.length co15) t187) ∧ Aside0 (Kd.R k39 39 w' w.heap.size (fun k_ => some k_ ≠ ((.slice Ao15 t187.length co15) : Value).ownBlock ∧ some k_ ≠ ((.slice Ao15 t187.length co15) : Value).ownBlock) u181001 x181001_3) ∧ Aside0 (Kd.R k39 39 w' w.heap.size (fun k_ => some k_ ≠ (u181001 : Value).ownBlock) (.slice Ao15 t187.length co15) t187) ∧ Aside0 (w'.heap[gb180]? = some (.cells #[.int .u32 t183, u181001, (.slice Ao15 t187.length co15), .bool t190, .int .i64 x181004_24] 25 (0, 0))) ∧ Aside0 (w'.heap[gb181]? = some (.cells #[.int .u32 0, (.slice none 0 0), (.slice none 0 0), .bool false, .int .i64 0] 25 (0, 0))) ∧ Aside0 (Below w.heap.size w w'))
            case atStart => exact ⟨(0), (t184), (.slice Ao14 t184.length co14), (by first | rfl | (simp; done) | (simp [*]; done)), H', ⟨Nat.le_refl _⟩, ⟨ra_ HO_181002⟩, ⟨by (with_reducible repeat (first | apply Kd.R_alloc | apply Kd.R_drewN | apply Kd.R_drew)); exact Kd.R_mono HO_181001.out (fun _ hk => ⟨hk, hk⟩)⟩, ⟨ra_ HO_181002⟩, ⟨bk_ BK180⟩, ⟨bk_ BK181⟩, ⟨bel_⟩⟩
            case round =>
              clear H'
              try clear c1
              try clear c2
              try clear p2
              try clear c3
              try clear c3b0
              try clear c3b1
              try clear p6
              try clear c8
              try clear c12
              try clear c16
              try clear c17
              try clear c19
              try clear c21
              try clear c22
              try clear c26
              try clear c28
              try clear c28b0
              try clear c29
              try clear c31
              try clear hcz11_0
              try clear hcz11_1
              try clear hcz11_2
              try clear hcz11_3
              try clear hcz11_4
              try clear hcz13_0
              try clear hcz13_1
              try clear hcz13_2
              try clear hcz13_3
              try clear hcz13_4
              try clear hcz18_0
              try clear hcz18_1
              try clear hcz18_2
              try clear hcz18_3
              try clear hcz18_4
              try clear hcz20_0
              try clear hcz20_1
              try clear hcz20_2
              try clear hcz20_3
              try clear hcz20_4
              try clear hcz23_0
              try clear hcz23_1
              try clear hcz23_2
              try clear hcz23_3
              try clear hcz23_4
              try clear hcz24_0
              try clear hcz24_1
              try clear hcz24_2
              try clear hcz24_3
              try clear hcz24_4
              try clear hcz27_0
              try clear hcz27_1
              try clear hcz27_2
              try clear hcz27_3
              try clear hcz27_4
              try clear hcz30_0
              try clear hcz30_1
              try clear hcz30_2
              try clear hcz30_3
              try clear hcz30_4
              try clear hcz32_0
              try clear hcz32_1
              try clear hcz32_2
              try clear hcz32_3
              try clear hcz32_4
              try clear hcz9_0
              try clear hcz9_1
              try clear hcz9_2
              try clear hcz9_3
              try clear hcz9_4
              try clear hfz11_0
              try clear hfz11_1
              try clear hfz11_2
              try clear hfz11_3
              try clear hfz11_4
              try clear hfz13_0
              try clear hfz13_1
              try clear hfz13_2
              try clear hfz13_3
              try clear hfz13_4
              try clear hfz18_0
              try clear hfz18_1
              try clear hfz18_2
              try clear hfz18_3
              try clear hfz18_4
              try clear hfz20_0
              try clear hfz20_1
              try clear hfz20_2
              try clear hfz20_3
              try clear hfz20_4
              try clear hfz23_0
              try clear hfz23_1
              try clear hfz23_2
              try clear hfz23_3
              try clear hfz23_4
              try clear hfz24_0
              try clear hfz24_1
              try clear hfz24_2
              try clear hfz24_3
              try clear hfz24_4
              try clear hfz27_0
              try clear hfz27_1
              try clear hfz27_2
              try clear hfz27_3
              try clear hfz27_4
              try clear hfz30_0
              try clear hfz30_1
              try clear hfz30_2
              try clear hfz30_3
              try clear hfz30_4
              try clear hfz32_0
              try clear hfz32_1
              try clear hfz32_2
              try clear hfz32_3
              try clear hfz32_4
              try clear hfz9_0
              try clear hfz9_1
              try clear hfz9_2
              try clear hfz9_3
              try clear hfz9_4
              try clear p2
              try clear p6
              obtain ⟨x31_3, x181001_3, u181001, rfl, HA, HK3, HO_29, HO_181001, HO_181002, BK180, BK181, HB⟩ := hrel
              cases gk with
              | zero => exact absurd HA.out (by simp [cambiumref03_Flush.l0])
              | succ k3 =>
                have H := HA.out
                clear HA
                simp only [cambiumref03_Flush.l0] at H
                by_cases c33 : x31_3 < (t187.length : Int)
                · rw [if_pos c33] at H
                  have c33b0 : decide (x31_3 < (t187.length : Int)) = true := decide_eq_true c33
                  clear c33
                  by_cases c34 : 0 ≤ x31_3
                  · rw [if_pos c34] at H
                    have c34b0 : decide (0 ≤ x31_3) = true := decide_eq_true c34
                    clear c34
                    by_cases c35 : x31_3 < (t187.length : Int)
                    · rw [if_pos c35] at H
                      have c35b0 : decide (x31_3 < (t187.length : Int)) = true := decide_eq_true c35
                      clear c35
                      replace H := Option.bind_eq_some_iff.mp H
                      obtain ⟨t194, A360, H⟩ := H
                      replace H : (cambiumref03_Flush.l0 k3 t187 (t187.length : Int) (wrap64 (x31_3 + 1)) t183 t194 t187 t190 x181004_24) = some (r1, r2, r3, r4, r5, r6) := H
                      have A36 := Aside0.mk A360
                      clear A360
                      have H' := Aside0.mk H
                      clear H
                      have p192 : 0 ≤ (x31_3 : Int) := of_decide_eq_true (by first | (with_reducible assumption) | assumption)
                      have q192 : x31_3 < (t187.length : Int) := of_decide_eq_true (by first | (with_reducible assumption) | assumption)
                      obtain ⟨ad192, e192, hx192_0, hx192_1⟩ := at_T39 (Kd.R_reads' HO_29.out).2.2 x31_3 p192 q192
                      cases e192
                      replace p192 := eq_true p192
                      replace q192 := eq_true q192
                      go_wp2_with (first | ((with_reducible refine gate_dst (N := 5) rfl ?_); refine bx_ (N := 5) (cs := #[.int .u32 0, .string (⟨#[]⟩ : ByteArray)]) (t := 39) ?_; intro gb193 hg w37 hbox hb; have BK193 := Aside0.mk (hbox); have GW193 := ge_ hg; have GE193 := ge_ hg; have NB180_193 := nl_ BK180 hg; have NB193_180 := ng_ BK180 hg; have NB181_193 := nl_ BK181 hg; have NB193_181 := ng_ BK181 hg; replace HO_29 := Aside0.mk (Kd.R_below (Kd.R_elderB (ra_ HO_29) gb193 (Nat.le_of_eq hg.symm)) hb); replace HO_181001 := Aside0.mk (Kd.R_below (Kd.R_elderB (ra_ HO_181001) gb193 (Nat.le_of_eq hg.symm)) hb); replace HO_181002 := Aside0.mk (Kd.R_below (Kd.R_elderB (ra_ HO_181002) gb193 (Nat.le_of_eq hg.symm)) hb); replace BK180 := kb_ BK180 hb; replace BK181 := kb_ BK181 hb; replace HB := hb_ hb; clear hb hbox hg; have hnb38 := NB193_180.out; have hnc38 := NB180_193.out; have hnb39 := NB193_181.out; have hnc39 := NB181_193.out; obtain ⟨hcz40_0, hcz40_1⟩ := cl2_ BK193; obtain ⟨hfz40_0, hfz40_1⟩ := fz2_ BK193; have hnb41 := NB180_181.out; have hnc41 := NB181_180.out; obtain ⟨hcz42_0, hcz42_1, hcz42_2, hcz42_3, hcz42_4⟩ := cl5_ BK180; obtain ⟨hfz42_0, hfz42_1, hfz42_2, hfz42_3, hfz42_4⟩ := fz5_ BK180; obtain ⟨Ao43, co43, eo43⟩ := Kd.R_slice HO_181001.out; subst eo43) | ((with_reducible refine gate_callee (f := 32) rfl ?_); refine gl_ (some 38) Tryd.func32 #[.slice Ao43 x181001_3.length co43, .agg #[.int .u32 ((rd_T39 t187 x31_3).f0), .string ((rd_T39 t187 x31_3).f1)]] ?_; (with_reducible refine (cambiumref03_put.calls k3 _ _ x181001_3 ((rd_T39 t187 x31_3).f0) ((rd_T39 t187 x31_3).f1) t194 _ ?side1 ?side2 A36.out).mono ?_); (case side1 => refine (Kd.R_reads' (e := 39) (base := w.heap.size) (ok := fun k_ => ((some k_ ≠ (.slice (some ad192) t187.length co15 : Value).ownBlock ∧ some k_ ≠ (.slice (some ad192) t187.length co15 : Value).ownBlock) ∧ k_ ≠ gb193)) (n := x181001_3.length) (c := co43) ?_).2.2; exact (by (with_reducible repeat (first | apply Kd.R_alloc | apply Kd.R_drewN | apply Kd.R_drew)); exact (Kd.R_mono (Kd.R_far (p := ⟨gb193, 1, none⟩) (Kd.R_far (p := ⟨gb193, 0, none⟩) (Kd.R_mono HO_181001.out (fun k_ hk => (⟨hk, hk.2⟩ : _ ∧ k_ ≠ gb193))) (fun _ hk => hk.2) (.int .u32 ((rd_T39 t187 x31_3).f0))) (fun _ hk => hk.2) (.string ((rd_T39 t187 x31_3).f1))) (fun _ h_ => h_.1)))); (case side2 => exact (Kd.R_reads' HO_181001.out).2.1); rintro e w44 ⟨v195, rfl, ho0, hb⟩; refine ⟨_, rfl, ?_⟩; have HO196 := Aside0.mk (Kd.R_lower (Kd.R_newB (Kd.R_new' (Kd.R_new' (Kd.R_new' ho0 (Kd.R_lt (by (with_reducible repeat (first | apply Kd.R_alloc | apply Kd.R_drewN | apply Kd.R_drew)); exact (Kd.R_mono (Kd.R_far (p := ⟨gb193, 1, none⟩) (Kd.R_far (p := ⟨gb193, 0, none⟩) (Kd.R_mono HO_29.out (fun k_ hk => (⟨hk, hk.2⟩ : _ ∧ k_ ≠ gb193))) (fun _ hk => hk.2) (.int .u32 ((rd_T39 t187 x31_3).f0))) (fun _ hk => hk.2) (.string ((rd_T39 t187 x31_3).f1))) (fun _ h_ => h_.1))))) (Kd.R_lt (by (with_reducible repeat (first | apply Kd.R_alloc | apply Kd.R_drewN | apply Kd.R_drew)); exact (Kd.R_mono (Kd.R_far (p := ⟨gb193, 1, none⟩) (Kd.R_far (p := ⟨gb193, 0, none⟩) (Kd.R_mono HO_181001.out (fun k_ hk => (⟨hk, hk.2⟩ : _ ∧ k_ ≠ gb193))) (fun _ hk => hk.2) (.int .u32 ((rd_T39 t187 x31_3).f0))) (fun _ hk => hk.2) (.string ((rd_T39 t187 x31_3).f1))) (fun _ h_ => h_.1))))) (Kd.R_lt (by (with_reducible repeat (first | apply Kd.R_alloc | apply Kd.R_drewN | apply Kd.R_drew)); exact (Kd.R_mono (Kd.R_far (p := ⟨gb193, 1, none⟩) (Kd.R_far (p := ⟨gb193, 0, none⟩) (Kd.R_mono HO_181002.out (fun k_ hk => (⟨hk, hk.2⟩ : _ ∧ k_ ≠ gb193))) (fun _ hk => hk.2) (.int .u32 ((rd_T39 t187 x31_3).f0))) (fun _ hk => hk.2) (.string ((rd_T39 t187 x31_3).f1))) (fun _ h_ => h_.1))))) (g := gb193) (o := .cells #[.int .u32 ((rd_T39 t187 x31_3).f0), .string ((rd_T39 t187 x31_3).f1)] 39 (0, 0)) (bs_)) (below_size bel_)); replace HO_29 := Aside0.mk (Kd.R_elder' (by (with_reducible repeat (first | apply Kd.R_alloc | apply Kd.R_drewN | apply Kd.R_drew)); exact (Kd.R_mono (Kd.R_far (p := ⟨gb193, 1, none⟩) (Kd.R_far (p := ⟨gb193, 0, none⟩) (Kd.R_mono HO_29.out (fun k_ hk => (⟨hk, hk.2⟩ : _ ∧ k_ ≠ gb193))) (fun _ hk => hk.2) (.int .u32 ((rd_T39 t187 x31_3).f0))) (fun _ hk => hk.2) (.string ((rd_T39 t187 x31_3).f1))) (fun _ h_ => h_.1))) (Kd.R_base ho0) hb); replace HO_181001 := Aside0.mk (Kd.R_elder' (by (with_reducible repeat (first | apply Kd.R_alloc | apply Kd.R_drewN | apply Kd.R_drew)); exact (Kd.R_mono (Kd.R_far (p := ⟨gb193, 1, none⟩) (Kd.R_far (p := ⟨gb193, 0, none⟩) (Kd.R_mono HO_181001.out (fun k_ hk => (⟨hk, hk.2⟩ : _ ∧ k_ ≠ gb193))) (fun _ hk => hk.2) (.int .u32 ((rd_T39 t187 x31_3).f0))) (fun _ hk => hk.2) (.string ((rd_T39 t187 x31_3).f1))) (fun _ h_ => h_.1))) (Kd.R_base ho0) hb); replace HO_181002 := Aside0.mk (Kd.R_elder' (by (with_reducible repeat (first | apply Kd.R_alloc | apply Kd.R_drewN | apply Kd.R_drew)); exact (Kd.R_mono (Kd.R_far (p := ⟨gb193, 1, none⟩) (Kd.R_far (p := ⟨gb193, 0, none⟩) (Kd.R_mono HO_181002.out (fun k_ hk => (⟨hk, hk.2⟩ : _ ∧ k_ ≠ gb193))) (fun _ hk => hk.2) (.int .u32 ((rd_T39 t187 x31_3).f0))) (fun _ hk => hk.2) (.string ((rd_T39 t187 x31_3).f1))) (fun _ h_ => h_.1))) (Kd.R_base ho0) hb); replace BK180 := Aside0.mk (blk_below (g := gb180) (o := .cells #[.int .u32 t183, .slice Ao43 x181001_3.length co43, .slice (some ad192) t187.length co15, .bool t190, .int .i64 x181004_24] 25 (0, 0)) (bs_) hb); replace BK181 := Aside0.mk (blk_below (g := gb181) (o := .cells #[.int .u32 0, .slice none 0 0, .slice none 0 0, .bool false, .int .i64 0] 25 (0, 0)) (bs_) hb); replace BK193 := Aside0.mk (blk_below (g := gb193) (o := .cells #[.int .u32 ((rd_T39 t187 x31_3).f0), .string ((rd_T39 t187 x31_3).f1)] 39 (0, 0)) (bs_) hb); replace HB := hb_ hb; (try clear hb); (try clear hb2); (try clear hk); (try clear hi); (try clear ho0); obtain ⟨Ao45, co45, eo45⟩ := Kd.R_slice HO196.out; subst eo45; obtain ⟨hcz46_0, hcz46_1, hcz46_2, hcz46_3, hcz46_4⟩ := cl5_ BK180; obtain ⟨hfz46_0, hfz46_1, hfz46_2, hfz46_3, hfz46_4⟩ := fz5_ BK180))
                      go_roundg k3
                      case measure => have := HJ4.out; have := HJ24.out; have := HK3.out; omega
                      case rel => exact ⟨(wrap64 (x31_3 + 1)), (t194), (.slice Ao45 t194.length co45), (by first | rfl | (simp; done) | (simp [*]; done)), H', ⟨by have := HJ4.out; have := HJ24.out; have := HK3.out; omega⟩, ⟨by (with_reducible repeat (first | apply Kd.R_alloc | apply Kd.R_drewN | apply Kd.R_drew)); exact Kd.R_mono (Kd.R_far (p := ⟨gb180, 1, none⟩) (Kd.R_types HO_29.out BK180.out (by decide)) (fun _ hk => hk.2) (.slice Ao45 t194.length co45)) (fun _ hk => hk.1.2)⟩, ⟨by (with_reducible repeat (first | apply Kd.R_alloc | apply Kd.R_drewN | apply Kd.R_drew)); exact Kd.R_mono (Kd.R_far (p := ⟨gb180, 1, none⟩) (Kd.R_types HO196.out BK180.out (by decide)) (fun _ hk => hk.2) (.slice Ao45 t194.length co45)) (fun _ hk => ⟨hk.1.1.1.1.2, hk.1.1.2⟩)⟩, ⟨by (with_reducible repeat (first | apply Kd.R_alloc | apply Kd.R_drewN | apply Kd.R_drew)); exact Kd.R_mono (Kd.R_far (p := ⟨gb180, 1, none⟩) (Kd.R_types HO_181002.out BK180.out (by decide)) (fun _ hk => hk.2) (.slice Ao45 t194.length co45)) (fun _ hk => hk.1.2)⟩, ⟨bs_⟩, ⟨bs_⟩, ⟨bel_⟩⟩
                    rw [if_neg c35] at H
                    exact absurd H (by simp)
                  rw [if_neg c34] at H
                  exact absurd H (by simp)
                rw [if_neg c33] at H
                have c33b0 : decide (x31_3 < (t187.length : Int)) = false := decide_eq_false c33
                clear c33
                simp only [Option.some.injEq, Prod.mk.injEq] at H
                obtain ⟨rfl, rfl, rfl, rfl, rfl, rfl⟩ := H
                have hnb47 := NB180_181.out
                have hnc47 := NB181_180.out
                obtain ⟨hcz48_0, hcz48_1, hcz48_2, hcz48_3, hcz48_4⟩ := cl5_ BK180
                obtain ⟨hfz48_0, hfz48_1, hfz48_2, hfz48_3, hfz48_4⟩ := fz5_ BK180
                obtain ⟨hcz49_0, hcz49_1, hcz49_2, hcz49_3, hcz49_4⟩ := cl5_ BK181
                obtain ⟨hfz49_0, hfz49_1, hfz49_2, hfz49_3, hfz49_4⟩ := fz5_ BK181
                obtain ⟨Ao50, co50, eo50⟩ := Kd.R_slice HO_181001.out
                subst eo50
                go_wp2
                refine bodyPost_ret (results_ct rfl _ _ gb181 25 #[.int .u32 t183, .slice Ao50 x181001_3.length co50, .slice none 0 0, .bool t190, .int .i64 x181004_24] (0, 0) _ rfl (bs_) Tryd.underlying25 rfl (by kernel_rfl)) rfl ?_
                exact ⟨_, _, by first | rfl | (simp [errW_none, errW_some] <;> rfl) | (simp [*, errW_none, errW_some] <;> rfl), by (with_reducible repeat (first | apply Kd.R_alloc | apply Kd.R_drewN | apply Kd.R_drew)); exact Kd.R_mono (Kd.R_far (p := ⟨gb181, 4, none⟩) (Kd.R_far (p := ⟨gb181, 3, none⟩) (Kd.R_far (p := ⟨gb181, 2, none⟩) (Kd.R_far (p := ⟨gb181, 1, none⟩) (Kd.R_far (p := ⟨gb181, 0, none⟩) (Kd.R_far (p := ⟨gb180, 2, none⟩) (Kd.R_types (Kd.R_types HO_181001.out BK180.out (by decide)) BK181.out (by decide)) (fun _ hk => hk.1.2) (.slice none 0 0)) (fun _ hk => hk.2) (.int .u32 t183)) (fun _ hk => hk.2) (.slice Ao50 x181001_3.length co50)) (fun _ hk => hk.2) (.slice none 0 0)) (fun _ hk => hk.2) (.bool t190)) (fun _ hk => hk.2) (.int .i64 x181004_24)) (fun _ hk => (by simp [Value.ownBlock])), by first | exact Kd.R_nil _ _ _ _ _ | exact Kd.N_nil _ _ _ _ _ | exact Kd.V_nil _ _ _ _ _ | exact Kd.Q_nil _ _ _ _ _ | exact Kd.S_nil _ _ _ _ _, bel_⟩
  rw [if_neg c3] at H
  have c3b0 : (t182 == 0) = false := beq_eq_false_iff_ne.mpr c3
  have c3b1 : (t182 != 0) = true := bne_iff_ne.mpr c3
  simp only [Option.some.injEq, Prod.mk.injEq] at H
  obtain ⟨rfl, rfl, rfl, rfl, rfl, rfl⟩ := H
  go_enter Tryd.func16, Tryd.ntmps16
  go_wp2_with (first | ((with_reducible refine gate_dst (N := 1) rfl ?_); refine bx_ (N := 1) (cs := #[.int .u32 a0_0, .slice A0_1 l0_1.length c0_1, .slice A0_2 l0_2.length c0_2, .bool a0_3, .int .i64 a0_4]) (t := 25) ?_; intro gb180 hg w51 hbox hb; have BK180 := Aside0.mk (hbox); have GW180 := ge_ hg; have GE180 := ge_ hg; replace HB := hb_ hb; clear hb hbox hg) | ((with_reducible refine gate_dst (N := 2) rfl ?_); refine bx_ (N := 2) (cs := #[.int .u32 0, .slice none 0 0, .slice none 0 0, .bool false, .int .i64 0]) (t := 25) ?_; intro gb181 hg w52 hbox hb; have BK181 := Aside0.mk (hbox); have GW181 := ge_ hg; have GE181 := ge_ hg; have NB180_181 := nl_ BK180 hg; have NB181_180 := ng_ BK180 hg; replace BK180 := kb_ BK180 hb; replace HB := hb_ hb; clear hb hbox hg; have hnb53 := NB180_181.out; have hnc53 := NB181_180.out; obtain ⟨hcz54_0, hcz54_1, hcz54_2, hcz54_3, hcz54_4⟩ := cl5_ BK180; obtain ⟨hfz54_0, hfz54_1, hfz54_2, hfz54_3, hfz54_4⟩ := fz5_ BK180) | ((with_reducible refine gate_callee (f := 22) rfl ?_); refine gl_ (some 7) Tryd.func22 #[.agg #[.int .u32 a0_0, .slice A0_1 l0_1.length c0_1, .slice A0_2 l0_2.length c0_2, .bool a0_3, .int .i64 a0_4]] ?_; (with_reducible refine (cambiumref03_Check.calls k a0_0 _ _ l0_1 _ _ l0_2 a0_3 a0_4 t182 _ ?side1 ?side2 ?side3 ?side4 A2.out).mono ?_); (case side1 => exact cb_ HR0_1); (case side2 => exact HC0_1.out); (case side3 => exact cb_ HR0_2); (case side4 => exact HC0_2.out); rintro e w55 ⟨rfl, hb⟩; refine ⟨_, rfl, ?_⟩; replace BK180 := kb_ BK180 hb; replace BK181 := kb_ BK181 hb; replace HB := hb_ hb; (try clear hb); (try clear hb2); (try clear hk); (try clear hi); obtain ⟨hcz56_0, hcz56_1, hcz56_2, hcz56_3, hcz56_4⟩ := cl5_ BK181; obtain ⟨hfz56_0, hfz56_1, hfz56_2, hfz56_3, hfz56_4⟩ := fz5_ BK181))
  refine bodyPost_ret (results_ct rfl _ _ gb181 25 #[.int .u32 0, .slice none 0 0, .slice none 0 0, .bool false, .int .i64 0] (0, 0) _ rfl (bs_) Tryd.underlying25 rfl (by kernel_rfl)) rfl ?_
  exact ⟨_, _, by first | rfl | (simp [errW_none, errW_some] <;> rfl) | (simp [*, errW_none, errW_some] <;> rfl), by first | exact Kd.R_nil _ _ _ _ _ | exact Kd.N_nil _ _ _ _ _ | exact Kd.V_nil _ _ _ _ _ | exact Kd.Q_nil _ _ _ _ _ | exact Kd.S_nil _ _ _ _ _, by first | exact Kd.R_nil _ _ _ _ _ | exact Kd.N_nil _ _ _ _ _ | exact Kd.V_nil _ _ _ _ _ | exact Kd.Q_nil _ _ _ _ _ | exact Kd.S_nil _ _ _ _ _, bel_⟩

end Go.Proofs.YtcphflfjhkeooaaDoor.Z
end

section
-- Printed by a program of this session (mp.py) out of the translation.
namespace Go.Proofs.YtcphflfjhkeooaaDoor.Z
open Go.RowKit Go.Proofs.YtcphflfjhkeooaaDoorW.PrintWords Go.Proofs.YtcphflfjhkeooaaDoorW.PrintLast Go.Proofs.YtcphflfjhkeooaaDoorW.PrintMore
attribute [local go_sem] max2_int min2_int max_two min_two max_three min_three max_four min_four   -- for this text's walks alone
set_option linter.unusedVariables false
set_option linter.unusedSimpArgs false

/-! ### cambiumref03_Read: function 18 -/
def cambiumref03_Read.l0 : Nat → Int → ByteArray → List (S39) → Int → Int → Option (ByteArray × Int)
  | 0, _, _, _, _, _ => none
  | k + 1, x1, x6, x27, x28, x29 => if x29 < x28 then (if 0 ≤ x29 then (if x29 < (x27.length : Int) then (if ((rd_T39 x27 x29).f0) = x1 then (cambiumref03_Read.l0 k x1 ((rd_T39 x27 x29).f1) x27 x28 (wrap64 (x29 + 1))) else (cambiumref03_Read.l0 k x1 x6 x27 x28 (wrap64 (x29 + 1)))) else (none)) else (none)) else (some (x6, 0))
def cambiumref03_Read.f (k : Nat) (a0_0 : Int) (l0_1 : List (S39)) (l0_2 : List (S39)) (a0_3 : Bool) (a0_4 : Int) (a1 : Int) : Option (ByteArray × Int) := (cambiumref03_Check.f k a0_0 l0_1 l0_2 a0_3 a0_4).bind fun t198 => (if t198 = 0 then (if a0_3 = true then (some ((⟨#[]⟩ : ByteArray), 17)) else (if a1 ≥ a0_0 then (some ((⟨#[]⟩ : ByteArray), 1)) else ((some (([] : List (S39)) : List (S39))).bind fun y199 => (if y199.length + l0_1.length < 5864062014805 then ((some (y199 ++ l0_1 : List (S39))).bind fun y202 => (if y202.length + l0_2.length < 5864062014805 then ((some (y202 ++ l0_2 : List (S39))).bind fun y205 => (cambiumref03_Read.l0 k a1 (⟨#[]⟩ : ByteArray) y205 (y205.length : Int) 0)) else (none))) else (none))))) else (some ((⟨#[]⟩ : ByteArray), 7)))
theorem cambiumref03_Read.mono_l : ∀ k, (∀ y0 y1 y2 y3 y4, LeO (cambiumref03_Read.l0 k y0 y1 y2 y3 y4) (cambiumref03_Read.l0 (k + 1) y0 y1 y2 y3 y4))
  | 0 => fun _ _ _ _ _ r h => by simp [cambiumref03_Read.l0] at h
  | k + 1 => by
    have ih0 := cambiumref03_Read.mono_l k
    · intro y0 y1 y2 y3 y4
      unfold cambiumref03_Read.l0
      repeat' first
      | (with_reducible exact ih0 _ _ _ _ _)
      | (with_reducible exact cambiumref03_Check.mono _ _ _ _ _ _)
      | (with_reducible exact LeO.refl _)
      | (with_reducible exact LeO.none _)
      | (with_reducible refine LeO.ite ?_ ?_)
      | (with_reducible refine LeO.bind ?_ (fun _ => ?_))
      | exact ih0 _ _ _ _ _
      | exact cambiumref03_Check.mono _ _ _ _ _ _
      | exact LeO.none _
      | refine LeO.ite ?_ ?_
      | refine LeO.bind ?_ (fun _ => ?_)
theorem cambiumref03_Read.mono : ∀ a0 a1 a2 a3 a4 a5 k, LeO (cambiumref03_Read.f k a0 a1 a2 a3 a4 a5) (cambiumref03_Read.f (k + 1) a0 a1 a2 a3 a4 a5) := by
  intro a0 a1 a2 a3 a4 a5 k
  have ih0 := cambiumref03_Read.mono_l k
  unfold cambiumref03_Read.f
  repeat' first
      | (with_reducible exact ih0 _ _ _ _ _)
      | (with_reducible exact cambiumref03_Check.mono _ _ _ _ _ _)
      | (with_reducible exact LeO.refl _)
      | (with_reducible exact LeO.none _)
      | (with_reducible refine LeO.ite ?_ ?_)
      | (with_reducible refine LeO.bind ?_ (fun _ => ?_))
      | exact ih0 _ _ _ _ _
      | exact cambiumref03_Check.mono _ _ _ _ _ _
      | exact LeO.none _
      | refine LeO.ite ?_ ?_
      | refine LeO.bind ?_ (fun _ => ?_)
def cambiumref03_Read.T8 : Bool × List (List Nat × List Nat) := (true, [([], []), ([], []), ([1], [1]), ([0, 2], [0, 2]), ([], []), ([4], [4]), ([3, 5, 3], [3, 5]), ([6], [6]), ([], [])])
def cambiumref03_Read.B8 : List Nat := [0, 0, 2, 7, 0, 16, 63, 127, 0]
theorem cambiumref03_Read.tab8 : rtab .any (opsOf Tryd.f18 8) = cambiumref03_Read.T8 := by kernel_rfl
theorem cambiumref03_Read.bits8 : waitsOk cambiumref03_Read.T8.2 cambiumref03_Read.B8 = true := by kernel_rfl
set_option maxHeartbeats 8000000 in
set_option maxRecDepth 100000 in
theorem cambiumref03_Read.calls (k : Nat) (a0_0 : Int) (A0_1 : Option Addr) (c0_1 : Nat) (l0_1 : List (S39)) (A0_2 : Option Addr) (c0_2 : Nat) (l0_2 : List (S39)) (a0_3 : Bool) (a0_4 : Int) (a1 : Int) (r1 : ByteArray) (r2 : Int) (w : World) (hr0_1 : Kd.C k39 w A0_1 l0_1.length l0_1) (hc0_1 : l0_1.length ≤ c0_1) (hr0_2 : Kd.C k39 w A0_2 l0_2.length l0_2) (hc0_2 : l0_2.length ≤ c0_2) (h : cambiumref03_Read.f k a0_0 l0_1 l0_2 a0_3 a0_4 a1 = some (r1, r2)) :
    Calls Tryd.prog 18 #[.agg #[.int .u32 a0_0, .slice A0_1 l0_1.length c0_1, .slice A0_2 l0_2.length c0_2, .bool a0_3, .int .i64 a0_4], .int .u32 a1] w fun e w' => e = .returned (.tuple #[.string r1, .int .i64 r2]) ∧ Below w.heap.size w w' := by
  have hu25 := Tryd.underlying25
  have hu39 := Tryd.underlying39
  have HR0_1 := Aside0.mk hr0_1
  have HC0_1 := Aside0.mk hc0_1
  clear hr0_1 hc0_1
  have HR0_2 := Aside0.mk hr0_2
  have HC0_2 := Aside0.mk hc0_2
  clear hr0_2 hc0_2
  have HB := Aside0.mk (Below.refl w.heap.size w)
  have H : ((cambiumref03_Check.f k a0_0 l0_1 l0_2 a0_3 a0_4).bind fun t198 => (if t198 = 0 then (if a0_3 = true then (some ((⟨#[]⟩ : ByteArray), 17)) else (if a1 ≥ a0_0 then (some ((⟨#[]⟩ : ByteArray), 1)) else ((some (([] : List (S39)) : List (S39))).bind fun y199 => (if y199.length + l0_1.length < 5864062014805 then ((some (y199 ++ l0_1 : List (S39))).bind fun y202 => (if y202.length + l0_2.length < 5864062014805 then ((some (y202 ++ l0_2 : List (S39))).bind fun y205 => (cambiumref03_Read.l0 k a1 (⟨#[]⟩ : ByteArray) y205 (y205.length : Int) 0)) else (none))) else (none))))) else (some ((⟨#[]⟩ : ByteArray), 7)))) = some (r1, r2) := h
  clear h
  replace H := Option.bind_eq_some_iff.mp H
  obtain ⟨t198, A30, H⟩ := H
  replace H : (if t198 = 0 then (if a0_3 = true then (some ((⟨#[]⟩ : ByteArray), 17)) else (if a1 ≥ a0_0 then (some ((⟨#[]⟩ : ByteArray), 1)) else ((some (([] : List (S39)) : List (S39))).bind fun y199 => (if y199.length + l0_1.length < 5864062014805 then ((some (y199 ++ l0_1 : List (S39))).bind fun y202 => (if y202.length + l0_2.length < 5864062014805 then ((some (y202 ++ l0_2 : List (S39))).bind fun y205 => (cambiumref03_Read.l0 k a1 (⟨#[]⟩ : ByteArray) y205 (y205.length : Int) 0)) else (none))) else (none))))) else (some ((⟨#[]⟩ : ByteArray), 7))) = some (r1, r2) := H
  have A3 := Aside0.mk A30
  clear A30
  by_cases c4 : t198 = 0
  · rw [if_pos c4] at H
    have c4b0 : (t198 == 0) = true := beq_iff_eq.mpr c4
    have c4b1 : (t198 != 0) = false := bne_eq_false_iff_eq.mpr c4
    clear c4
    by_cases c5 : a0_3 = true
    · subst c5
      have H1 : (some ((⟨#[]⟩ : ByteArray), 17)) = some (r1, r2) := by rw [if_pos rfl] at H; exact H
      clear H
      have H := H1
      clear H1
      simp only [Option.some.injEq, Prod.mk.injEq] at H
      obtain ⟨rfl, rfl⟩ := H
      go_enter Tryd.func18, Tryd.ntmps18
      go_wp2_with (first | ((with_reducible refine gate_dst (N := 2) rfl ?_); refine bx_ (N := 2) (cs := #[.int .u32 a0_0, .slice A0_1 l0_1.length c0_1, .slice A0_2 l0_2.length c0_2, .bool true, .int .i64 a0_4]) (t := 25) ?_; intro gb197 hg w6 hbox hb; have BK197 := Aside0.mk (hbox); have GW197 := ge_ hg; have GE197 := ge_ hg; replace HB := hb_ hb; clear hb hbox hg; obtain ⟨hcz7_0, hcz7_1, hcz7_2, hcz7_3, hcz7_4⟩ := cl5_ BK197; obtain ⟨hfz7_0, hfz7_1, hfz7_2, hfz7_3, hfz7_4⟩ := fz5_ BK197) | ((with_reducible refine gate_callee (f := 22) rfl ?_); refine gl_ (some 11) Tryd.func22 #[.agg #[.int .u32 a0_0, .slice A0_1 l0_1.length c0_1, .slice A0_2 l0_2.length c0_2, .bool true, .int .i64 a0_4]] ?_; (with_reducible refine (cambiumref03_Check.calls k a0_0 _ _ l0_1 _ _ l0_2 true a0_4 t198 _ ?side1 ?side2 ?side3 ?side4 A3.out).mono ?_); (case side1 => exact cb_ HR0_1); (case side2 => exact HC0_1.out); (case side3 => exact cb_ HR0_2); (case side4 => exact HC0_2.out); rintro e w8 ⟨rfl, hb⟩; refine ⟨_, rfl, ?_⟩; replace BK197 := kb_ BK197 hb; replace HB := hb_ hb; (try clear hb); (try clear hb2); (try clear hk); (try clear hi); obtain ⟨hcz9_0, hcz9_1, hcz9_2, hcz9_3, hcz9_4⟩ := cl5_ BK197; obtain ⟨hfz9_0, hfz9_1, hfz9_2, hfz9_3, hfz9_4⟩ := fz5_ BK197))
      go_ret2
      exact ⟨by first | rfl | (simp [errW_none, errW_some] <;> rfl) | (simp [*, errW_none, errW_some] <;> rfl), bel_⟩
    replace c5 := Bool.eq_false_iff.mpr c5
    subst c5
    have H1 : (if a1 ≥ a0_0 then (some ((⟨#[]⟩ : ByteArray), 1)) else ((some (([] : List (S39)) : List (S39))).bind fun y199 => (if y199.length + l0_1.length < 5864062014805 then ((some (y199 ++ l0_1 : List (S39))).bind fun y202 => (if y202.length + l0_2.length < 5864062014805 then ((some (y202 ++ l0_2 : List (S39))).bind fun y205 => (cambiumref03_Read.l0 k a1 (⟨#[]⟩ : ByteArray) y205 (y205.length : Int) 0)) else (none))) else (none)))) = some (r1, r2) := by rw [if_neg (show ¬ (false = true) by decide)] at H; exact H
    clear H
    have H := H1
    clear H1
    by_cases c10 : a1 ≥ a0_0
    · rw [if_pos c10] at H
      have c10b0 : decide (a0_0 ≤ a1) = true := decide_eq_true c10
      clear c10
      simp only [Option.some.injEq, Prod.mk.injEq] at H
      obtain ⟨rfl, rfl⟩ := H
      go_enter Tryd.func18, Tryd.ntmps18
      go_wp2_with (first | ((with_reducible refine gate_dst (N := 2) rfl ?_); refine bx_ (N := 2) (cs := #[.int .u32 a0_0, .slice A0_1 l0_1.length c0_1, .slice A0_2 l0_2.length c0_2, .bool false, .int .i64 a0_4]) (t := 25) ?_; intro gb197 hg w11 hbox hb; have BK197 := Aside0.mk (hbox); have GW197 := ge_ hg; have GE197 := ge_ hg; replace HB := hb_ hb; clear hb hbox hg; obtain ⟨hcz12_0, hcz12_1, hcz12_2, hcz12_3, hcz12_4⟩ := cl5_ BK197; obtain ⟨hfz12_0, hfz12_1, hfz12_2, hfz12_3, hfz12_4⟩ := fz5_ BK197) | ((with_reducible refine gate_callee (f := 22) rfl ?_); refine gl_ (some 11) Tryd.func22 #[.agg #[.int .u32 a0_0, .slice A0_1 l0_1.length c0_1, .slice A0_2 l0_2.length c0_2, .bool false, .int .i64 a0_4]] ?_; (with_reducible refine (cambiumref03_Check.calls k a0_0 _ _ l0_1 _ _ l0_2 false a0_4 t198 _ ?side1 ?side2 ?side3 ?side4 A3.out).mono ?_); (case side1 => exact cb_ HR0_1); (case side2 => exact HC0_1.out); (case side3 => exact cb_ HR0_2); (case side4 => exact HC0_2.out); rintro e w13 ⟨rfl, hb⟩; refine ⟨_, rfl, ?_⟩; replace BK197 := kb_ BK197 hb; replace HB := hb_ hb; (try clear hb); (try clear hb2); (try clear hk); (try clear hi); obtain ⟨hcz14_0, hcz14_1, hcz14_2, hcz14_3, hcz14_4⟩ := cl5_ BK197; obtain ⟨hfz14_0, hfz14_1, hfz14_2, hfz14_3, hfz14_4⟩ := fz5_ BK197))
      go_ret2
      exact ⟨by first | rfl | (simp [errW_none, errW_some] <;> rfl) | (simp [*, errW_none, errW_some] <;> rfl), bel_⟩
    rw [if_neg c10] at H
    have c10b0 : decide (a0_0 ≤ a1) = false := decide_eq_false c10
    clear c10
    obtain ⟨y199, hy199⟩ : ∃ y_ : List (S39), y_ = (([] : List (S39))) := ⟨_, rfl⟩
    replace H : (if y199.length + l0_1.length < 5864062014805 then ((some (y199 ++ l0_1 : List (S39))).bind fun y202 => (if y202.length + l0_2.length < 5864062014805 then ((some (y202 ++ l0_2 : List (S39))).bind fun y205 => (cambiumref03_Read.l0 k a1 (⟨#[]⟩ : ByteArray) y205 (y205.length : Int) 0)) else (none))) else (none)) = some (r1, r2) := by first | (rw [hy199]; with_reducible exact H) | (have H2_ := (Option.bind_some _ _).symm.trans H; rw [hy199]; with_reducible exact H2_) | (have H2_ := (Option.bind_some _ _).symm.trans H; with_reducible exact H2_) | with_reducible exact H | (rw [hy199]; exact H) | exact H
    have Ny199 := Aside0.mk hy199
    clear hy199
    by_cases c15 : y199.length + l0_1.length < 5864062014805
    · rw [if_pos c15] at H
      have LMc15 := Aside0.mk c15
      clear c15
      obtain ⟨y202, hy202⟩ : ∃ y_ : List (S39), y_ = (y199 ++ l0_1) := ⟨_, rfl⟩
      replace H : (if y202.length + l0_2.length < 5864062014805 then ((some (y202 ++ l0_2 : List (S39))).bind fun y205 => (cambiumref03_Read.l0 k a1 (⟨#[]⟩ : ByteArray) y205 (y205.length : Int) 0)) else (none)) = some (r1, r2) := by first | (rw [hy202]; with_reducible exact H) | (have H2_ := (Option.bind_some _ _).symm.trans H; rw [hy202]; with_reducible exact H2_) | (have H2_ := (Option.bind_some _ _).symm.trans H; with_reducible exact H2_) | with_reducible exact H | (rw [hy202]; exact H) | exact H
      have Ny202 := Aside0.mk hy202
      clear hy202
      by_cases c16 : y202.length + l0_2.length < 5864062014805
      · rw [if_pos c16] at H
        have LMc16 := Aside0.mk c16
        clear c16
        obtain ⟨y205, hy205⟩ : ∃ y_ : List (S39), y_ = (y202 ++ l0_2) := ⟨_, rfl⟩
        replace H : (cambiumref03_Read.l0 k a1 (⟨#[]⟩ : ByteArray) y205 (y205.length : Int) 0) = some (r1, r2) := by first | (rw [hy205]; with_reducible exact H) | (have H2_ := (Option.bind_some _ _).symm.trans H; rw [hy205]; with_reducible exact H2_) | (have H2_ := (Option.bind_some _ _).symm.trans H; with_reducible exact H2_) | with_reducible exact H | (rw [hy205]; exact H) | exact H
        have Ny205 := Aside0.mk hy205
        clear hy205
        have H' := Aside0.mk H
        clear H
        go_enter Tryd.func18, Tryd.ntmps18
        try go_wp2_with (first | ((with_reducible refine gate_dst (N := 2) rfl ?_); refine bx_ (N := 2) (cs := #[.int .u32 a0_0, .slice A0_1 l0_1.length c0_1, .slice A0_2 l0_2.length c0_2, .bool false, .int .i64 a0_4]) (t := 25) ?_; intro gb197 hg w17 hbox hb; have BK197 := Aside0.mk (hbox); have GW197 := ge_ hg; have GE197 := ge_ hg; replace HB := hb_ hb; clear hb hbox hg; obtain ⟨hcz18_0, hcz18_1, hcz18_2, hcz18_3, hcz18_4⟩ := cl5_ BK197; obtain ⟨hfz18_0, hfz18_1, hfz18_2, hfz18_3, hfz18_4⟩ := fz5_ BK197) | ((with_reducible refine gate_callee (f := 22) rfl ?_); refine gl_ (some 11) Tryd.func22 #[.agg #[.int .u32 a0_0, .slice A0_1 l0_1.length c0_1, .slice A0_2 l0_2.length c0_2, .bool false, .int .i64 a0_4]] ?_; (with_reducible refine (cambiumref03_Check.calls k a0_0 _ _ l0_1 _ _ l0_2 false a0_4 t198 _ ?side1 ?side2 ?side3 ?side4 A3.out).mono ?_); (case side1 => exact cb_ HR0_1); (case side2 => exact HC0_1.out); (case side3 => exact cb_ HR0_2); (case side4 => exact HC0_2.out); rintro e w19 ⟨rfl, hb⟩; refine ⟨_, rfl, ?_⟩; replace BK197 := kb_ BK197 hb; replace HB := hb_ hb; (try clear hb); (try clear hb2); (try clear hk); (try clear hi); obtain ⟨hcz20_0, hcz20_1, hcz20_2, hcz20_3, hcz20_4⟩ := cl5_ BK197; obtain ⟨hfz20_0, hfz20_1, hfz20_2, hfz20_3, hfz20_4⟩ := fz5_ BK197))
        replace BK197 := Aside0.mk (blk_drew BK197.out)
        replace HB := Aside0.mk (below_drew1 HB.out)
        refine start_ (n := 9) (S := fun w' => w'.cell? ⟨gb197, 0, none⟩ = some (.int .u32 a0_0) ∧ w'.cell? ⟨gb197, 1, none⟩ = some (.slice A0_1 l0_1.length c0_1) ∧ w'.cell? ⟨gb197, 2, none⟩ = some (.slice A0_2 l0_2.length c0_2) ∧ w'.cell? ⟨gb197, 3, none⟩ = some (.bool false) ∧ w'.cell? ⟨gb197, 4, none⟩ = some (.int .i64 a0_4)) (ds := []) #[false, false, false, false, false, false, false, false, false] (by kernel_rfl) rfl rfl hc_ (fun hHeld => ?_); refine with_tabW cambiumref03_Read.tab8 cambiumref03_Read.bits8 (fun HT_ HW_ => ?_)
        generalize w19.drew = w21 at BK197 HB hHeld ⊢
        refine pu_ 1 22 ?_
        refine pu_ 4 25 ?_
        refine pu_ 8 29 ?_
        refine tk5_ 2 23 ?_
        refine tk5_ 5 26 ?_
        refine on_ 0 21 (fun K hK => ?_)
        refine Kd.R_lit_step k39 _ 39 ?hg (N := 21) ?hd (xs := ([] : List (S39))) (inner := []) (ok := fun _ => True) (okp := fun _ => True) ?hr ?hp (fun _ hk => hk) trivial (Below.refl _ _) (Nat.le_refl _) (by simp) ?_; (case hd => rfl); (case hg => rfl); (case hr => first | (go_simp; done) | (go_simp; rfl)); (case hp => exact (Reps.none _ _))
        intro v200 w22 ho23 hb hg_ hnew_
        clear hg_ hnew_
        (first | rw [← Ny199.out] at ho23 | (simp only [Int.reduceToNat] at ho23; rw [← Ny199.out] at ho23))
        have HO201 := rl_ ho23
        replace BK197 := kb_ BK197 hb
        replace HB := hb_ hb
        clear hb ho23
        refine hK.out _ _ hc_ (fun hHeld => ?_)
        clear hK K
        refine nm_ 21 ?_
        refine on_ 3 24 (fun K hK => ?_)
        refine Kd.R_append_rows_step k39 (w0 := w) w.heap.size (by rfl) (.tmp 21) (.tmp 23) 23 39 (.agg #[(.int .u32 0), (.string ⟨#[]⟩)]) 24 rfl Tryd.underlying23 info39 rfl (by decide) (by omega) v200 y199 l0_1 _ _ _ (fun _ => True) (fun _ => False) rfl rfl ?aO ?aR (fun _ _ h => h) (fun _ h => h.elim) ?aF ?aB ?aS ?aL ?_
        (case aR => repeat (first | exact (Kd.C_below HR0_1.out HB.out) | (with_reducible refine Kd.C_alloc ?_ _) | (with_reducible refine Kd.C_drewN ?_ _) | (with_reducible refine Kd.C_drew ?_)))
        (case aB => exact bel_)
        (case aF => exact (fun _ _ => trivial))
        (case aO => exact (ra_ HO201))
        (case aS => exact (below_size bel_))
        (case aL => have := LMc15.out; omega)
        intro v203 w24 ho hb hg hat
        rw [← Ny202.out] at ho
        have HO204 := Aside0.mk (ho)
        replace BK197 := Aside0.mk (blk_grown (bk_ BK197) hg (Kd.R_ne HO201.out BK197.out (by decide)))
        replace HB := Aside0.mk (hb)
        clear HO201
        clear ho hb hg hat
        refine hK.out _ _ hc_ (fun hHeld => ?_)
        clear hK K
        refine nm_ 24 ?_
        refine on_ 6 27 (fun K hK => ?_)
        refine Kd.R_append_rows_step k39 (w0 := w) w.heap.size (by rfl) (.tmp 24) (.tmp 26) 23 39 (.agg #[(.int .u32 0), (.string ⟨#[]⟩)]) 24 rfl Tryd.underlying23 info39 rfl (by decide) (by omega) v203 y202 l0_2 _ _ _ (fun _ => True) (fun _ => False) rfl rfl ?aO ?aR (fun _ _ h => h) (fun _ h => h.elim) ?aF ?aB ?aS ?aL ?_
        (case aR => repeat (first | exact (Kd.C_below HR0_2.out HB.out) | (with_reducible refine Kd.C_alloc ?_ _) | (with_reducible refine Kd.C_drewN ?_ _) | (with_reducible refine Kd.C_drew ?_)))
        (case aB => exact bel_)
        (case aF => exact (fun _ _ => trivial))
        (case aO => exact (ra_ HO204))
        (case aS => exact (below_size bel_))
        (case aL => have := LMc16.out; omega)
        intro v206 w25 ho hb hg hat
        rw [← Ny205.out] at ho
        have HO207 := Aside0.mk (ho)
        replace BK197 := Aside0.mk (blk_grown (bk_ BK197) hg (Kd.R_ne HO204.out BK197.out (by decide)))
        replace HB := Aside0.mk (hb)
        clear HO204
        clear ho hb hg hat
        obtain ⟨Ao26, co26, eo26⟩ := Kd.R_slice HO207.out
        (first | subst eo26 | (injection eo26 with f1_ f2_ f3_; have f4_ := f1_.symm; have f5_ := f3_.symm; clear f1_ f2_ f3_; subst f4_; subst f5_))
        refine hK.out _ _ hc_ (fun hHeld => ?_)
        clear hK K
        refine nm_ 27 ?_
        refine pu_ 7 28 ?_
        refine done_ (done_of HT_.out (by kernel_rfl)) ?_
        try go_wp2
        go_loopg [6, 29] k (fun kq v6 v29 w' => ∃ (x6_1 : ByteArray) (x29_1 : Int), v6 = .string x6_1 ∧ v29 = .int .i64 x29_1 ∧ Aside0 (cambiumref03_Read.l0 kq a1 x6_1 y205 (y205.length : Int) x29_1 = some (r1, r2)) ∧ Aside0 (kq ≤ k) ∧ Aside0 (Kd.R k39 39 w' w.heap.size (fun _ => True) (.slice Ao26 y205.length co26) y205) ∧ Aside0 (w'.heap[gb197]? = some (.cells #[.int .u32 a0_0, (.slice A0_1 l0_1.length c0_1), (.slice A0_2 l0_2.length c0_2), .bool false, .int .i64 a0_4] 25 (0, 0))) ∧ Aside0 (Below w.heap.size w w'))
        case atStart => exact ⟨((⟨#[]⟩ : ByteArray)), (0), (by first | rfl | (simp; done) | (simp [*]; done)), (by first | rfl | (simp; done) | (simp [*]; done)), H', ⟨Nat.le_refl _⟩, ⟨ra_ HO207⟩, ⟨bk_ BK197⟩, ⟨bel_⟩⟩
        case round =>
          clear H'
          try clear c1
          try clear c2
          try clear p2
          try clear c4
          try clear c4b0
          try clear c4b1
          try clear c5
          try clear c10
          try clear c10b0
          try clear c15
          try clear c16
          try clear c18
          try clear c22
          try clear hcz12_0
          try clear hcz12_1
          try clear hcz12_2
          try clear hcz12_3
          try clear hcz12_4
          try clear hcz14_0
          try clear hcz14_1
          try clear hcz14_2
          try clear hcz14_3
          try clear hcz14_4
          try clear hcz18_0
          try clear hcz18_1
          try clear hcz18_2
          try clear hcz18_3
          try clear hcz18_4
          try clear hcz20_0
          try clear hcz20_1
          try clear hcz20_2
          try clear hcz20_3
          try clear hcz20_4
          try clear hcz7_0
          try clear hcz7_1
          try clear hcz7_2
          try clear hcz7_3
          try clear hcz7_4
          try clear hcz9_0
          try clear hcz9_1
          try clear hcz9_2
          try clear hcz9_3
          try clear hcz9_4
          try clear hfz12_0
          try clear hfz12_1
          try clear hfz12_2
          try clear hfz12_3
          try clear hfz12_4
          try clear hfz14_0
          try clear hfz14_1
          try clear hfz14_2
          try clear hfz14_3
          try clear hfz14_4
          try clear hfz18_0
          try clear hfz18_1
          try clear hfz18_2
          try clear hfz18_3
          try clear hfz18_4
          try clear hfz20_0
          try clear hfz20_1
          try clear hfz20_2
          try clear hfz20_3
          try clear hfz20_4
          try clear hfz7_0
          try clear hfz7_1
          try clear hfz7_2
          try clear hfz7_3
          try clear hfz7_4
          try clear hfz9_0
          try clear hfz9_1
          try clear hfz9_2
          try clear hfz9_3
          try clear hfz9_4
          obtain ⟨x6_1, x29_1, rfl, rfl, HA, HK1, HO_27, BK197, HB⟩ := hrel
          cases gk with
          | zero => exact absurd HA.out (by simp [cambiumref03_Read.l0])
          | succ k1 =>
            have H := HA.out
            clear HA
            simp only [cambiumref03_Read.l0] at H
            by_cases c27 : x29_1 < (y205.length : Int)
            · rw [if_pos c27] at H
              have c27b0 : decide (x29_1 < (y205.length : Int)) = true := decide_eq_true c27
              clear c27
              by_cases c28 : 0 ≤ x29_1
              · rw [if_pos c28] at H
                have c28b0 : decide (0 ≤ x29_1) = true := decide_eq_true c28
                clear c28
                by_cases c29 : x29_1 < (y205.length : Int)
                · rw [if_pos c29] at H
                  have c29b0 : decide (x29_1 < (y205.length : Int)) = true := decide_eq_true c29
                  clear c29
                  by_cases c30 : ((rd_T39 y205 x29_1).f0) = a1
                  · rw [if_pos c30] at H
                    have c30b0 : (((rd_T39 y205 x29_1).f0) == a1) = true := beq_iff_eq.mpr c30
                    have c30b1 : (((rd_T39 y205 x29_1).f0) != a1) = false := bne_eq_false_iff_eq.mpr c30
                    clear c30
                    have H' := Aside0.mk H
                    clear H
                    have p208 : 0 ≤ (x29_1 : Int) := of_decide_eq_true (by first | (with_reducible assumption) | assumption)
                    have q208 : x29_1 < (y205.length : Int) := of_decide_eq_true (by first | (with_reducible assumption) | assumption)
                    obtain ⟨ad208, e208, hx208_0, hx208_1⟩ := at_T39 (Kd.R_reads' HO_27.out).2.2 x29_1 p208 q208
                    cases e208
                    replace p208 := eq_true p208
                    replace q208 := eq_true q208
                    go_wp2_with (first | ((with_reducible refine gate_dst (N := 8) rfl ?_); refine bx_ (N := 8) (cs := #[.int .u32 0, .string (⟨#[]⟩ : ByteArray)]) (t := 39) ?_; intro gb209 hg w31 hbox hb; have BK209 := Aside0.mk (hbox); have GW209 := ge_ hg; have GE209 := ge_ hg; have NB197_209 := nl_ BK197 hg; have NB209_197 := ng_ BK197 hg; replace HO_27 := Aside0.mk (Kd.R_below (Kd.R_elderB (ra_ HO_27) gb209 (Nat.le_of_eq hg.symm)) hb); replace BK197 := kb_ BK197 hb; replace HB := hb_ hb; clear hb hbox hg; have hnb32 := NB209_197.out; have hnc32 := NB197_209.out; obtain ⟨hcz33_0, hcz33_1⟩ := cl2_ BK209; obtain ⟨hfz33_0, hfz33_1⟩ := fz2_ BK209))
                    go_roundg k1
                    case measure => have := HK1.out; omega
                    case rel => exact ⟨((rd_T39 y205 x29_1).f1), (wrap64 (x29_1 + 1)), (by first | rfl | (simp; done) | (simp [*]; done)), (by first | rfl | (simp; done) | (simp [*]; done)), H', ⟨by have := HK1.out; omega⟩, ⟨by (with_reducible repeat (first | apply Kd.R_alloc | apply Kd.R_drewN | apply Kd.R_drew)); exact Kd.R_mono (Kd.R_far (p := ⟨gb209, 1, none⟩) (Kd.R_far (p := ⟨gb209, 0, none⟩) (Kd.R_mono HO_27.out (fun k_ hk => (⟨hk, hk.2⟩ : _ ∧ k_ ≠ gb209))) (fun _ hk => hk.2) (.int .u32 ((rd_T39 y205 x29_1).f0))) (fun _ hk => hk.2) (.string ((rd_T39 y205 x29_1).f1))) (fun _ hk => trivial)⟩, ⟨bs_⟩, ⟨bel_⟩⟩
                  rw [if_neg c30] at H
                  have c30b0 : (((rd_T39 y205 x29_1).f0) == a1) = false := beq_eq_false_iff_ne.mpr c30
                  have c30b1 : (((rd_T39 y205 x29_1).f0) != a1) = true := bne_iff_ne.mpr c30
                  have H' := Aside0.mk H
                  clear H
                  have p208 : 0 ≤ (x29_1 : Int) := of_decide_eq_true (by first | (with_reducible assumption) | assumption)
                  have q208 : x29_1 < (y205.length : Int) := of_decide_eq_true (by first | (with_reducible assumption) | assumption)
                  obtain ⟨ad208, e208, hx208_0, hx208_1⟩ := at_T39 (Kd.R_reads' HO_27.out).2.2 x29_1 p208 q208
                  cases e208
                  replace p208 := eq_true p208
                  replace q208 := eq_true q208
                  go_wp2_with (first | ((with_reducible refine gate_dst (N := 8) rfl ?_); refine bx_ (N := 8) (cs := #[.int .u32 0, .string (⟨#[]⟩ : ByteArray)]) (t := 39) ?_; intro gb209 hg w34 hbox hb; have BK209 := Aside0.mk (hbox); have GW209 := ge_ hg; have GE209 := ge_ hg; have NB197_209 := nl_ BK197 hg; have NB209_197 := ng_ BK197 hg; replace HO_27 := Aside0.mk (Kd.R_below (Kd.R_elderB (ra_ HO_27) gb209 (Nat.le_of_eq hg.symm)) hb); replace BK197 := kb_ BK197 hb; replace HB := hb_ hb; clear hb hbox hg; have hnb35 := NB209_197.out; have hnc35 := NB197_209.out; obtain ⟨hcz36_0, hcz36_1⟩ := cl2_ BK209; obtain ⟨hfz36_0, hfz36_1⟩ := fz2_ BK209))
                  go_roundg k1
                  case measure => have := HK1.out; omega
                  case rel => exact ⟨(x6_1), (wrap64 (x29_1 + 1)), (by first | rfl | (simp; done) | (simp [*]; done)), (by first | rfl | (simp; done) | (simp [*]; done)), H', ⟨by have := HK1.out; omega⟩, ⟨by (with_reducible repeat (first | apply Kd.R_alloc | apply Kd.R_drewN | apply Kd.R_drew)); exact Kd.R_mono (Kd.R_far (p := ⟨gb209, 1, none⟩) (Kd.R_far (p := ⟨gb209, 0, none⟩) (Kd.R_mono HO_27.out (fun k_ hk => (⟨hk, hk.2⟩ : _ ∧ k_ ≠ gb209))) (fun _ hk => hk.2) (.int .u32 ((rd_T39 y205 x29_1).f0))) (fun _ hk => hk.2) (.string ((rd_T39 y205 x29_1).f1))) (fun _ hk => trivial)⟩, ⟨bs_⟩, ⟨bel_⟩⟩
                rw [if_neg c29] at H
                exact absurd H (by simp)
              rw [if_neg c28] at H
              exact absurd H (by simp)
            rw [if_neg c27] at H
            have c27b0 : decide (x29_1 < (y205.length : Int)) = false := decide_eq_false c27
            clear c27
            simp only [Option.some.injEq, Prod.mk.injEq] at H
            obtain ⟨rfl, rfl⟩ := H
            go_wp2
            go_ret2
            exact ⟨by first | rfl | (simp [errW_none, errW_some] <;> rfl) | (simp [*, errW_none, errW_some] <;> rfl), bel_⟩
      rw [if_neg c16] at H
      exact absurd H (by simp)
    rw [if_neg c15] at H
    exact absurd H (by simp)
  rw [if_neg c4] at H
  have c4b0 : (t198 == 0) = false := beq_eq_false_iff_ne.mpr c4
  have c4b1 : (t198 != 0) = true := bne_iff_ne.mpr c4
  simp only [Option.some.injEq, Prod.mk.injEq] at H
  obtain ⟨rfl, rfl⟩ := H
  go_enter Tryd.func18, Tryd.ntmps18
  go_wp2_with (first | ((with_reducible refine gate_dst (N := 2) rfl ?_); refine bx_ (N := 2) (cs := #[.int .u32 a0_0, .slice A0_1 l0_1.length c0_1, .slice A0_2 l0_2.length c0_2, .bool a0_3, .int .i64 a0_4]) (t := 25) ?_; intro gb197 hg w37 hbox hb; have BK197 := Aside0.mk (hbox); have GW197 := ge_ hg; have GE197 := ge_ hg; replace HB := hb_ hb; clear hb hbox hg; obtain ⟨hcz38_0, hcz38_1, hcz38_2, hcz38_3, hcz38_4⟩ := cl5_ BK197; obtain ⟨hfz38_0, hfz38_1, hfz38_2, hfz38_3, hfz38_4⟩ := fz5_ BK197) | ((with_reducible refine gate_callee (f := 22) rfl ?_); refine gl_ (some 11) Tryd.func22 #[.agg #[.int .u32 a0_0, .slice A0_1 l0_1.length c0_1, .slice A0_2 l0_2.length c0_2, .bool a0_3, .int .i64 a0_4]] ?_; (with_reducible refine (cambiumref03_Check.calls k a0_0 _ _ l0_1 _ _ l0_2 a0_3 a0_4 t198 _ ?side1 ?side2 ?side3 ?side4 A3.out).mono ?_); (case side1 => exact cb_ HR0_1); (case side2 => exact HC0_1.out); (case side3 => exact cb_ HR0_2); (case side4 => exact HC0_2.out); rintro e w39 ⟨rfl, hb⟩; refine ⟨_, rfl, ?_⟩; replace BK197 := kb_ BK197 hb; replace HB := hb_ hb; (try clear hb); (try clear hb2); (try clear hk); (try clear hi)))
  go_ret2
  exact ⟨by first | rfl | (simp [errW_none, errW_some] <;> rfl) | (simp [*, errW_none, errW_some] <;> rfl), bel_⟩

end Go.Proofs.YtcphflfjhkeooaaDoor.Z
end
