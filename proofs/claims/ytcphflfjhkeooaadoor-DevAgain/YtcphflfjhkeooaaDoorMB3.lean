/- This session's own texts, laid together (a part that several claims share). -/
import Derived.Test.YtcphflfjhkeooaaDoorMB1
import Derived.Test.YtcphflfjhkeooaaDoorMB2
section
/- dev.Read, dev.Write, dev.Spoil, dev.Flush, dev.Crash: printed by gendev.py. -/
namespace Go.Proofs.YtcphflfjhkeooaaDoor.Z
open Go.RowKit Go.Proofs.YtcphflfjhkeooaaDoorW.PrintWords Go.Proofs.YtcphflfjhkeooaaDoorW.PrintLast Go.Proofs.YtcphflfjhkeooaaDoorW.PrintMore
set_option linter.unusedVariables false
set_option linter.unusedSimpArgs false
attribute [local go_sem ↓] Go.wp_at_zero Go.wp_at_succ
def dev_Read.f (k : Nat) (a0_0 : Int) (l0_1 : List (S39)) (l0_2 : List (S39)) (a0_3 : Bool) (a0_4 : Int) (a1 : Int) : Option (ByteArray × Int) :=
  (dev_Check.f k a0_0 l0_1 l0_2 a0_3 a0_4).bind fun y => if y = 0 then (if a0_3 = true then some (⟨#[]⟩, 17) else if a1 ≥ a0_0 then some (⟨#[]⟩, 1) else (readF k l0_1 l0_2 a1).bind fun s => some (s, 0)) else some (⟨#[]⟩, y)
theorem dev_Read.mono : ∀ a0 a1 a2 a3 a4 a5 k, LeO (dev_Read.f k a0 a1 a2 a3 a4 a5) (dev_Read.f (k + 1) a0 a1 a2 a3 a4 a5) := by
  intro a0 a1 a2 a3 a4 a5 k
  unfold dev_Read.f
  exact LeO.bind (dev_Check.mono _ _ _ _ _ _) (fun _ => LeO.ite (LeO.ite (LeO.refl _) (LeO.ite (LeO.refl _) (LeO.bind (readF_mono _ _ _ _) (fun _ => LeO.refl _)))) (LeO.refl _))
set_option maxRecDepth 100000 in
set_option maxHeartbeats 3200000 in
theorem dev_Read.calls (k : Nat) (a0_0 : Int) (A0_1 : Option Addr) (c0_1 : Nat) (l0_1 : List (S39)) (A0_2 : Option Addr) (c0_2 : Nat) (l0_2 : List (S39)) (a0_3 : Bool) (a0_4 : Int) (a1 : Int) (r1 : ByteArray) (r2 : Int) (w : World) (hr0_1 : Kd.C k39 w A0_1 l0_1.length l0_1) (hc0_1 : l0_1.length ≤ c0_1) (hr0_2 : Kd.C k39 w A0_2 l0_2.length l0_2) (hc0_2 : l0_2.length ≤ c0_2) (h : dev_Read.f k a0_0 l0_1 l0_2 a0_3 a0_4 a1 = some (r1, r2)) :
    Calls Tryd.prog 17 #[.agg #[.int .u32 a0_0, .slice A0_1 l0_1.length c0_1, .slice A0_2 l0_2.length c0_2, .bool a0_3, .int .i64 a0_4], .int .u32 a1] w fun e w' => e = .returned (.tuple #[.string r1, .int .i64 r2]) ∧ Below w.heap.size w w' := by
  have HR1 := Aside0.mk hr0_1
  have HR2 := Aside0.mk hr0_2
  have HC1 := Aside0.mk hc0_1
  have HC2 := Aside0.mk hc0_2
  clear hr0_1 hr0_2 hc0_1 hc0_2
  unfold dev_Read.f at h
  replace h := Option.bind_eq_some_iff.mp h
  obtain ⟨y, hy, h⟩ := h
  have HY := Aside0.mk hy
  clear hy
  by_cases h0 : y = 0
  · rw [if_pos h0] at h
    subst h0
    by_cases h1 : a0_3 = true
    · rw [if_pos h1] at h
      subst h1
      cases h
      go_enter Tryd.func17, Tryd.ntmps17
      go_wp2_with (first | ((with_reducible refine gate_dst (N := 2) rfl ?_); refine box_event ?hg (N := 2) ?hd (cs := #[.int .u32 a0_0, .slice A0_1 l0_1.length c0_1, .slice A0_2 l0_2.length c0_2, .bool true, .int .i64 a0_4]) (t := 25) ?hr ?_; (case hd => rfl); (case hg => rfl); (case hr => first | (go_simp; done) | (go_simp; rfl)); intro gd hgd w1 hx hbx; have BD1 := Aside0.mk hx; have K1 := Aside0.mk hbx; have GD := Aside0.mk (show w.heap.size ≤ gd by omega); have z0 : w1.cell? ⟨gd, 0, none⟩ = some (.int .u32 a0_0) := (blk_cell BD1.out 0).trans rfl; have z1 : w1.cell? ⟨gd, 1, none⟩ = some (.slice A0_1 l0_1.length c0_1) := (blk_cell BD1.out 1).trans rfl; have z2 : w1.cell? ⟨gd, 2, none⟩ = some (.slice A0_2 l0_2.length c0_2) := (blk_cell BD1.out 2).trans rfl; have z3 : w1.cell? ⟨gd, 3, none⟩ = some (.bool true) := (blk_cell BD1.out 3).trans rfl; have z4 : w1.cell? ⟨gd, 4, none⟩ = some (.int .i64 a0_4) := (blk_cell BD1.out 4).trans rfl; clear hx hbx hgd) | (go_at_call 21; refine (dev_Check.calls k a0_0 A0_1 c0_1 l0_1 A0_2 c0_2 l0_2 true a0_4 _ _ (Kd.C_below HR1.out K1.out) HC1.out (Kd.C_below HR2.out K1.out) HC2.out HY.out).mono ?_; rintro e w3 ⟨rfl, h3⟩; have BD3 := Aside0.mk (blk_below BD1.out h3); have K3 := Aside0.mk (below_step K1.out h3); clear z0 z1 z2 z3 z4; have z0 : w3.cell? ⟨gd, 0, none⟩ = some (.int .u32 a0_0) := (blk_cell BD3.out 0).trans rfl; have z1 : w3.cell? ⟨gd, 1, none⟩ = some (.slice A0_1 l0_1.length c0_1) := (blk_cell BD3.out 1).trans rfl; have z2 : w3.cell? ⟨gd, 2, none⟩ = some (.slice A0_2 l0_2.length c0_2) := (blk_cell BD3.out 2).trans rfl; have z3 : w3.cell? ⟨gd, 3, none⟩ = some (.bool true) := (blk_cell BD3.out 3).trans rfl; have z4 : w3.cell? ⟨gd, 4, none⟩ = some (.int .i64 a0_4) := (blk_cell BD3.out 4).trans rfl;   clear h3 BD1 K1))
      go_ret2
      exact ⟨rfl, K3.out⟩
    · rw [if_neg h1] at h
      replace h1 := Bool.eq_false_iff.mpr h1
      subst h1
      by_cases h2 : a1 ≥ a0_0
      · rw [if_pos h2] at h
        cases h
        have h2b : decide (a0_0 ≤ a1) = true := decide_eq_true h2
        go_enter Tryd.func17, Tryd.ntmps17
        go_wp2_with (first | ((with_reducible refine gate_dst (N := 2) rfl ?_); refine box_event ?hg (N := 2) ?hd (cs := #[.int .u32 a0_0, .slice A0_1 l0_1.length c0_1, .slice A0_2 l0_2.length c0_2, .bool false, .int .i64 a0_4]) (t := 25) ?hr ?_; (case hd => rfl); (case hg => rfl); (case hr => first | (go_simp; done) | (go_simp; rfl)); intro gd hgd w1 hx hbx; have BD1 := Aside0.mk hx; have K1 := Aside0.mk hbx; have GD := Aside0.mk (show w.heap.size ≤ gd by omega); have z0 : w1.cell? ⟨gd, 0, none⟩ = some (.int .u32 a0_0) := (blk_cell BD1.out 0).trans rfl; have z1 : w1.cell? ⟨gd, 1, none⟩ = some (.slice A0_1 l0_1.length c0_1) := (blk_cell BD1.out 1).trans rfl; have z2 : w1.cell? ⟨gd, 2, none⟩ = some (.slice A0_2 l0_2.length c0_2) := (blk_cell BD1.out 2).trans rfl; have z3 : w1.cell? ⟨gd, 3, none⟩ = some (.bool false) := (blk_cell BD1.out 3).trans rfl; have z4 : w1.cell? ⟨gd, 4, none⟩ = some (.int .i64 a0_4) := (blk_cell BD1.out 4).trans rfl; clear hx hbx hgd) | (go_at_call 21; refine (dev_Check.calls k a0_0 A0_1 c0_1 l0_1 A0_2 c0_2 l0_2 false a0_4 _ _ (Kd.C_below HR1.out K1.out) HC1.out (Kd.C_below HR2.out K1.out) HC2.out HY.out).mono ?_; rintro e w3 ⟨rfl, h3⟩; have BD3 := Aside0.mk (blk_below BD1.out h3); have K3 := Aside0.mk (below_step K1.out h3); clear z0 z1 z2 z3 z4; have z0 : w3.cell? ⟨gd, 0, none⟩ = some (.int .u32 a0_0) := (blk_cell BD3.out 0).trans rfl; have z1 : w3.cell? ⟨gd, 1, none⟩ = some (.slice A0_1 l0_1.length c0_1) := (blk_cell BD3.out 1).trans rfl; have z2 : w3.cell? ⟨gd, 2, none⟩ = some (.slice A0_2 l0_2.length c0_2) := (blk_cell BD3.out 2).trans rfl; have z3 : w3.cell? ⟨gd, 3, none⟩ = some (.bool false) := (blk_cell BD3.out 3).trans rfl; have z4 : w3.cell? ⟨gd, 4, none⟩ = some (.int .i64 a0_4) := (blk_cell BD3.out 4).trans rfl;   clear h3 BD1 K1))
        go_ret2
        exact ⟨rfl, K3.out⟩
      · rw [if_neg h2] at h
        have h2b : decide (a0_0 ≤ a1) = false := decide_eq_false h2
        replace h := Option.bind_eq_some_iff.mp h
        obtain ⟨s, hs, h⟩ := h
        cases h
        have HS := Aside0.mk hs
        clear hs
        replace h2 := Int.lt_of_not_ge h2
        go_enter Tryd.func17, Tryd.ntmps17
        go_wp2_with (first | ((with_reducible refine gate_dst (N := 2) rfl ?_); refine box_event ?hg (N := 2) ?hd (cs := #[.int .u32 a0_0, .slice A0_1 l0_1.length c0_1, .slice A0_2 l0_2.length c0_2, .bool false, .int .i64 a0_4]) (t := 25) ?hr ?_; (case hd => rfl); (case hg => rfl); (case hr => first | (go_simp; done) | (go_simp; rfl)); intro gd hgd w1 hx hbx; have BD1 := Aside0.mk hx; have K1 := Aside0.mk hbx; have GD := Aside0.mk (show w.heap.size ≤ gd by omega); have z0 : w1.cell? ⟨gd, 0, none⟩ = some (.int .u32 a0_0) := (blk_cell BD1.out 0).trans rfl; have z1 : w1.cell? ⟨gd, 1, none⟩ = some (.slice A0_1 l0_1.length c0_1) := (blk_cell BD1.out 1).trans rfl; have z2 : w1.cell? ⟨gd, 2, none⟩ = some (.slice A0_2 l0_2.length c0_2) := (blk_cell BD1.out 2).trans rfl; have z3 : w1.cell? ⟨gd, 3, none⟩ = some (.bool false) := (blk_cell BD1.out 3).trans rfl; have z4 : w1.cell? ⟨gd, 4, none⟩ = some (.int .i64 a0_4) := (blk_cell BD1.out 4).trans rfl; clear hx hbx hgd) | (go_at_call 21; refine (dev_Check.calls k a0_0 A0_1 c0_1 l0_1 A0_2 c0_2 l0_2 false a0_4 _ _ (Kd.C_below HR1.out K1.out) HC1.out (Kd.C_below HR2.out K1.out) HC2.out HY.out).mono ?_; rintro e w3 ⟨rfl, h3⟩; have BD3 := Aside0.mk (blk_below BD1.out h3); have K3 := Aside0.mk (below_step K1.out h3); clear z0 z1 z2 z3 z4; have z0 : w3.cell? ⟨gd, 0, none⟩ = some (.int .u32 a0_0) := (blk_cell BD3.out 0).trans rfl; have z1 : w3.cell? ⟨gd, 1, none⟩ = some (.slice A0_1 l0_1.length c0_1) := (blk_cell BD3.out 1).trans rfl; have z2 : w3.cell? ⟨gd, 2, none⟩ = some (.slice A0_2 l0_2.length c0_2) := (blk_cell BD3.out 2).trans rfl; have z3 : w3.cell? ⟨gd, 3, none⟩ = some (.bool false) := (blk_cell BD3.out 3).trans rfl; have z4 : w3.cell? ⟨gd, 4, none⟩ = some (.int .i64 a0_4) := (blk_cell BD3.out 4).trans rfl;   clear h3 BD1 K1) | ((with_reducible refine gate_dst (N := 22) rfl ?_); refine box_event ?hg (N := 22) ?hd (cs := #[.int .u32 a0_0, .slice A0_1 l0_1.length c0_1, .slice A0_2 l0_2.length c0_2, .bool false, .int .i64 a0_4, .int .u64 0]) (t := 60) ?hr ?_; (case hd => rfl); (case hg => rfl); (case hr => first | (go_simp; done) | (go_simp; rfl)); intro g hg w4 hx hbx; have BG := Aside0.mk hx; have K4 := Aside0.mk (below_step K3.out hbx); have NG := Aside0.mk (show w.heap.size ≤ g by rw [hg]; exact K3.out.size); clear hx hbx hg) | (go_at_call 33; refine (read_calls k g a0_0 A0_1 c0_1 l0_1 A0_2 c0_2 l0_2 false a0_4 0 a1 r1 w _ K4.out NG.out BG.out HR1.out HC1.out HR2.out HC2.out HS.out).mono ?_; rintro e w5 ⟨rfl, h5⟩; have K5 := Aside0.mk h5; clear h5))
        go_ret2
        exact ⟨rfl, K5.out⟩
  · rw [if_neg h0] at h
    cases h
    have h0b : (r2 == 0) = false := beq_eq_false_iff_ne.mpr h0
    have h0c : (r2 != 0) = true := bne_iff_ne.mpr h0
    go_enter Tryd.func17, Tryd.ntmps17
    go_wp2_with (first | ((with_reducible refine gate_dst (N := 2) rfl ?_); refine box_event ?hg (N := 2) ?hd (cs := #[.int .u32 a0_0, .slice A0_1 l0_1.length c0_1, .slice A0_2 l0_2.length c0_2, .bool a0_3, .int .i64 a0_4]) (t := 25) ?hr ?_; (case hd => rfl); (case hg => rfl); (case hr => first | (go_simp; done) | (go_simp; rfl)); intro gd hgd w1 hx hbx; have BD1 := Aside0.mk hx; have K1 := Aside0.mk hbx; have GD := Aside0.mk (show w.heap.size ≤ gd by omega); have z0 : w1.cell? ⟨gd, 0, none⟩ = some (.int .u32 a0_0) := (blk_cell BD1.out 0).trans rfl; have z1 : w1.cell? ⟨gd, 1, none⟩ = some (.slice A0_1 l0_1.length c0_1) := (blk_cell BD1.out 1).trans rfl; have z2 : w1.cell? ⟨gd, 2, none⟩ = some (.slice A0_2 l0_2.length c0_2) := (blk_cell BD1.out 2).trans rfl; have z3 : w1.cell? ⟨gd, 3, none⟩ = some (.bool a0_3) := (blk_cell BD1.out 3).trans rfl; have z4 : w1.cell? ⟨gd, 4, none⟩ = some (.int .i64 a0_4) := (blk_cell BD1.out 4).trans rfl; clear hx hbx hgd) | (go_at_call 21; refine (dev_Check.calls k a0_0 A0_1 c0_1 l0_1 A0_2 c0_2 l0_2 a0_3 a0_4 _ _ (Kd.C_below HR1.out K1.out) HC1.out (Kd.C_below HR2.out K1.out) HC2.out HY.out).mono ?_; rintro e w3 ⟨rfl, h3⟩; have BD3 := Aside0.mk (blk_below BD1.out h3); have K3 := Aside0.mk (below_step K1.out h3); clear z0 z1 z2 z3 z4; have z0 : w3.cell? ⟨gd, 0, none⟩ = some (.int .u32 a0_0) := (blk_cell BD3.out 0).trans rfl; have z1 : w3.cell? ⟨gd, 1, none⟩ = some (.slice A0_1 l0_1.length c0_1) := (blk_cell BD3.out 1).trans rfl; have z2 : w3.cell? ⟨gd, 2, none⟩ = some (.slice A0_2 l0_2.length c0_2) := (blk_cell BD3.out 2).trans rfl; have z3 : w3.cell? ⟨gd, 3, none⟩ = some (.bool a0_3) := (blk_cell BD3.out 3).trans rfl; have z4 : w3.cell? ⟨gd, 4, none⟩ = some (.int .i64 a0_4) := (blk_cell BD3.out 4).trans rfl;   clear h3 BD1 K1))
    go_ret2
    exact ⟨rfl, K3.out⟩
theorem res_dev {w0 w : World} {g gr : Nat} {s : Int} {vB vW : Value} {bl wl : List Blk} {d : Bool} {f n : Int} {z0 z1 z2 z3 z4 : Value} (h : Drv w0 w g s vB vW bl wl d f n) (hr : w.heap[gr]? = some (.cells #[z0, z1, z2, z3, z4] 25 (0, 0))) (hgr : w0.heap.size ≤ gr) :
    (((((w.setCell ⟨gr, 0, none⟩ (.int .u32 s)).setCell ⟨gr, 1, none⟩ vB).setCell ⟨gr, 2, none⟩ vW).setCell ⟨gr, 3, none⟩ (.bool d)).setCell ⟨gr, 4, none⟩ (.int .i64 f)).heap[gr]? = some (.cells #[.int .u32 s, vB, vW, .bool d, .int .i64 f] 25 (0, 0)) ∧
    Own (((((w.setCell ⟨gr, 0, none⟩ (.int .u32 s)).setCell ⟨gr, 1, none⟩ vB).setCell ⟨gr, 2, none⟩ vW).setCell ⟨gr, 3, none⟩ (.bool d)).setCell ⟨gr, 4, none⟩ (.int .i64 f)) w0.heap.size (fun k_ => some k_ ≠ vW.ownBlock) vB bl ∧
    Own (((((w.setCell ⟨gr, 0, none⟩ (.int .u32 s)).setCell ⟨gr, 1, none⟩ vB).setCell ⟨gr, 2, none⟩ vW).setCell ⟨gr, 3, none⟩ (.bool d)).setCell ⟨gr, 4, none⟩ (.int .i64 f)) w0.heap.size (fun k_ => some k_ ≠ vB.ownBlock) vW wl ∧
    Below w0.heap.size w0 (((((w.setCell ⟨gr, 0, none⟩ (.int .u32 s)).setCell ⟨gr, 1, none⟩ vB).setCell ⟨gr, 2, none⟩ vW).setCell ⟨gr, 3, none⟩ (.bool d)).setCell ⟨gr, 4, none⟩ (.int .i64 f)) := by
  have hs := (((((Step.refl hr).set 0 (.int .u32 s) rfl).set 1 vB rfl).set 2 vW rfl).set 3 (.bool d) rfl).set 4 (.int .i64 f) rfl
  obtain ⟨h1, h2, h3, h4, h5⟩ := h
  exact ⟨hs.1, Kd.R_mono (Kd.R_keep (Kd.R_types h3 hr (by decide)) hs.2.1 (fun _ hk => hk.2)) (fun _ hk => hk.1), Kd.R_mono (Kd.R_keep (Kd.R_types h4 hr (by decide)) hs.2.1 (fun _ hk => hk.2)) (fun _ hk => hk.1), h5.trans (hs.2.2 _ hgr)⟩
theorem res_zero {w0 w : World} {gr : Nat} {z0 z1 z2 z3 z4 : Value} (h5 : Below w0.heap.size w0 w) (hr : w.heap[gr]? = some (.cells #[z0, z1, z2, z3, z4] 25 (0, 0))) (hgr : w0.heap.size ≤ gr) :
    (((((w.setCell ⟨gr, 0, none⟩ (.int .u32 0)).setCell ⟨gr, 1, none⟩ (.slice none 0 0)).setCell ⟨gr, 2, none⟩ (.slice none 0 0)).setCell ⟨gr, 3, none⟩ (.bool false)).setCell ⟨gr, 4, none⟩ (.int .i64 0)).heap[gr]? = some (.cells #[.int .u32 0, .slice none 0 0, .slice none 0 0, .bool false, .int .i64 0] 25 (0, 0)) ∧
    Below w0.heap.size w0 (((((w.setCell ⟨gr, 0, none⟩ (.int .u32 0)).setCell ⟨gr, 1, none⟩ (.slice none 0 0)).setCell ⟨gr, 2, none⟩ (.slice none 0 0)).setCell ⟨gr, 3, none⟩ (.bool false)).setCell ⟨gr, 4, none⟩ (.int .i64 0)) := by
  have hs := (((((Step.refl hr).set 0 (.int .u32 0) rfl).set 1 (.slice none 0 0) rfl).set 2 (.slice none 0 0) rfl).set 3 (.bool false) rfl).set 4 (.int .i64 0) rfl
  exact ⟨hs.1, h5.trans (hs.2.2 _ hgr)⟩
theorem own_mono (a : Int) (b c : List Blk) (d : Bool) (e : Int) : LeO (dev_Own.f a b c d e) (dev_Own.f a b c d e) := LeO.refl _
def dev_Spoil.f (k : Nat) (a0_0 : Int) (l0_1 : List (S39)) (l0_2 : List (S39)) (a0_3 : Bool) (a0_4 : Int) (a1 : Int) (a2 : ByteArray) : Option (Int × (List (S39)) × (List (S39)) × Bool × Int × Int) :=
  (dev_Check.f k a0_0 l0_1 l0_2 a0_3 a0_4).bind fun y => if y = 0 then ((dev_Own.f a0_0 l0_1 l0_2 a0_3 a0_4).bind fun q => if a1 ≥ a0_0 then some (q.1, q.2.1, q.2.2.1, q.2.2.2.1, q.2.2.2.2, 1) else if (a2.size : Int) > 512 then some (q.1, q.2.1, q.2.2.1, q.2.2.2.1, q.2.2.2.2, 2) else (dev_cut.f a2).bind fun t => (putF k q.2.1 ⟨a1, t⟩).bind fun b => some (q.1, b, q.2.2.1, q.2.2.2.1, q.2.2.2.2, 0)) else some (0, ([] : List (S39)), ([] : List (S39)), false, 0, y)
theorem dev_Spoil.mono : ∀ a0 a1 a2 a3 a4 a5 a6 k, LeO (dev_Spoil.f k a0 a1 a2 a3 a4 a5 a6) (dev_Spoil.f (k + 1) a0 a1 a2 a3 a4 a5 a6) := by
  intro a0 a1 a2 a3 a4 a5 a6 k
  unfold dev_Spoil.f
  exact LeO.bind (dev_Check.mono _ _ _ _ _ _) (fun _ => LeO.ite (LeO.bind (LeO.refl _) (fun _ => LeO.ite (LeO.refl _) (LeO.ite (LeO.refl _) (LeO.bind (LeO.refl _) (fun _ => LeO.bind (putF_mono _ _ _) (fun _ => LeO.refl _)))))) (LeO.refl _))
set_option maxRecDepth 100000 in
set_option maxHeartbeats 6400000 in
theorem dev_Spoil.calls (k : Nat) (a0_0 : Int) (A0_1 : Option Addr) (c0_1 : Nat) (l0_1 : List (S39)) (A0_2 : Option Addr) (c0_2 : Nat) (l0_2 : List (S39)) (a0_3 : Bool) (a0_4 : Int) (a1 : Int) (a2 : ByteArray) (r1 : Int) (r2 : List (S39)) (r3 : List (S39)) (r4 : Bool) (r5 : Int) (r6 : Int) (w : World) (hr0_1 : Kd.C k39 w A0_1 l0_1.length l0_1) (hc0_1 : l0_1.length ≤ c0_1) (hr0_2 : Kd.C k39 w A0_2 l0_2.length l0_2) (hc0_2 : l0_2.length ≤ c0_2) (h : dev_Spoil.f k a0_0 l0_1 l0_2 a0_3 a0_4 a1 a2 = some (r1, r2, r3, r4, r5, r6)) :
    Calls Tryd.prog 26 #[.agg #[.int .u32 a0_0, .slice A0_1 l0_1.length c0_1, .slice A0_2 l0_2.length c0_2, .bool a0_3, .int .i64 a0_4], .int .u32 a1, .string a2] w fun e w' => ∃ v1_ v2_ : Value, e = .returned (.tuple #[.agg #[.int .u32 r1, v1_, v2_, .bool r4, .int .i64 r5], .int .i64 r6]) ∧ Kd.R k39 39 w' w.heap.size (fun k_ => some k_ ≠ (v2_ : Value).ownBlock) v1_ r2 ∧ Kd.R k39 39 w' w.heap.size (fun k_ => some k_ ≠ (v1_ : Value).ownBlock) v2_ r3 ∧ Below w.heap.size w w' := by
  have HR1 := Aside0.mk hr0_1
  have HR2 := Aside0.mk hr0_2
  have HC1 := Aside0.mk hc0_1
  have HC2 := Aside0.mk hc0_2
  clear hr0_1 hr0_2 hc0_1 hc0_2
  unfold dev_Spoil.f at h
  replace h := Option.bind_eq_some_iff.mp h
  obtain ⟨y, hy, h⟩ := h
  have HY := Aside0.mk hy
  clear hy
  by_cases h0 : y = 0
  · rw [if_pos h0] at h
    subst h0
    replace h := Option.bind_eq_some_iff.mp h
    obtain ⟨⟨q1, q2, q3, q4, q5⟩, hq, h⟩ := h
    have HO := Aside0.mk hq
    clear hq
    replace h : (if a1 ≥ a0_0 then some (q1, q2, q3, q4, q5, 1) else if (a2.size : Int) > 512 then some (q1, q2, q3, q4, q5, 2) else (dev_cut.f a2).bind fun t => (putF k q2 ⟨a1, t⟩).bind fun b => some (q1, b, q3, q4, q5, 0)) = some (r1, r2, r3, r4, r5, r6) := h
    by_cases h2 : a1 ≥ a0_0
    · rw [if_pos h2] at h
      simp only [Option.some.injEq, Prod.mk.injEq] at h
      obtain ⟨rfl, rfl, rfl, rfl, rfl, rfl⟩ := h
      have h2b : decide (a0_0 ≤ a1) = true := decide_eq_true h2
      go_enter Tryd.func26, Tryd.ntmps26
      go_wp2_with (first | ((with_reducible refine gate_dst (N := 3) rfl ?_); refine box_event ?hg (N := 3) ?hd (cs := #[.int .u32 a0_0, .slice A0_1 l0_1.length c0_1, .slice A0_2 l0_2.length c0_2, .bool a0_3, .int .i64 a0_4]) (t := 25) ?hr ?_; (case hd => rfl); (case hg => rfl); (case hr => first | (go_simp; done) | (go_simp; rfl)); intro gd hgd w1 hx hbx; have BD1 := Aside0.mk hx; have K1 := Aside0.mk hbx; have GD := Aside0.mk (show w.heap.size ≤ gd by omega); have z0 : w1.cell? ⟨gd, 0, none⟩ = some (.int .u32 a0_0) := (blk_cell BD1.out 0).trans rfl; have z1 : w1.cell? ⟨gd, 1, none⟩ = some (.slice A0_1 l0_1.length c0_1) := (blk_cell BD1.out 1).trans rfl; have z2 : w1.cell? ⟨gd, 2, none⟩ = some (.slice A0_2 l0_2.length c0_2) := (blk_cell BD1.out 2).trans rfl; have z3 : w1.cell? ⟨gd, 3, none⟩ = some (.bool a0_3) := (blk_cell BD1.out 3).trans rfl; have z4 : w1.cell? ⟨gd, 4, none⟩ = some (.int .i64 a0_4) := (blk_cell BD1.out 4).trans rfl; clear hx hbx hgd) | ((with_reducible refine gate_dst (N := 6) rfl ?_); refine box_event ?hg (N := 6) ?hd (cs := #[.int .u32 0, .slice none 0 0, .slice none 0 0, .bool false, .int .i64 0]) (t := 25) ?hr ?_; (case hd => rfl); (case hg => rfl); (case hr => first | (go_simp; done) | (go_simp; rfl)); intro gr hgr w2 hx hbx; have BR2 := Aside0.mk hx; have BD2 := Aside0.mk (blk_below BD1.out hbx); have K2 := Aside0.mk (below_step K1.out hbx); have NE := Aside0.mk (show gr ≠ gd by rw [hgr]; exact fun e => Nat.lt_irrefl _ (e ▸ blk_lt BD1.out)); have GR := Aside0.mk (show w.heap.size ≤ gr by rw [hgr]; exact K1.out.size); clear z0 z1 z2 z3 z4; have z0 : w2.cell? ⟨gd, 0, none⟩ = some (.int .u32 a0_0) := (blk_cell BD2.out 0).trans rfl; have z1 : w2.cell? ⟨gd, 1, none⟩ = some (.slice A0_1 l0_1.length c0_1) := (blk_cell BD2.out 1).trans rfl; have z2 : w2.cell? ⟨gd, 2, none⟩ = some (.slice A0_2 l0_2.length c0_2) := (blk_cell BD2.out 2).trans rfl; have z3 : w2.cell? ⟨gd, 3, none⟩ = some (.bool a0_3) := (blk_cell BD2.out 3).trans rfl; have z4 : w2.cell? ⟨gd, 4, none⟩ = some (.int .i64 a0_4) := (blk_cell BD2.out 4).trans rfl; clear hx hbx hgr K1 BD1) | (go_at_call 21; refine (dev_Check.calls k a0_0 A0_1 c0_1 l0_1 A0_2 c0_2 l0_2 a0_3 a0_4 _ _ (Kd.C_below HR1.out K2.out) HC1.out (Kd.C_below HR2.out K2.out) HC2.out HY.out).mono ?_; rintro e w3 ⟨rfl, h3⟩; have BR3 := Aside0.mk (blk_below BR2.out h3); have BD3 := Aside0.mk (blk_below BD2.out h3); have K3 := Aside0.mk (below_step K2.out h3); clear z0 z1 z2 z3 z4; have z0 : w3.cell? ⟨gd, 0, none⟩ = some (.int .u32 a0_0) := (blk_cell BD3.out 0).trans rfl; have z1 : w3.cell? ⟨gd, 1, none⟩ = some (.slice A0_1 l0_1.length c0_1) := (blk_cell BD3.out 1).trans rfl; have z2 : w3.cell? ⟨gd, 2, none⟩ = some (.slice A0_2 l0_2.length c0_2) := (blk_cell BD3.out 2).trans rfl; have z3 : w3.cell? ⟨gd, 3, none⟩ = some (.bool a0_3) := (blk_cell BD3.out 3).trans rfl; have z4 : w3.cell? ⟨gd, 4, none⟩ = some (.int .i64 a0_4) := (blk_cell BD3.out 4).trans rfl; have r0 : w3.cell? ⟨gr, 0, none⟩ = some (.int .u32 0) := (blk_cell BR3.out 0).trans rfl; have r1 : w3.cell? ⟨gr, 1, none⟩ = some (.slice none 0 0) := (blk_cell BR3.out 1).trans rfl; have r2 : w3.cell? ⟨gr, 2, none⟩ = some (.slice none 0 0) := (blk_cell BR3.out 2).trans rfl; have r3 : w3.cell? ⟨gr, 3, none⟩ = some (.bool false) := (blk_cell BR3.out 3).trans rfl; have r4 : w3.cell? ⟨gr, 4, none⟩ = some (.int .i64 0) := (blk_cell BR3.out 4).trans rfl; have rf0 : w3.frozen? ⟨gr, 0, none⟩ = false := blk_frozen BR3.out 0; have rf1 : w3.frozen? ⟨gr, 1, none⟩ = false := blk_frozen BR3.out 1; have rf2 : w3.frozen? ⟨gr, 2, none⟩ = false := blk_frozen BR3.out 2; have rf3 : w3.frozen? ⟨gr, 3, none⟩ = false := blk_frozen BR3.out 3; have rf4 : w3.frozen? ⟨gr, 4, none⟩ = false := blk_frozen BR3.out 4; clear h3 BR2 BD2 K2) | (go_at_call 28; refine (open_calls a0_0 A0_1 c0_1 l0_1 A0_2 c0_2 l0_2 a0_3 a0_4 q1 q2 q3 q4 q5 w _ K3.out (Kd.C_below HR1.out K3.out) HC1.out (Kd.C_below HR2.out K3.out) HC2.out HO.out).mono ?_; rintro e w4 ⟨g, a1_, b1_, a2_, b2_, rfl, hg4, h4, hd4⟩; have D4 := Aside0.mk hd4; have BR4 := Aside0.mk (blk_below BR3.out h4); have BD4 := Aside0.mk (blk_below BD3.out h4); have NG := Aside0.mk (show g ≠ gr from fun e => by have := blk_lt BR3.out; omega); have ND := Aside0.mk (show g ≠ gd from fun e => by have := blk_lt BD3.out; omega); clear z0 z1 z2 z3 z4 r0 r1 r2 r3 r4 rf0 rf1 rf2 rf3 rf4; have z0 : w4.cell? ⟨gd, 0, none⟩ = some (.int .u32 a0_0) := (blk_cell BD4.out 0).trans rfl; have z1 : w4.cell? ⟨gd, 1, none⟩ = some (.slice A0_1 l0_1.length c0_1) := (blk_cell BD4.out 1).trans rfl; have z2 : w4.cell? ⟨gd, 2, none⟩ = some (.slice A0_2 l0_2.length c0_2) := (blk_cell BD4.out 2).trans rfl; have z3 : w4.cell? ⟨gd, 3, none⟩ = some (.bool a0_3) := (blk_cell BD4.out 3).trans rfl; have z4 : w4.cell? ⟨gd, 4, none⟩ = some (.int .i64 a0_4) := (blk_cell BD4.out 4).trans rfl; have r0 : w4.cell? ⟨gr, 0, none⟩ = some (.int .u32 0) := (blk_cell BR4.out 0).trans rfl; have r1 : w4.cell? ⟨gr, 1, none⟩ = some (.slice none 0 0) := (blk_cell BR4.out 1).trans rfl; have r2 : w4.cell? ⟨gr, 2, none⟩ = some (.slice none 0 0) := (blk_cell BR4.out 2).trans rfl; have r3 : w4.cell? ⟨gr, 3, none⟩ = some (.bool false) := (blk_cell BR4.out 3).trans rfl; have r4 : w4.cell? ⟨gr, 4, none⟩ = some (.int .i64 0) := (blk_cell BR4.out 4).trans rfl; have rf0 : w4.frozen? ⟨gr, 0, none⟩ = false := blk_frozen BR4.out 0; have rf1 : w4.frozen? ⟨gr, 1, none⟩ = false := blk_frozen BR4.out 1; have rf2 : w4.frozen? ⟨gr, 2, none⟩ = false := blk_frozen BR4.out 2; have rf3 : w4.frozen? ⟨gr, 3, none⟩ = false := blk_frozen BR4.out 3; have rf4 : w4.frozen? ⟨gr, 4, none⟩ = false := blk_frozen BR4.out 4; have g0 : w4.cell? ⟨g, 0, none⟩ = some (.int .u32 q1) := (blk_cell D4.out.1 0).trans rfl; have g1 : w4.cell? ⟨g, 1, none⟩ = some (.slice a1_ q2.length b1_) := (blk_cell D4.out.1 1).trans rfl; have g2 : w4.cell? ⟨g, 2, none⟩ = some (.slice a2_ q3.length b2_) := (blk_cell D4.out.1 2).trans rfl; have g3 : w4.cell? ⟨g, 3, none⟩ = some (.bool q4) := (blk_cell D4.out.1 3).trans rfl; have g4 : w4.cell? ⟨g, 4, none⟩ = some (.int .i64 q5) := (blk_cell D4.out.1 4).trans rfl; clear h4 hd4 hg4 BR3 BD3 K3))
      have hs := res_dev D4.out BR4.out GR.out
      refine bodyPost_ret (results_ct rfl _ _ gr 25 #[.int .u32 q1, .slice a1_ q2.length b1_, .slice a2_ q3.length b2_, .bool q4, .int .i64 q5] (0, 0) _ rfl hs.1 Tryd.underlying25 rfl (by kernel_rfl)) rfl ?_
      exact ⟨_, _, rfl, hs.2⟩
    · rw [if_neg h2] at h
      have h2b : decide (a0_0 ≤ a1) = false := decide_eq_false h2
      replace h2 := Int.lt_of_not_ge h2
      by_cases h3 : (a2.size : Int) > 512
      · rw [if_pos h3] at h
        simp only [Option.some.injEq, Prod.mk.injEq] at h
        obtain ⟨rfl, rfl, rfl, rfl, rfl, rfl⟩ := h
        have h3b : decide (512 < (a2.size : Int)) = true := decide_eq_true h3
        go_enter Tryd.func26, Tryd.ntmps26
        go_wp2_with (first | ((with_reducible refine gate_dst (N := 3) rfl ?_); refine box_event ?hg (N := 3) ?hd (cs := #[.int .u32 a0_0, .slice A0_1 l0_1.length c0_1, .slice A0_2 l0_2.length c0_2, .bool a0_3, .int .i64 a0_4]) (t := 25) ?hr ?_; (case hd => rfl); (case hg => rfl); (case hr => first | (go_simp; done) | (go_simp; rfl)); intro gd hgd w1 hx hbx; have BD1 := Aside0.mk hx; have K1 := Aside0.mk hbx; have GD := Aside0.mk (show w.heap.size ≤ gd by omega); have z0 : w1.cell? ⟨gd, 0, none⟩ = some (.int .u32 a0_0) := (blk_cell BD1.out 0).trans rfl; have z1 : w1.cell? ⟨gd, 1, none⟩ = some (.slice A0_1 l0_1.length c0_1) := (blk_cell BD1.out 1).trans rfl; have z2 : w1.cell? ⟨gd, 2, none⟩ = some (.slice A0_2 l0_2.length c0_2) := (blk_cell BD1.out 2).trans rfl; have z3 : w1.cell? ⟨gd, 3, none⟩ = some (.bool a0_3) := (blk_cell BD1.out 3).trans rfl; have z4 : w1.cell? ⟨gd, 4, none⟩ = some (.int .i64 a0_4) := (blk_cell BD1.out 4).trans rfl; clear hx hbx hgd) | ((with_reducible refine gate_dst (N := 6) rfl ?_); refine box_event ?hg (N := 6) ?hd (cs := #[.int .u32 0, .slice none 0 0, .slice none 0 0, .bool false, .int .i64 0]) (t := 25) ?hr ?_; (case hd => rfl); (case hg => rfl); (case hr => first | (go_simp; done) | (go_simp; rfl)); intro gr hgr w2 hx hbx; have BR2 := Aside0.mk hx; have BD2 := Aside0.mk (blk_below BD1.out hbx); have K2 := Aside0.mk (below_step K1.out hbx); have NE := Aside0.mk (show gr ≠ gd by rw [hgr]; exact fun e => Nat.lt_irrefl _ (e ▸ blk_lt BD1.out)); have GR := Aside0.mk (show w.heap.size ≤ gr by rw [hgr]; exact K1.out.size); clear z0 z1 z2 z3 z4; have z0 : w2.cell? ⟨gd, 0, none⟩ = some (.int .u32 a0_0) := (blk_cell BD2.out 0).trans rfl; have z1 : w2.cell? ⟨gd, 1, none⟩ = some (.slice A0_1 l0_1.length c0_1) := (blk_cell BD2.out 1).trans rfl; have z2 : w2.cell? ⟨gd, 2, none⟩ = some (.slice A0_2 l0_2.length c0_2) := (blk_cell BD2.out 2).trans rfl; have z3 : w2.cell? ⟨gd, 3, none⟩ = some (.bool a0_3) := (blk_cell BD2.out 3).trans rfl; have z4 : w2.cell? ⟨gd, 4, none⟩ = some (.int .i64 a0_4) := (blk_cell BD2.out 4).trans rfl; clear hx hbx hgr K1 BD1) | (go_at_call 21; refine (dev_Check.calls k a0_0 A0_1 c0_1 l0_1 A0_2 c0_2 l0_2 a0_3 a0_4 _ _ (Kd.C_below HR1.out K2.out) HC1.out (Kd.C_below HR2.out K2.out) HC2.out HY.out).mono ?_; rintro e w3 ⟨rfl, h3⟩; have BR3 := Aside0.mk (blk_below BR2.out h3); have BD3 := Aside0.mk (blk_below BD2.out h3); have K3 := Aside0.mk (below_step K2.out h3); clear z0 z1 z2 z3 z4; have z0 : w3.cell? ⟨gd, 0, none⟩ = some (.int .u32 a0_0) := (blk_cell BD3.out 0).trans rfl; have z1 : w3.cell? ⟨gd, 1, none⟩ = some (.slice A0_1 l0_1.length c0_1) := (blk_cell BD3.out 1).trans rfl; have z2 : w3.cell? ⟨gd, 2, none⟩ = some (.slice A0_2 l0_2.length c0_2) := (blk_cell BD3.out 2).trans rfl; have z3 : w3.cell? ⟨gd, 3, none⟩ = some (.bool a0_3) := (blk_cell BD3.out 3).trans rfl; have z4 : w3.cell? ⟨gd, 4, none⟩ = some (.int .i64 a0_4) := (blk_cell BD3.out 4).trans rfl; have r0 : w3.cell? ⟨gr, 0, none⟩ = some (.int .u32 0) := (blk_cell BR3.out 0).trans rfl; have r1 : w3.cell? ⟨gr, 1, none⟩ = some (.slice none 0 0) := (blk_cell BR3.out 1).trans rfl; have r2 : w3.cell? ⟨gr, 2, none⟩ = some (.slice none 0 0) := (blk_cell BR3.out 2).trans rfl; have r3 : w3.cell? ⟨gr, 3, none⟩ = some (.bool false) := (blk_cell BR3.out 3).trans rfl; have r4 : w3.cell? ⟨gr, 4, none⟩ = some (.int .i64 0) := (blk_cell BR3.out 4).trans rfl; have rf0 : w3.frozen? ⟨gr, 0, none⟩ = false := blk_frozen BR3.out 0; have rf1 : w3.frozen? ⟨gr, 1, none⟩ = false := blk_frozen BR3.out 1; have rf2 : w3.frozen? ⟨gr, 2, none⟩ = false := blk_frozen BR3.out 2; have rf3 : w3.frozen? ⟨gr, 3, none⟩ = false := blk_frozen BR3.out 3; have rf4 : w3.frozen? ⟨gr, 4, none⟩ = false := blk_frozen BR3.out 4; clear h3 BR2 BD2 K2) | (go_at_call 28; refine (open_calls a0_0 A0_1 c0_1 l0_1 A0_2 c0_2 l0_2 a0_3 a0_4 q1 q2 q3 q4 q5 w _ K3.out (Kd.C_below HR1.out K3.out) HC1.out (Kd.C_below HR2.out K3.out) HC2.out HO.out).mono ?_; rintro e w4 ⟨g, a1_, b1_, a2_, b2_, rfl, hg4, h4, hd4⟩; have D4 := Aside0.mk hd4; have BR4 := Aside0.mk (blk_below BR3.out h4); have BD4 := Aside0.mk (blk_below BD3.out h4); have NG := Aside0.mk (show g ≠ gr from fun e => by have := blk_lt BR3.out; omega); have ND := Aside0.mk (show g ≠ gd from fun e => by have := blk_lt BD3.out; omega); clear z0 z1 z2 z3 z4 r0 r1 r2 r3 r4 rf0 rf1 rf2 rf3 rf4; have z0 : w4.cell? ⟨gd, 0, none⟩ = some (.int .u32 a0_0) := (blk_cell BD4.out 0).trans rfl; have z1 : w4.cell? ⟨gd, 1, none⟩ = some (.slice A0_1 l0_1.length c0_1) := (blk_cell BD4.out 1).trans rfl; have z2 : w4.cell? ⟨gd, 2, none⟩ = some (.slice A0_2 l0_2.length c0_2) := (blk_cell BD4.out 2).trans rfl; have z3 : w4.cell? ⟨gd, 3, none⟩ = some (.bool a0_3) := (blk_cell BD4.out 3).trans rfl; have z4 : w4.cell? ⟨gd, 4, none⟩ = some (.int .i64 a0_4) := (blk_cell BD4.out 4).trans rfl; have r0 : w4.cell? ⟨gr, 0, none⟩ = some (.int .u32 0) := (blk_cell BR4.out 0).trans rfl; have r1 : w4.cell? ⟨gr, 1, none⟩ = some (.slice none 0 0) := (blk_cell BR4.out 1).trans rfl; have r2 : w4.cell? ⟨gr, 2, none⟩ = some (.slice none 0 0) := (blk_cell BR4.out 2).trans rfl; have r3 : w4.cell? ⟨gr, 3, none⟩ = some (.bool false) := (blk_cell BR4.out 3).trans rfl; have r4 : w4.cell? ⟨gr, 4, none⟩ = some (.int .i64 0) := (blk_cell BR4.out 4).trans rfl; have rf0 : w4.frozen? ⟨gr, 0, none⟩ = false := blk_frozen BR4.out 0; have rf1 : w4.frozen? ⟨gr, 1, none⟩ = false := blk_frozen BR4.out 1; have rf2 : w4.frozen? ⟨gr, 2, none⟩ = false := blk_frozen BR4.out 2; have rf3 : w4.frozen? ⟨gr, 3, none⟩ = false := blk_frozen BR4.out 3; have rf4 : w4.frozen? ⟨gr, 4, none⟩ = false := blk_frozen BR4.out 4; have g0 : w4.cell? ⟨g, 0, none⟩ = some (.int .u32 q1) := (blk_cell D4.out.1 0).trans rfl; have g1 : w4.cell? ⟨g, 1, none⟩ = some (.slice a1_ q2.length b1_) := (blk_cell D4.out.1 1).trans rfl; have g2 : w4.cell? ⟨g, 2, none⟩ = some (.slice a2_ q3.length b2_) := (blk_cell D4.out.1 2).trans rfl; have g3 : w4.cell? ⟨g, 3, none⟩ = some (.bool q4) := (blk_cell D4.out.1 3).trans rfl; have g4 : w4.cell? ⟨g, 4, none⟩ = some (.int .i64 q5) := (blk_cell D4.out.1 4).trans rfl; clear h4 hd4 hg4 BR3 BD3 K3))
        have hs := res_dev D4.out BR4.out GR.out
        refine bodyPost_ret (results_ct rfl _ _ gr 25 #[.int .u32 q1, .slice a1_ q2.length b1_, .slice a2_ q3.length b2_, .bool q4, .int .i64 q5] (0, 0) _ rfl hs.1 Tryd.underlying25 rfl (by kernel_rfl)) rfl ?_
        exact ⟨_, _, rfl, hs.2⟩
      · rw [if_neg h3] at h
        have h3b : decide (512 < (a2.size : Int)) = false := decide_eq_false h3
        replace h3 := Int.le_of_not_gt h3
        replace h := Option.bind_eq_some_iff.mp h
        obtain ⟨t, ht, h⟩ := h
        replace h := Option.bind_eq_some_iff.mp h
        obtain ⟨b, hb, h⟩ := h
        simp only [Option.some.injEq, Prod.mk.injEq] at h
        obtain ⟨rfl, rfl, rfl, rfl, rfl, rfl⟩ := h
        have HT := Aside0.mk ht
        have HP := Aside0.mk hb
        clear ht hb
        go_enter Tryd.func26, Tryd.ntmps26
        go_wp2_with (first | ((with_reducible refine gate_dst (N := 3) rfl ?_); refine box_event ?hg (N := 3) ?hd (cs := #[.int .u32 a0_0, .slice A0_1 l0_1.length c0_1, .slice A0_2 l0_2.length c0_2, .bool a0_3, .int .i64 a0_4]) (t := 25) ?hr ?_; (case hd => rfl); (case hg => rfl); (case hr => first | (go_simp; done) | (go_simp; rfl)); intro gd hgd w1 hx hbx; have BD1 := Aside0.mk hx; have K1 := Aside0.mk hbx; have GD := Aside0.mk (show w.heap.size ≤ gd by omega); have z0 : w1.cell? ⟨gd, 0, none⟩ = some (.int .u32 a0_0) := (blk_cell BD1.out 0).trans rfl; have z1 : w1.cell? ⟨gd, 1, none⟩ = some (.slice A0_1 l0_1.length c0_1) := (blk_cell BD1.out 1).trans rfl; have z2 : w1.cell? ⟨gd, 2, none⟩ = some (.slice A0_2 l0_2.length c0_2) := (blk_cell BD1.out 2).trans rfl; have z3 : w1.cell? ⟨gd, 3, none⟩ = some (.bool a0_3) := (blk_cell BD1.out 3).trans rfl; have z4 : w1.cell? ⟨gd, 4, none⟩ = some (.int .i64 a0_4) := (blk_cell BD1.out 4).trans rfl; clear hx hbx hgd) | ((with_reducible refine gate_dst (N := 6) rfl ?_); refine box_event ?hg (N := 6) ?hd (cs := #[.int .u32 0, .slice none 0 0, .slice none 0 0, .bool false, .int .i64 0]) (t := 25) ?hr ?_; (case hd => rfl); (case hg => rfl); (case hr => first | (go_simp; done) | (go_simp; rfl)); intro gr hgr w2 hx hbx; have BR2 := Aside0.mk hx; have BD2 := Aside0.mk (blk_below BD1.out hbx); have K2 := Aside0.mk (below_step K1.out hbx); have NE := Aside0.mk (show gr ≠ gd by rw [hgr]; exact fun e => Nat.lt_irrefl _ (e ▸ blk_lt BD1.out)); have GR := Aside0.mk (show w.heap.size ≤ gr by rw [hgr]; exact K1.out.size); clear z0 z1 z2 z3 z4; have z0 : w2.cell? ⟨gd, 0, none⟩ = some (.int .u32 a0_0) := (blk_cell BD2.out 0).trans rfl; have z1 : w2.cell? ⟨gd, 1, none⟩ = some (.slice A0_1 l0_1.length c0_1) := (blk_cell BD2.out 1).trans rfl; have z2 : w2.cell? ⟨gd, 2, none⟩ = some (.slice A0_2 l0_2.length c0_2) := (blk_cell BD2.out 2).trans rfl; have z3 : w2.cell? ⟨gd, 3, none⟩ = some (.bool a0_3) := (blk_cell BD2.out 3).trans rfl; have z4 : w2.cell? ⟨gd, 4, none⟩ = some (.int .i64 a0_4) := (blk_cell BD2.out 4).trans rfl; clear hx hbx hgr K1 BD1) | (go_at_call 21; refine (dev_Check.calls k a0_0 A0_1 c0_1 l0_1 A0_2 c0_2 l0_2 a0_3 a0_4 _ _ (Kd.C_below HR1.out K2.out) HC1.out (Kd.C_below HR2.out K2.out) HC2.out HY.out).mono ?_; rintro e w3 ⟨rfl, h3⟩; have BR3 := Aside0.mk (blk_below BR2.out h3); have BD3 := Aside0.mk (blk_below BD2.out h3); have K3 := Aside0.mk (below_step K2.out h3); clear z0 z1 z2 z3 z4; have z0 : w3.cell? ⟨gd, 0, none⟩ = some (.int .u32 a0_0) := (blk_cell BD3.out 0).trans rfl; have z1 : w3.cell? ⟨gd, 1, none⟩ = some (.slice A0_1 l0_1.length c0_1) := (blk_cell BD3.out 1).trans rfl; have z2 : w3.cell? ⟨gd, 2, none⟩ = some (.slice A0_2 l0_2.length c0_2) := (blk_cell BD3.out 2).trans rfl; have z3 : w3.cell? ⟨gd, 3, none⟩ = some (.bool a0_3) := (blk_cell BD3.out 3).trans rfl; have z4 : w3.cell? ⟨gd, 4, none⟩ = some (.int .i64 a0_4) := (blk_cell BD3.out 4).trans rfl; have r0 : w3.cell? ⟨gr, 0, none⟩ = some (.int .u32 0) := (blk_cell BR3.out 0).trans rfl; have r1 : w3.cell? ⟨gr, 1, none⟩ = some (.slice none 0 0) := (blk_cell BR3.out 1).trans rfl; have r2 : w3.cell? ⟨gr, 2, none⟩ = some (.slice none 0 0) := (blk_cell BR3.out 2).trans rfl; have r3 : w3.cell? ⟨gr, 3, none⟩ = some (.bool false) := (blk_cell BR3.out 3).trans rfl; have r4 : w3.cell? ⟨gr, 4, none⟩ = some (.int .i64 0) := (blk_cell BR3.out 4).trans rfl; have rf0 : w3.frozen? ⟨gr, 0, none⟩ = false := blk_frozen BR3.out 0; have rf1 : w3.frozen? ⟨gr, 1, none⟩ = false := blk_frozen BR3.out 1; have rf2 : w3.frozen? ⟨gr, 2, none⟩ = false := blk_frozen BR3.out 2; have rf3 : w3.frozen? ⟨gr, 3, none⟩ = false := blk_frozen BR3.out 3; have rf4 : w3.frozen? ⟨gr, 4, none⟩ = false := blk_frozen BR3.out 4; clear h3 BR2 BD2 K2) | (go_at_call 28; refine (open_calls a0_0 A0_1 c0_1 l0_1 A0_2 c0_2 l0_2 a0_3 a0_4 q1 q2 q3 q4 q5 w _ K3.out (Kd.C_below HR1.out K3.out) HC1.out (Kd.C_below HR2.out K3.out) HC2.out HO.out).mono ?_; rintro e w4 ⟨g, a1_, b1_, a2_, b2_, rfl, hg4, h4, hd4⟩; have D4 := Aside0.mk hd4; have BR4 := Aside0.mk (blk_below BR3.out h4); have BD4 := Aside0.mk (blk_below BD3.out h4); have NG := Aside0.mk (show g ≠ gr from fun e => by have := blk_lt BR3.out; omega); have ND := Aside0.mk (show g ≠ gd from fun e => by have := blk_lt BD3.out; omega); clear z0 z1 z2 z3 z4 r0 r1 r2 r3 r4 rf0 rf1 rf2 rf3 rf4; have z0 : w4.cell? ⟨gd, 0, none⟩ = some (.int .u32 a0_0) := (blk_cell BD4.out 0).trans rfl; have z1 : w4.cell? ⟨gd, 1, none⟩ = some (.slice A0_1 l0_1.length c0_1) := (blk_cell BD4.out 1).trans rfl; have z2 : w4.cell? ⟨gd, 2, none⟩ = some (.slice A0_2 l0_2.length c0_2) := (blk_cell BD4.out 2).trans rfl; have z3 : w4.cell? ⟨gd, 3, none⟩ = some (.bool a0_3) := (blk_cell BD4.out 3).trans rfl; have z4 : w4.cell? ⟨gd, 4, none⟩ = some (.int .i64 a0_4) := (blk_cell BD4.out 4).trans rfl; have r0 : w4.cell? ⟨gr, 0, none⟩ = some (.int .u32 0) := (blk_cell BR4.out 0).trans rfl; have r1 : w4.cell? ⟨gr, 1, none⟩ = some (.slice none 0 0) := (blk_cell BR4.out 1).trans rfl; have r2 : w4.cell? ⟨gr, 2, none⟩ = some (.slice none 0 0) := (blk_cell BR4.out 2).trans rfl; have r3 : w4.cell? ⟨gr, 3, none⟩ = some (.bool false) := (blk_cell BR4.out 3).trans rfl; have r4 : w4.cell? ⟨gr, 4, none⟩ = some (.int .i64 0) := (blk_cell BR4.out 4).trans rfl; have rf0 : w4.frozen? ⟨gr, 0, none⟩ = false := blk_frozen BR4.out 0; have rf1 : w4.frozen? ⟨gr, 1, none⟩ = false := blk_frozen BR4.out 1; have rf2 : w4.frozen? ⟨gr, 2, none⟩ = false := blk_frozen BR4.out 2; have rf3 : w4.frozen? ⟨gr, 3, none⟩ = false := blk_frozen BR4.out 3; have rf4 : w4.frozen? ⟨gr, 4, none⟩ = false := blk_frozen BR4.out 4; have g0 : w4.cell? ⟨g, 0, none⟩ = some (.int .u32 q1) := (blk_cell D4.out.1 0).trans rfl; have g1 : w4.cell? ⟨g, 1, none⟩ = some (.slice a1_ q2.length b1_) := (blk_cell D4.out.1 1).trans rfl; have g2 : w4.cell? ⟨g, 2, none⟩ = some (.slice a2_ q3.length b2_) := (blk_cell D4.out.1 2).trans rfl; have g3 : w4.cell? ⟨g, 3, none⟩ = some (.bool q4) := (blk_cell D4.out.1 3).trans rfl; have g4 : w4.cell? ⟨g, 4, none⟩ = some (.int .i64 q5) := (blk_cell D4.out.1 4).trans rfl; clear h4 hd4 hg4 BR3 BD3 K3) | (go_at_call 29; refine (dev_cut.calls a2 t _ HT.out).mono ?_; rintro e w5 ⟨rfl, h5d⟩; obtain ⟨nd, hnd⟩ := h5d; have h5 : Below w4.heap.size w4 w5 := (by rw [hnd]; exact pw_below_drewN (Below.refl _ _) nd); clear hnd; have D5 := Aside0.mk (D4.out.below h5); have BR5 := Aside0.mk (blk_below BR4.out h5); have N5 := Aside0.mk h5.size; clear g0 g1 g2 g3 g4 r0 r1 r2 r3 r4 rf0 rf1 rf2 rf3 rf4 z0 z1 z2 z3 z4 h5 D4 BR4) | (go_at_call 31; refine (put_calls k g q1 _ _ q4 q5 0 q2 ⟨a1, t⟩ b w _ D5.out.2.2.2.2 D5.out.1 D5.out.2.1 (Kd.R_mono D5.out.2.2.1 (fun _ _ => trivial)) HP.out).mono ?_; rintro e w6 ⟨rfl, vn, hb6, hO6, hB6, hK6⟩; obtain ⟨an_, bn_, rfl⟩ := Kd.R_slice hO6; have D6 := Aside0.mk (D5.out.put hb6 hO6 hB6 hK6); have BR6 := Aside0.mk (blk_kept BR5.out hK6 (fun e => e.elim (fun q => NG.out q.symm) (own_ne D5.out.2.2.1 BR5.out (by decide)))); have g0 : w6.cell? ⟨g, 0, none⟩ = some (.int .u32 q1) := (blk_cell D6.out.1 0).trans rfl; have g1 : w6.cell? ⟨g, 1, none⟩ = some (.slice an_ b.length bn_) := (blk_cell D6.out.1 1).trans rfl; have g2 : w6.cell? ⟨g, 2, none⟩ = some (.slice a2_ q3.length b2_) := (blk_cell D6.out.1 2).trans rfl; have g3 : w6.cell? ⟨g, 3, none⟩ = some (.bool q4) := (blk_cell D6.out.1 3).trans rfl; have g4 : w6.cell? ⟨g, 4, none⟩ = some (.int .i64 q5) := (blk_cell D6.out.1 4).trans rfl; have r0 : w6.cell? ⟨gr, 0, none⟩ = some (.int .u32 0) := (blk_cell BR6.out 0).trans rfl; have r1 : w6.cell? ⟨gr, 1, none⟩ = some (.slice none 0 0) := (blk_cell BR6.out 1).trans rfl; have r2 : w6.cell? ⟨gr, 2, none⟩ = some (.slice none 0 0) := (blk_cell BR6.out 2).trans rfl; have r3 : w6.cell? ⟨gr, 3, none⟩ = some (.bool false) := (blk_cell BR6.out 3).trans rfl; have r4 : w6.cell? ⟨gr, 4, none⟩ = some (.int .i64 0) := (blk_cell BR6.out 4).trans rfl; have rf0 : w6.frozen? ⟨gr, 0, none⟩ = false := blk_frozen BR6.out 0; have rf1 : w6.frozen? ⟨gr, 1, none⟩ = false := blk_frozen BR6.out 1; have rf2 : w6.frozen? ⟨gr, 2, none⟩ = false := blk_frozen BR6.out 2; have rf3 : w6.frozen? ⟨gr, 3, none⟩ = false := blk_frozen BR6.out 3; have rf4 : w6.frozen? ⟨gr, 4, none⟩ = false := blk_frozen BR6.out 4; clear hb6 hO6 hB6 hK6 D5 BR5))
        have hs := res_dev D6.out BR6.out GR.out
        refine bodyPost_ret (results_ct rfl _ _ gr 25 #[.int .u32 q1, .slice an_ b.length bn_, .slice a2_ q3.length b2_, .bool q4, .int .i64 q5] (0, 0) _ rfl hs.1 Tryd.underlying25 rfl (by kernel_rfl)) rfl ?_
        exact ⟨_, _, rfl, hs.2⟩
  · rw [if_neg h0] at h
    cases h
    have h0b : (r6 == 0) = false := beq_eq_false_iff_ne.mpr h0
    have h0c : (r6 != 0) = true := bne_iff_ne.mpr h0
    go_enter Tryd.func26, Tryd.ntmps26
    go_wp2_with (first | ((with_reducible refine gate_dst (N := 3) rfl ?_); refine box_event ?hg (N := 3) ?hd (cs := #[.int .u32 a0_0, .slice A0_1 l0_1.length c0_1, .slice A0_2 l0_2.length c0_2, .bool a0_3, .int .i64 a0_4]) (t := 25) ?hr ?_; (case hd => rfl); (case hg => rfl); (case hr => first | (go_simp; done) | (go_simp; rfl)); intro gd hgd w1 hx hbx; have BD1 := Aside0.mk hx; have K1 := Aside0.mk hbx; have GD := Aside0.mk (show w.heap.size ≤ gd by omega); have z0 : w1.cell? ⟨gd, 0, none⟩ = some (.int .u32 a0_0) := (blk_cell BD1.out 0).trans rfl; have z1 : w1.cell? ⟨gd, 1, none⟩ = some (.slice A0_1 l0_1.length c0_1) := (blk_cell BD1.out 1).trans rfl; have z2 : w1.cell? ⟨gd, 2, none⟩ = some (.slice A0_2 l0_2.length c0_2) := (blk_cell BD1.out 2).trans rfl; have z3 : w1.cell? ⟨gd, 3, none⟩ = some (.bool a0_3) := (blk_cell BD1.out 3).trans rfl; have z4 : w1.cell? ⟨gd, 4, none⟩ = some (.int .i64 a0_4) := (blk_cell BD1.out 4).trans rfl; clear hx hbx hgd) | ((with_reducible refine gate_dst (N := 6) rfl ?_); refine box_event ?hg (N := 6) ?hd (cs := #[.int .u32 0, .slice none 0 0, .slice none 0 0, .bool false, .int .i64 0]) (t := 25) ?hr ?_; (case hd => rfl); (case hg => rfl); (case hr => first | (go_simp; done) | (go_simp; rfl)); intro gr hgr w2 hx hbx; have BR2 := Aside0.mk hx; have BD2 := Aside0.mk (blk_below BD1.out hbx); have K2 := Aside0.mk (below_step K1.out hbx); have NE := Aside0.mk (show gr ≠ gd by rw [hgr]; exact fun e => Nat.lt_irrefl _ (e ▸ blk_lt BD1.out)); have GR := Aside0.mk (show w.heap.size ≤ gr by rw [hgr]; exact K1.out.size); clear z0 z1 z2 z3 z4; have z0 : w2.cell? ⟨gd, 0, none⟩ = some (.int .u32 a0_0) := (blk_cell BD2.out 0).trans rfl; have z1 : w2.cell? ⟨gd, 1, none⟩ = some (.slice A0_1 l0_1.length c0_1) := (blk_cell BD2.out 1).trans rfl; have z2 : w2.cell? ⟨gd, 2, none⟩ = some (.slice A0_2 l0_2.length c0_2) := (blk_cell BD2.out 2).trans rfl; have z3 : w2.cell? ⟨gd, 3, none⟩ = some (.bool a0_3) := (blk_cell BD2.out 3).trans rfl; have z4 : w2.cell? ⟨gd, 4, none⟩ = some (.int .i64 a0_4) := (blk_cell BD2.out 4).trans rfl; clear hx hbx hgr K1 BD1) | (go_at_call 21; refine (dev_Check.calls k a0_0 A0_1 c0_1 l0_1 A0_2 c0_2 l0_2 a0_3 a0_4 _ _ (Kd.C_below HR1.out K2.out) HC1.out (Kd.C_below HR2.out K2.out) HC2.out HY.out).mono ?_; rintro e w3 ⟨rfl, h3⟩; have BR3 := Aside0.mk (blk_below BR2.out h3); have BD3 := Aside0.mk (blk_below BD2.out h3); have K3 := Aside0.mk (below_step K2.out h3); clear z0 z1 z2 z3 z4; have z0 : w3.cell? ⟨gd, 0, none⟩ = some (.int .u32 a0_0) := (blk_cell BD3.out 0).trans rfl; have z1 : w3.cell? ⟨gd, 1, none⟩ = some (.slice A0_1 l0_1.length c0_1) := (blk_cell BD3.out 1).trans rfl; have z2 : w3.cell? ⟨gd, 2, none⟩ = some (.slice A0_2 l0_2.length c0_2) := (blk_cell BD3.out 2).trans rfl; have z3 : w3.cell? ⟨gd, 3, none⟩ = some (.bool a0_3) := (blk_cell BD3.out 3).trans rfl; have z4 : w3.cell? ⟨gd, 4, none⟩ = some (.int .i64 a0_4) := (blk_cell BD3.out 4).trans rfl; have r0 : w3.cell? ⟨gr, 0, none⟩ = some (.int .u32 0) := (blk_cell BR3.out 0).trans rfl; have r1 : w3.cell? ⟨gr, 1, none⟩ = some (.slice none 0 0) := (blk_cell BR3.out 1).trans rfl; have r2 : w3.cell? ⟨gr, 2, none⟩ = some (.slice none 0 0) := (blk_cell BR3.out 2).trans rfl; have r3 : w3.cell? ⟨gr, 3, none⟩ = some (.bool false) := (blk_cell BR3.out 3).trans rfl; have r4 : w3.cell? ⟨gr, 4, none⟩ = some (.int .i64 0) := (blk_cell BR3.out 4).trans rfl; have rf0 : w3.frozen? ⟨gr, 0, none⟩ = false := blk_frozen BR3.out 0; have rf1 : w3.frozen? ⟨gr, 1, none⟩ = false := blk_frozen BR3.out 1; have rf2 : w3.frozen? ⟨gr, 2, none⟩ = false := blk_frozen BR3.out 2; have rf3 : w3.frozen? ⟨gr, 3, none⟩ = false := blk_frozen BR3.out 3; have rf4 : w3.frozen? ⟨gr, 4, none⟩ = false := blk_frozen BR3.out 4; clear h3 BR2 BD2 K2))
    have hs := res_zero K3.out BR3.out GR.out
    refine bodyPost_ret (results_ct rfl _ _ gr 25 #[.int .u32 0, .slice none 0 0, .slice none 0 0, .bool false, .int .i64 0] (0, 0) _ rfl hs.1 Tryd.underlying25 rfl (by kernel_rfl)) rfl ?_
    exact ⟨_, _, rfl, Kd.R_nil _ _ _ _ _, Kd.R_nil _ _ _ _ _, hs.2⟩
theorem Drv.drew {w0 w : World} {g : Nat} {s : Int} {vB vW : Value} {bl wl : List Blk} {d : Bool} {f n : Int} (h : Drv w0 w g s vB vW bl wl d f n) : Drv w0 w.drew g s vB vW bl wl d f n :=
  ⟨blk_drew h.1, h.2.1, Kd.R_drew h.2.2.1, Kd.R_drew h.2.2.2.1, below_drew1 h.2.2.2.2⟩
theorem burn_at (x : Bool) {g : Nat} {s : Int} {vB vW : Value} {d : Bool} {f n : Int} {w : World} (hb : w.heap[g]? = some (drv s vB vW d f n)) (hx : downOf d f = x) :
    Calls Tryd.prog 30 #[.pointer (some ⟨g, 0, none⟩)] w fun e w' => e = .returned (.bool (!x)) ∧ Step g w w' (drv s vB vW x (fuseOf f) n) := hx ▸ burn_calls g s vB vW d f n w hb
/-- A write more waits. -/
theorem Drv.wait {w0 w w1 : World} {g : Nat} {s : Int} {vB vW v : Value} {bl wl wl' : List Blk} {d : Bool} {f n : Int} (h : Drv w0 w g s vB vW bl wl d f n) (hg : w.grownBy w1 vW.ownBlock) (hat : v.ownBlock = vW.ownBlock ∨ ∃ b, v.ownBlock = some b ∧ w.heap.size ≤ b)
    (hB : Below w0.heap.size w0 w1) (hO : Own w1 w0.heap.size (fun k => some k ≠ vB.ownBlock) v wl') : Drv w0 (w1.setCell ⟨g, 2, none⟩ v) g s vB v bl wl' d f n := by
  obtain ⟨h1, h2, h3, h4, h5⟩ := h
  have B1 := blk_grown h1 hg (own_ne h4 h1 (by decide))
  have R1 : Own w1 w0.heap.size (fun k => some k ≠ v.ownBlock) vB bl := Kd.R_mono (Kd.R_after (ok := fun _ => True) (Kd.R_mono h3 (fun _ hk => ⟨trivial, hk⟩)) hg hat) (fun _ hk => hk.2)
  exact ⟨blk_set B1 2 v, h2, Kd.R_mono (Kd.R_far (p := ⟨g, 2, none⟩) (Kd.R_types R1 B1 (by decide)) (fun _ hk => hk.2) v) (fun _ hk => hk.1), Kd.R_mono (Kd.R_far (p := ⟨g, 2, none⟩) (Kd.R_types hO B1 (by decide)) (fun _ hk => hk.2) v) (fun _ hk => hk.1), hB.setCell (p := ⟨g, 2, none⟩) h2 v⟩
def dev_Write.f (k : Nat) (a0_0 : Int) (l0_1 : List (S39)) (l0_2 : List (S39)) (a0_3 : Bool) (a0_4 : Int) (a1 : Int) (a2 : ByteArray) : Option (Int × (List (S39)) × (List (S39)) × Bool × Int × Int) :=
  (dev_Check.f k a0_0 l0_1 l0_2 a0_3 a0_4).bind fun y => if y = 0 then ((dev_Own.f a0_0 l0_1 l0_2 a0_3 a0_4).bind fun q => if a0_3 = true then some (q.1, q.2.1, q.2.2.1, q.2.2.2.1, q.2.2.2.2, 17) else if a1 ≥ a0_0 then some (q.1, q.2.1, q.2.2.1, q.2.2.2.1, q.2.2.2.2, 1) else if (a2.size : Int) > 512 then some (q.1, q.2.1, q.2.2.1, q.2.2.2.1, q.2.2.2.2, 2) else if (l0_2.length : Int) ≥ 16384 then some (q.1, q.2.1, q.2.2.1, q.2.2.2.1, q.2.2.2.2, 8) else (dev_cut.f a2).bind fun t => if q.2.2.1.length < 5864062014805 then some (q.1, q.2.1, q.2.2.1 ++ [⟨a1, t⟩], downOf q.2.2.2.1 q.2.2.2.2, fuseOf q.2.2.2.2, if downOf q.2.2.2.1 q.2.2.2.2 = true then 17 else 0) else none) else some (0, ([] : List (S39)), ([] : List (S39)), false, 0, y)
theorem dev_Write.mono : ∀ a0 a1 a2 a3 a4 a5 a6 k, LeO (dev_Write.f k a0 a1 a2 a3 a4 a5 a6) (dev_Write.f (k + 1) a0 a1 a2 a3 a4 a5 a6) := by
  intro a0 a1 a2 a3 a4 a5 a6 k
  unfold dev_Write.f
  exact LeO.bind (dev_Check.mono _ _ _ _ _ _) (fun _ => LeO.refl _)
set_option maxRecDepth 100000 in
set_option maxHeartbeats 6400000 in
theorem dev_Write.calls (k : Nat) (a0_0 : Int) (A0_1 : Option Addr) (c0_1 : Nat) (l0_1 : List (S39)) (A0_2 : Option Addr) (c0_2 : Nat) (l0_2 : List (S39)) (a0_3 : Bool) (a0_4 : Int) (a1 : Int) (a2 : ByteArray) (r1 : Int) (r2 : List (S39)) (r3 : List (S39)) (r4 : Bool) (r5 : Int) (r6 : Int) (w : World) (hr0_1 : Kd.C k39 w A0_1 l0_1.length l0_1) (hc0_1 : l0_1.length ≤ c0_1) (hr0_2 : Kd.C k39 w A0_2 l0_2.length l0_2) (hc0_2 : l0_2.length ≤ c0_2) (h : dev_Write.f k a0_0 l0_1 l0_2 a0_3 a0_4 a1 a2 = some (r1, r2, r3, r4, r5, r6)) :
    Calls Tryd.prog 13 #[.agg #[.int .u32 a0_0, .slice A0_1 l0_1.length c0_1, .slice A0_2 l0_2.length c0_2, .bool a0_3, .int .i64 a0_4], .int .u32 a1, .string a2] w fun e w' => ∃ v1_ v2_ : Value, e = .returned (.tuple #[.agg #[.int .u32 r1, v1_, v2_, .bool r4, .int .i64 r5], .int .i64 r6]) ∧ Kd.R k39 39 w' w.heap.size (fun k_ => some k_ ≠ (v2_ : Value).ownBlock) v1_ r2 ∧ Kd.R k39 39 w' w.heap.size (fun k_ => some k_ ≠ (v1_ : Value).ownBlock) v2_ r3 ∧ Below w.heap.size w w' := by
  have HR1 := Aside0.mk hr0_1
  have HR2 := Aside0.mk hr0_2
  have HC1 := Aside0.mk hc0_1
  have HC2 := Aside0.mk hc0_2
  clear hr0_1 hr0_2 hc0_1 hc0_2
  unfold dev_Write.f at h
  replace h := Option.bind_eq_some_iff.mp h
  obtain ⟨y, hy, h⟩ := h
  have HY := Aside0.mk hy
  clear hy
  by_cases h0 : y = 0
  · rw [if_pos h0] at h
    subst h0
    replace h := Option.bind_eq_some_iff.mp h
    obtain ⟨⟨q1, q2, q3, q4, q5⟩, hq, h⟩ := h
    have HO := Aside0.mk hq
    clear hq
    replace h : (if a0_3 = true then some (q1, q2, q3, q4, q5, 17) else if a1 ≥ a0_0 then some (q1, q2, q3, q4, q5, 1) else if (a2.size : Int) > 512 then some (q1, q2, q3, q4, q5, 2) else if (l0_2.length : Int) ≥ 16384 then some (q1, q2, q3, q4, q5, 8) else (dev_cut.f a2).bind fun t => if q3.length < 5864062014805 then some (q1, q2, q3 ++ [⟨a1, t⟩], downOf q4 q5, fuseOf q5, if downOf q4 q5 = true then 17 else 0) else none) = some (r1, r2, r3, r4, r5, r6) := h
    by_cases h1 : a0_3 = true
    · rw [if_pos h1] at h
      subst h1
      simp only [Option.some.injEq, Prod.mk.injEq] at h
      obtain ⟨rfl, rfl, rfl, rfl, rfl, rfl⟩ := h
      go_enter Tryd.func13, Tryd.ntmps13
      go_wp2_with (first | ((with_reducible refine gate_dst (N := 3) rfl ?_); refine box_event ?hg (N := 3) ?hd (cs := #[.int .u32 a0_0, .slice A0_1 l0_1.length c0_1, .slice A0_2 l0_2.length c0_2, .bool true, .int .i64 a0_4]) (t := 25) ?hr ?_; (case hd => rfl); (case hg => rfl); (case hr => first | (go_simp; done) | (go_simp; rfl)); intro gd hgd w1 hx hbx; have BD1 := Aside0.mk hx; have K1 := Aside0.mk hbx; have GD := Aside0.mk (show w.heap.size ≤ gd by omega); have z0 : w1.cell? ⟨gd, 0, none⟩ = some (.int .u32 a0_0) := (blk_cell BD1.out 0).trans rfl; have z1 : w1.cell? ⟨gd, 1, none⟩ = some (.slice A0_1 l0_1.length c0_1) := (blk_cell BD1.out 1).trans rfl; have z2 : w1.cell? ⟨gd, 2, none⟩ = some (.slice A0_2 l0_2.length c0_2) := (blk_cell BD1.out 2).trans rfl; have z3 : w1.cell? ⟨gd, 3, none⟩ = some (.bool true) := (blk_cell BD1.out 3).trans rfl; have z4 : w1.cell? ⟨gd, 4, none⟩ = some (.int .i64 a0_4) := (blk_cell BD1.out 4).trans rfl; clear hx hbx hgd) | ((with_reducible refine gate_dst (N := 6) rfl ?_); refine box_event ?hg (N := 6) ?hd (cs := #[.int .u32 0, .slice none 0 0, .slice none 0 0, .bool false, .int .i64 0]) (t := 25) ?hr ?_; (case hd => rfl); (case hg => rfl); (case hr => first | (go_simp; done) | (go_simp; rfl)); intro gr hgr w2 hx hbx; have BR2 := Aside0.mk hx; have BD2 := Aside0.mk (blk_below BD1.out hbx); have K2 := Aside0.mk (below_step K1.out hbx); have NE := Aside0.mk (show gr ≠ gd by rw [hgr]; exact fun e => Nat.lt_irrefl _ (e ▸ blk_lt BD1.out)); have GR := Aside0.mk (show w.heap.size ≤ gr by rw [hgr]; exact K1.out.size); clear z0 z1 z2 z3 z4; have z0 : w2.cell? ⟨gd, 0, none⟩ = some (.int .u32 a0_0) := (blk_cell BD2.out 0).trans rfl; have z1 : w2.cell? ⟨gd, 1, none⟩ = some (.slice A0_1 l0_1.length c0_1) := (blk_cell BD2.out 1).trans rfl; have z2 : w2.cell? ⟨gd, 2, none⟩ = some (.slice A0_2 l0_2.length c0_2) := (blk_cell BD2.out 2).trans rfl; have z3 : w2.cell? ⟨gd, 3, none⟩ = some (.bool true) := (blk_cell BD2.out 3).trans rfl; have z4 : w2.cell? ⟨gd, 4, none⟩ = some (.int .i64 a0_4) := (blk_cell BD2.out 4).trans rfl; clear hx hbx hgr K1 BD1) | (go_at_call 21; refine (dev_Check.calls k a0_0 A0_1 c0_1 l0_1 A0_2 c0_2 l0_2 true a0_4 _ _ (Kd.C_below HR1.out K2.out) HC1.out (Kd.C_below HR2.out K2.out) HC2.out HY.out).mono ?_; rintro e w3 ⟨rfl, h3⟩; have BR3 := Aside0.mk (blk_below BR2.out h3); have BD3 := Aside0.mk (blk_below BD2.out h3); have K3 := Aside0.mk (below_step K2.out h3); clear z0 z1 z2 z3 z4; have z0 : w3.cell? ⟨gd, 0, none⟩ = some (.int .u32 a0_0) := (blk_cell BD3.out 0).trans rfl; have z1 : w3.cell? ⟨gd, 1, none⟩ = some (.slice A0_1 l0_1.length c0_1) := (blk_cell BD3.out 1).trans rfl; have z2 : w3.cell? ⟨gd, 2, none⟩ = some (.slice A0_2 l0_2.length c0_2) := (blk_cell BD3.out 2).trans rfl; have z3 : w3.cell? ⟨gd, 3, none⟩ = some (.bool true) := (blk_cell BD3.out 3).trans rfl; have z4 : w3.cell? ⟨gd, 4, none⟩ = some (.int .i64 a0_4) := (blk_cell BD3.out 4).trans rfl; have r0 : w3.cell? ⟨gr, 0, none⟩ = some (.int .u32 0) := (blk_cell BR3.out 0).trans rfl; have r1 : w3.cell? ⟨gr, 1, none⟩ = some (.slice none 0 0) := (blk_cell BR3.out 1).trans rfl; have r2 : w3.cell? ⟨gr, 2, none⟩ = some (.slice none 0 0) := (blk_cell BR3.out 2).trans rfl; have r3 : w3.cell? ⟨gr, 3, none⟩ = some (.bool false) := (blk_cell BR3.out 3).trans rfl; have r4 : w3.cell? ⟨gr, 4, none⟩ = some (.int .i64 0) := (blk_cell BR3.out 4).trans rfl; have rf0 : w3.frozen? ⟨gr, 0, none⟩ = false := blk_frozen BR3.out 0; have rf1 : w3.frozen? ⟨gr, 1, none⟩ = false := blk_frozen BR3.out 1; have rf2 : w3.frozen? ⟨gr, 2, none⟩ = false := blk_frozen BR3.out 2; have rf3 : w3.frozen? ⟨gr, 3, none⟩ = false := blk_frozen BR3.out 3; have rf4 : w3.frozen? ⟨gr, 4, none⟩ = false := blk_frozen BR3.out 4; clear h3 BR2 BD2 K2) | (go_at_call 28; refine (open_calls a0_0 A0_1 c0_1 l0_1 A0_2 c0_2 l0_2 true a0_4 q1 q2 q3 q4 q5 w _ K3.out (Kd.C_below HR1.out K3.out) HC1.out (Kd.C_below HR2.out K3.out) HC2.out HO.out).mono ?_; rintro e w4 ⟨g, a1_, b1_, a2_, b2_, rfl, hg4, h4, hd4⟩; have D4 := Aside0.mk hd4; have BR4 := Aside0.mk (blk_below BR3.out h4); have BD4 := Aside0.mk (blk_below BD3.out h4); have NG := Aside0.mk (show g ≠ gr from fun e => by have := blk_lt BR3.out; omega); have ND := Aside0.mk (show g ≠ gd from fun e => by have := blk_lt BD3.out; omega); clear z0 z1 z2 z3 z4 r0 r1 r2 r3 r4 rf0 rf1 rf2 rf3 rf4; have z0 : w4.cell? ⟨gd, 0, none⟩ = some (.int .u32 a0_0) := (blk_cell BD4.out 0).trans rfl; have z1 : w4.cell? ⟨gd, 1, none⟩ = some (.slice A0_1 l0_1.length c0_1) := (blk_cell BD4.out 1).trans rfl; have z2 : w4.cell? ⟨gd, 2, none⟩ = some (.slice A0_2 l0_2.length c0_2) := (blk_cell BD4.out 2).trans rfl; have z3 : w4.cell? ⟨gd, 3, none⟩ = some (.bool true) := (blk_cell BD4.out 3).trans rfl; have z4 : w4.cell? ⟨gd, 4, none⟩ = some (.int .i64 a0_4) := (blk_cell BD4.out 4).trans rfl; have r0 : w4.cell? ⟨gr, 0, none⟩ = some (.int .u32 0) := (blk_cell BR4.out 0).trans rfl; have r1 : w4.cell? ⟨gr, 1, none⟩ = some (.slice none 0 0) := (blk_cell BR4.out 1).trans rfl; have r2 : w4.cell? ⟨gr, 2, none⟩ = some (.slice none 0 0) := (blk_cell BR4.out 2).trans rfl; have r3 : w4.cell? ⟨gr, 3, none⟩ = some (.bool false) := (blk_cell BR4.out 3).trans rfl; have r4 : w4.cell? ⟨gr, 4, none⟩ = some (.int .i64 0) := (blk_cell BR4.out 4).trans rfl; have rf0 : w4.frozen? ⟨gr, 0, none⟩ = false := blk_frozen BR4.out 0; have rf1 : w4.frozen? ⟨gr, 1, none⟩ = false := blk_frozen BR4.out 1; have rf2 : w4.frozen? ⟨gr, 2, none⟩ = false := blk_frozen BR4.out 2; have rf3 : w4.frozen? ⟨gr, 3, none⟩ = false := blk_frozen BR4.out 3; have rf4 : w4.frozen? ⟨gr, 4, none⟩ = false := blk_frozen BR4.out 4; have g0 : w4.cell? ⟨g, 0, none⟩ = some (.int .u32 q1) := (blk_cell D4.out.1 0).trans rfl; have g1 : w4.cell? ⟨g, 1, none⟩ = some (.slice a1_ q2.length b1_) := (blk_cell D4.out.1 1).trans rfl; have g2 : w4.cell? ⟨g, 2, none⟩ = some (.slice a2_ q3.length b2_) := (blk_cell D4.out.1 2).trans rfl; have g3 : w4.cell? ⟨g, 3, none⟩ = some (.bool q4) := (blk_cell D4.out.1 3).trans rfl; have g4 : w4.cell? ⟨g, 4, none⟩ = some (.int .i64 q5) := (blk_cell D4.out.1 4).trans rfl; clear h4 hd4 hg4 BR3 BD3 K3))
      have hs := res_dev D4.out BR4.out GR.out
      refine bodyPost_ret (results_ct rfl _ _ gr 25 #[.int .u32 q1, .slice a1_ q2.length b1_, .slice a2_ q3.length b2_, .bool q4, .int .i64 q5] (0, 0) _ rfl hs.1 Tryd.underlying25 rfl (by kernel_rfl)) rfl ?_
      exact ⟨_, _, rfl, hs.2⟩
    · rw [if_neg h1] at h
      replace h1 := Bool.eq_false_iff.mpr h1
      subst h1
      by_cases h2 : a1 ≥ a0_0
      · rw [if_pos h2] at h
        simp only [Option.some.injEq, Prod.mk.injEq] at h
        obtain ⟨rfl, rfl, rfl, rfl, rfl, rfl⟩ := h
        have h2b : decide (a0_0 ≤ a1) = true := decide_eq_true h2
        go_enter Tryd.func13, Tryd.ntmps13
        go_wp2_with (first | ((with_reducible refine gate_dst (N := 3) rfl ?_); refine box_event ?hg (N := 3) ?hd (cs := #[.int .u32 a0_0, .slice A0_1 l0_1.length c0_1, .slice A0_2 l0_2.length c0_2, .bool false, .int .i64 a0_4]) (t := 25) ?hr ?_; (case hd => rfl); (case hg => rfl); (case hr => first | (go_simp; done) | (go_simp; rfl)); intro gd hgd w1 hx hbx; have BD1 := Aside0.mk hx; have K1 := Aside0.mk hbx; have GD := Aside0.mk (show w.heap.size ≤ gd by omega); have z0 : w1.cell? ⟨gd, 0, none⟩ = some (.int .u32 a0_0) := (blk_cell BD1.out 0).trans rfl; have z1 : w1.cell? ⟨gd, 1, none⟩ = some (.slice A0_1 l0_1.length c0_1) := (blk_cell BD1.out 1).trans rfl; have z2 : w1.cell? ⟨gd, 2, none⟩ = some (.slice A0_2 l0_2.length c0_2) := (blk_cell BD1.out 2).trans rfl; have z3 : w1.cell? ⟨gd, 3, none⟩ = some (.bool false) := (blk_cell BD1.out 3).trans rfl; have z4 : w1.cell? ⟨gd, 4, none⟩ = some (.int .i64 a0_4) := (blk_cell BD1.out 4).trans rfl; clear hx hbx hgd) | ((with_reducible refine gate_dst (N := 6) rfl ?_); refine box_event ?hg (N := 6) ?hd (cs := #[.int .u32 0, .slice none 0 0, .slice none 0 0, .bool false, .int .i64 0]) (t := 25) ?hr ?_; (case hd => rfl); (case hg => rfl); (case hr => first | (go_simp; done) | (go_simp; rfl)); intro gr hgr w2 hx hbx; have BR2 := Aside0.mk hx; have BD2 := Aside0.mk (blk_below BD1.out hbx); have K2 := Aside0.mk (below_step K1.out hbx); have NE := Aside0.mk (show gr ≠ gd by rw [hgr]; exact fun e => Nat.lt_irrefl _ (e ▸ blk_lt BD1.out)); have GR := Aside0.mk (show w.heap.size ≤ gr by rw [hgr]; exact K1.out.size); clear z0 z1 z2 z3 z4; have z0 : w2.cell? ⟨gd, 0, none⟩ = some (.int .u32 a0_0) := (blk_cell BD2.out 0).trans rfl; have z1 : w2.cell? ⟨gd, 1, none⟩ = some (.slice A0_1 l0_1.length c0_1) := (blk_cell BD2.out 1).trans rfl; have z2 : w2.cell? ⟨gd, 2, none⟩ = some (.slice A0_2 l0_2.length c0_2) := (blk_cell BD2.out 2).trans rfl; have z3 : w2.cell? ⟨gd, 3, none⟩ = some (.bool false) := (blk_cell BD2.out 3).trans rfl; have z4 : w2.cell? ⟨gd, 4, none⟩ = some (.int .i64 a0_4) := (blk_cell BD2.out 4).trans rfl; clear hx hbx hgr K1 BD1) | (go_at_call 21; refine (dev_Check.calls k a0_0 A0_1 c0_1 l0_1 A0_2 c0_2 l0_2 false a0_4 _ _ (Kd.C_below HR1.out K2.out) HC1.out (Kd.C_below HR2.out K2.out) HC2.out HY.out).mono ?_; rintro e w3 ⟨rfl, h3⟩; have BR3 := Aside0.mk (blk_below BR2.out h3); have BD3 := Aside0.mk (blk_below BD2.out h3); have K3 := Aside0.mk (below_step K2.out h3); clear z0 z1 z2 z3 z4; have z0 : w3.cell? ⟨gd, 0, none⟩ = some (.int .u32 a0_0) := (blk_cell BD3.out 0).trans rfl; have z1 : w3.cell? ⟨gd, 1, none⟩ = some (.slice A0_1 l0_1.length c0_1) := (blk_cell BD3.out 1).trans rfl; have z2 : w3.cell? ⟨gd, 2, none⟩ = some (.slice A0_2 l0_2.length c0_2) := (blk_cell BD3.out 2).trans rfl; have z3 : w3.cell? ⟨gd, 3, none⟩ = some (.bool false) := (blk_cell BD3.out 3).trans rfl; have z4 : w3.cell? ⟨gd, 4, none⟩ = some (.int .i64 a0_4) := (blk_cell BD3.out 4).trans rfl; have r0 : w3.cell? ⟨gr, 0, none⟩ = some (.int .u32 0) := (blk_cell BR3.out 0).trans rfl; have r1 : w3.cell? ⟨gr, 1, none⟩ = some (.slice none 0 0) := (blk_cell BR3.out 1).trans rfl; have r2 : w3.cell? ⟨gr, 2, none⟩ = some (.slice none 0 0) := (blk_cell BR3.out 2).trans rfl; have r3 : w3.cell? ⟨gr, 3, none⟩ = some (.bool false) := (blk_cell BR3.out 3).trans rfl; have r4 : w3.cell? ⟨gr, 4, none⟩ = some (.int .i64 0) := (blk_cell BR3.out 4).trans rfl; have rf0 : w3.frozen? ⟨gr, 0, none⟩ = false := blk_frozen BR3.out 0; have rf1 : w3.frozen? ⟨gr, 1, none⟩ = false := blk_frozen BR3.out 1; have rf2 : w3.frozen? ⟨gr, 2, none⟩ = false := blk_frozen BR3.out 2; have rf3 : w3.frozen? ⟨gr, 3, none⟩ = false := blk_frozen BR3.out 3; have rf4 : w3.frozen? ⟨gr, 4, none⟩ = false := blk_frozen BR3.out 4; clear h3 BR2 BD2 K2) | (go_at_call 28; refine (open_calls a0_0 A0_1 c0_1 l0_1 A0_2 c0_2 l0_2 false a0_4 q1 q2 q3 q4 q5 w _ K3.out (Kd.C_below HR1.out K3.out) HC1.out (Kd.C_below HR2.out K3.out) HC2.out HO.out).mono ?_; rintro e w4 ⟨g, a1_, b1_, a2_, b2_, rfl, hg4, h4, hd4⟩; have D4 := Aside0.mk hd4; have BR4 := Aside0.mk (blk_below BR3.out h4); have BD4 := Aside0.mk (blk_below BD3.out h4); have NG := Aside0.mk (show g ≠ gr from fun e => by have := blk_lt BR3.out; omega); have ND := Aside0.mk (show g ≠ gd from fun e => by have := blk_lt BD3.out; omega); clear z0 z1 z2 z3 z4 r0 r1 r2 r3 r4 rf0 rf1 rf2 rf3 rf4; have z0 : w4.cell? ⟨gd, 0, none⟩ = some (.int .u32 a0_0) := (blk_cell BD4.out 0).trans rfl; have z1 : w4.cell? ⟨gd, 1, none⟩ = some (.slice A0_1 l0_1.length c0_1) := (blk_cell BD4.out 1).trans rfl; have z2 : w4.cell? ⟨gd, 2, none⟩ = some (.slice A0_2 l0_2.length c0_2) := (blk_cell BD4.out 2).trans rfl; have z3 : w4.cell? ⟨gd, 3, none⟩ = some (.bool false) := (blk_cell BD4.out 3).trans rfl; have z4 : w4.cell? ⟨gd, 4, none⟩ = some (.int .i64 a0_4) := (blk_cell BD4.out 4).trans rfl; have r0 : w4.cell? ⟨gr, 0, none⟩ = some (.int .u32 0) := (blk_cell BR4.out 0).trans rfl; have r1 : w4.cell? ⟨gr, 1, none⟩ = some (.slice none 0 0) := (blk_cell BR4.out 1).trans rfl; have r2 : w4.cell? ⟨gr, 2, none⟩ = some (.slice none 0 0) := (blk_cell BR4.out 2).trans rfl; have r3 : w4.cell? ⟨gr, 3, none⟩ = some (.bool false) := (blk_cell BR4.out 3).trans rfl; have r4 : w4.cell? ⟨gr, 4, none⟩ = some (.int .i64 0) := (blk_cell BR4.out 4).trans rfl; have rf0 : w4.frozen? ⟨gr, 0, none⟩ = false := blk_frozen BR4.out 0; have rf1 : w4.frozen? ⟨gr, 1, none⟩ = false := blk_frozen BR4.out 1; have rf2 : w4.frozen? ⟨gr, 2, none⟩ = false := blk_frozen BR4.out 2; have rf3 : w4.frozen? ⟨gr, 3, none⟩ = false := blk_frozen BR4.out 3; have rf4 : w4.frozen? ⟨gr, 4, none⟩ = false := blk_frozen BR4.out 4; have g0 : w4.cell? ⟨g, 0, none⟩ = some (.int .u32 q1) := (blk_cell D4.out.1 0).trans rfl; have g1 : w4.cell? ⟨g, 1, none⟩ = some (.slice a1_ q2.length b1_) := (blk_cell D4.out.1 1).trans rfl; have g2 : w4.cell? ⟨g, 2, none⟩ = some (.slice a2_ q3.length b2_) := (blk_cell D4.out.1 2).trans rfl; have g3 : w4.cell? ⟨g, 3, none⟩ = some (.bool q4) := (blk_cell D4.out.1 3).trans rfl; have g4 : w4.cell? ⟨g, 4, none⟩ = some (.int .i64 q5) := (blk_cell D4.out.1 4).trans rfl; clear h4 hd4 hg4 BR3 BD3 K3))
        have hs := res_dev D4.out BR4.out GR.out
        refine bodyPost_ret (results_ct rfl _ _ gr 25 #[.int .u32 q1, .slice a1_ q2.length b1_, .slice a2_ q3.length b2_, .bool q4, .int .i64 q5] (0, 0) _ rfl hs.1 Tryd.underlying25 rfl (by kernel_rfl)) rfl ?_
        exact ⟨_, _, rfl, hs.2⟩
      · rw [if_neg h2] at h
        have h2b : decide (a0_0 ≤ a1) = false := decide_eq_false h2
        replace h2 := Int.lt_of_not_ge h2
        by_cases h3 : (a2.size : Int) > 512
        · rw [if_pos h3] at h
          simp only [Option.some.injEq, Prod.mk.injEq] at h
          obtain ⟨rfl, rfl, rfl, rfl, rfl, rfl⟩ := h
          have h3b : decide (512 < (a2.size : Int)) = true := decide_eq_true h3
          go_enter Tryd.func13, Tryd.ntmps13
          go_wp2_with (first | ((with_reducible refine gate_dst (N := 3) rfl ?_); refine box_event ?hg (N := 3) ?hd (cs := #[.int .u32 a0_0, .slice A0_1 l0_1.length c0_1, .slice A0_2 l0_2.length c0_2, .bool false, .int .i64 a0_4]) (t := 25) ?hr ?_; (case hd => rfl); (case hg => rfl); (case hr => first | (go_simp; done) | (go_simp; rfl)); intro gd hgd w1 hx hbx; have BD1 := Aside0.mk hx; have K1 := Aside0.mk hbx; have GD := Aside0.mk (show w.heap.size ≤ gd by omega); have z0 : w1.cell? ⟨gd, 0, none⟩ = some (.int .u32 a0_0) := (blk_cell BD1.out 0).trans rfl; have z1 : w1.cell? ⟨gd, 1, none⟩ = some (.slice A0_1 l0_1.length c0_1) := (blk_cell BD1.out 1).trans rfl; have z2 : w1.cell? ⟨gd, 2, none⟩ = some (.slice A0_2 l0_2.length c0_2) := (blk_cell BD1.out 2).trans rfl; have z3 : w1.cell? ⟨gd, 3, none⟩ = some (.bool false) := (blk_cell BD1.out 3).trans rfl; have z4 : w1.cell? ⟨gd, 4, none⟩ = some (.int .i64 a0_4) := (blk_cell BD1.out 4).trans rfl; clear hx hbx hgd) | ((with_reducible refine gate_dst (N := 6) rfl ?_); refine box_event ?hg (N := 6) ?hd (cs := #[.int .u32 0, .slice none 0 0, .slice none 0 0, .bool false, .int .i64 0]) (t := 25) ?hr ?_; (case hd => rfl); (case hg => rfl); (case hr => first | (go_simp; done) | (go_simp; rfl)); intro gr hgr w2 hx hbx; have BR2 := Aside0.mk hx; have BD2 := Aside0.mk (blk_below BD1.out hbx); have K2 := Aside0.mk (below_step K1.out hbx); have NE := Aside0.mk (show gr ≠ gd by rw [hgr]; exact fun e => Nat.lt_irrefl _ (e ▸ blk_lt BD1.out)); have GR := Aside0.mk (show w.heap.size ≤ gr by rw [hgr]; exact K1.out.size); clear z0 z1 z2 z3 z4; have z0 : w2.cell? ⟨gd, 0, none⟩ = some (.int .u32 a0_0) := (blk_cell BD2.out 0).trans rfl; have z1 : w2.cell? ⟨gd, 1, none⟩ = some (.slice A0_1 l0_1.length c0_1) := (blk_cell BD2.out 1).trans rfl; have z2 : w2.cell? ⟨gd, 2, none⟩ = some (.slice A0_2 l0_2.length c0_2) := (blk_cell BD2.out 2).trans rfl; have z3 : w2.cell? ⟨gd, 3, none⟩ = some (.bool false) := (blk_cell BD2.out 3).trans rfl; have z4 : w2.cell? ⟨gd, 4, none⟩ = some (.int .i64 a0_4) := (blk_cell BD2.out 4).trans rfl; clear hx hbx hgr K1 BD1) | (go_at_call 21; refine (dev_Check.calls k a0_0 A0_1 c0_1 l0_1 A0_2 c0_2 l0_2 false a0_4 _ _ (Kd.C_below HR1.out K2.out) HC1.out (Kd.C_below HR2.out K2.out) HC2.out HY.out).mono ?_; rintro e w3 ⟨rfl, h3⟩; have BR3 := Aside0.mk (blk_below BR2.out h3); have BD3 := Aside0.mk (blk_below BD2.out h3); have K3 := Aside0.mk (below_step K2.out h3); clear z0 z1 z2 z3 z4; have z0 : w3.cell? ⟨gd, 0, none⟩ = some (.int .u32 a0_0) := (blk_cell BD3.out 0).trans rfl; have z1 : w3.cell? ⟨gd, 1, none⟩ = some (.slice A0_1 l0_1.length c0_1) := (blk_cell BD3.out 1).trans rfl; have z2 : w3.cell? ⟨gd, 2, none⟩ = some (.slice A0_2 l0_2.length c0_2) := (blk_cell BD3.out 2).trans rfl; have z3 : w3.cell? ⟨gd, 3, none⟩ = some (.bool false) := (blk_cell BD3.out 3).trans rfl; have z4 : w3.cell? ⟨gd, 4, none⟩ = some (.int .i64 a0_4) := (blk_cell BD3.out 4).trans rfl; have r0 : w3.cell? ⟨gr, 0, none⟩ = some (.int .u32 0) := (blk_cell BR3.out 0).trans rfl; have r1 : w3.cell? ⟨gr, 1, none⟩ = some (.slice none 0 0) := (blk_cell BR3.out 1).trans rfl; have r2 : w3.cell? ⟨gr, 2, none⟩ = some (.slice none 0 0) := (blk_cell BR3.out 2).trans rfl; have r3 : w3.cell? ⟨gr, 3, none⟩ = some (.bool false) := (blk_cell BR3.out 3).trans rfl; have r4 : w3.cell? ⟨gr, 4, none⟩ = some (.int .i64 0) := (blk_cell BR3.out 4).trans rfl; have rf0 : w3.frozen? ⟨gr, 0, none⟩ = false := blk_frozen BR3.out 0; have rf1 : w3.frozen? ⟨gr, 1, none⟩ = false := blk_frozen BR3.out 1; have rf2 : w3.frozen? ⟨gr, 2, none⟩ = false := blk_frozen BR3.out 2; have rf3 : w3.frozen? ⟨gr, 3, none⟩ = false := blk_frozen BR3.out 3; have rf4 : w3.frozen? ⟨gr, 4, none⟩ = false := blk_frozen BR3.out 4; clear h3 BR2 BD2 K2) | (go_at_call 28; refine (open_calls a0_0 A0_1 c0_1 l0_1 A0_2 c0_2 l0_2 false a0_4 q1 q2 q3 q4 q5 w _ K3.out (Kd.C_below HR1.out K3.out) HC1.out (Kd.C_below HR2.out K3.out) HC2.out HO.out).mono ?_; rintro e w4 ⟨g, a1_, b1_, a2_, b2_, rfl, hg4, h4, hd4⟩; have D4 := Aside0.mk hd4; have BR4 := Aside0.mk (blk_below BR3.out h4); have BD4 := Aside0.mk (blk_below BD3.out h4); have NG := Aside0.mk (show g ≠ gr from fun e => by have := blk_lt BR3.out; omega); have ND := Aside0.mk (show g ≠ gd from fun e => by have := blk_lt BD3.out; omega); clear z0 z1 z2 z3 z4 r0 r1 r2 r3 r4 rf0 rf1 rf2 rf3 rf4; have z0 : w4.cell? ⟨gd, 0, none⟩ = some (.int .u32 a0_0) := (blk_cell BD4.out 0).trans rfl; have z1 : w4.cell? ⟨gd, 1, none⟩ = some (.slice A0_1 l0_1.length c0_1) := (blk_cell BD4.out 1).trans rfl; have z2 : w4.cell? ⟨gd, 2, none⟩ = some (.slice A0_2 l0_2.length c0_2) := (blk_cell BD4.out 2).trans rfl; have z3 : w4.cell? ⟨gd, 3, none⟩ = some (.bool false) := (blk_cell BD4.out 3).trans rfl; have z4 : w4.cell? ⟨gd, 4, none⟩ = some (.int .i64 a0_4) := (blk_cell BD4.out 4).trans rfl; have r0 : w4.cell? ⟨gr, 0, none⟩ = some (.int .u32 0) := (blk_cell BR4.out 0).trans rfl; have r1 : w4.cell? ⟨gr, 1, none⟩ = some (.slice none 0 0) := (blk_cell BR4.out 1).trans rfl; have r2 : w4.cell? ⟨gr, 2, none⟩ = some (.slice none 0 0) := (blk_cell BR4.out 2).trans rfl; have r3 : w4.cell? ⟨gr, 3, none⟩ = some (.bool false) := (blk_cell BR4.out 3).trans rfl; have r4 : w4.cell? ⟨gr, 4, none⟩ = some (.int .i64 0) := (blk_cell BR4.out 4).trans rfl; have rf0 : w4.frozen? ⟨gr, 0, none⟩ = false := blk_frozen BR4.out 0; have rf1 : w4.frozen? ⟨gr, 1, none⟩ = false := blk_frozen BR4.out 1; have rf2 : w4.frozen? ⟨gr, 2, none⟩ = false := blk_frozen BR4.out 2; have rf3 : w4.frozen? ⟨gr, 3, none⟩ = false := blk_frozen BR4.out 3; have rf4 : w4.frozen? ⟨gr, 4, none⟩ = false := blk_frozen BR4.out 4; have g0 : w4.cell? ⟨g, 0, none⟩ = some (.int .u32 q1) := (blk_cell D4.out.1 0).trans rfl; have g1 : w4.cell? ⟨g, 1, none⟩ = some (.slice a1_ q2.length b1_) := (blk_cell D4.out.1 1).trans rfl; have g2 : w4.cell? ⟨g, 2, none⟩ = some (.slice a2_ q3.length b2_) := (blk_cell D4.out.1 2).trans rfl; have g3 : w4.cell? ⟨g, 3, none⟩ = some (.bool q4) := (blk_cell D4.out.1 3).trans rfl; have g4 : w4.cell? ⟨g, 4, none⟩ = some (.int .i64 q5) := (blk_cell D4.out.1 4).trans rfl; clear h4 hd4 hg4 BR3 BD3 K3))
          have hs := res_dev D4.out BR4.out GR.out
          refine bodyPost_ret (results_ct rfl _ _ gr 25 #[.int .u32 q1, .slice a1_ q2.length b1_, .slice a2_ q3.length b2_, .bool q4, .int .i64 q5] (0, 0) _ rfl hs.1 Tryd.underlying25 rfl (by kernel_rfl)) rfl ?_
          exact ⟨_, _, rfl, hs.2⟩
        · rw [if_neg h3] at h
          have h3b : decide (512 < (a2.size : Int)) = false := decide_eq_false h3
          replace h3 := Int.le_of_not_gt h3
          by_cases h4 : (l0_2.length : Int) ≥ 16384
          · rw [if_pos h4] at h
            simp only [Option.some.injEq, Prod.mk.injEq] at h
            obtain ⟨rfl, rfl, rfl, rfl, rfl, rfl⟩ := h
            have h4b : decide (16384 ≤ (l0_2.length : Int)) = true := decide_eq_true h4
            go_enter Tryd.func13, Tryd.ntmps13
            go_wp2_with (first | ((with_reducible refine gate_dst (N := 3) rfl ?_); refine box_event ?hg (N := 3) ?hd (cs := #[.int .u32 a0_0, .slice A0_1 l0_1.length c0_1, .slice A0_2 l0_2.length c0_2, .bool false, .int .i64 a0_4]) (t := 25) ?hr ?_; (case hd => rfl); (case hg => rfl); (case hr => first | (go_simp; done) | (go_simp; rfl)); intro gd hgd w1 hx hbx; have BD1 := Aside0.mk hx; have K1 := Aside0.mk hbx; have GD := Aside0.mk (show w.heap.size ≤ gd by omega); have z0 : w1.cell? ⟨gd, 0, none⟩ = some (.int .u32 a0_0) := (blk_cell BD1.out 0).trans rfl; have z1 : w1.cell? ⟨gd, 1, none⟩ = some (.slice A0_1 l0_1.length c0_1) := (blk_cell BD1.out 1).trans rfl; have z2 : w1.cell? ⟨gd, 2, none⟩ = some (.slice A0_2 l0_2.length c0_2) := (blk_cell BD1.out 2).trans rfl; have z3 : w1.cell? ⟨gd, 3, none⟩ = some (.bool false) := (blk_cell BD1.out 3).trans rfl; have z4 : w1.cell? ⟨gd, 4, none⟩ = some (.int .i64 a0_4) := (blk_cell BD1.out 4).trans rfl; clear hx hbx hgd) | ((with_reducible refine gate_dst (N := 6) rfl ?_); refine box_event ?hg (N := 6) ?hd (cs := #[.int .u32 0, .slice none 0 0, .slice none 0 0, .bool false, .int .i64 0]) (t := 25) ?hr ?_; (case hd => rfl); (case hg => rfl); (case hr => first | (go_simp; done) | (go_simp; rfl)); intro gr hgr w2 hx hbx; have BR2 := Aside0.mk hx; have BD2 := Aside0.mk (blk_below BD1.out hbx); have K2 := Aside0.mk (below_step K1.out hbx); have NE := Aside0.mk (show gr ≠ gd by rw [hgr]; exact fun e => Nat.lt_irrefl _ (e ▸ blk_lt BD1.out)); have GR := Aside0.mk (show w.heap.size ≤ gr by rw [hgr]; exact K1.out.size); clear z0 z1 z2 z3 z4; have z0 : w2.cell? ⟨gd, 0, none⟩ = some (.int .u32 a0_0) := (blk_cell BD2.out 0).trans rfl; have z1 : w2.cell? ⟨gd, 1, none⟩ = some (.slice A0_1 l0_1.length c0_1) := (blk_cell BD2.out 1).trans rfl; have z2 : w2.cell? ⟨gd, 2, none⟩ = some (.slice A0_2 l0_2.length c0_2) := (blk_cell BD2.out 2).trans rfl; have z3 : w2.cell? ⟨gd, 3, none⟩ = some (.bool false) := (blk_cell BD2.out 3).trans rfl; have z4 : w2.cell? ⟨gd, 4, none⟩ = some (.int .i64 a0_4) := (blk_cell BD2.out 4).trans rfl; clear hx hbx hgr K1 BD1) | (go_at_call 21; refine (dev_Check.calls k a0_0 A0_1 c0_1 l0_1 A0_2 c0_2 l0_2 false a0_4 _ _ (Kd.C_below HR1.out K2.out) HC1.out (Kd.C_below HR2.out K2.out) HC2.out HY.out).mono ?_; rintro e w3 ⟨rfl, h3⟩; have BR3 := Aside0.mk (blk_below BR2.out h3); have BD3 := Aside0.mk (blk_below BD2.out h3); have K3 := Aside0.mk (below_step K2.out h3); clear z0 z1 z2 z3 z4; have z0 : w3.cell? ⟨gd, 0, none⟩ = some (.int .u32 a0_0) := (blk_cell BD3.out 0).trans rfl; have z1 : w3.cell? ⟨gd, 1, none⟩ = some (.slice A0_1 l0_1.length c0_1) := (blk_cell BD3.out 1).trans rfl; have z2 : w3.cell? ⟨gd, 2, none⟩ = some (.slice A0_2 l0_2.length c0_2) := (blk_cell BD3.out 2).trans rfl; have z3 : w3.cell? ⟨gd, 3, none⟩ = some (.bool false) := (blk_cell BD3.out 3).trans rfl; have z4 : w3.cell? ⟨gd, 4, none⟩ = some (.int .i64 a0_4) := (blk_cell BD3.out 4).trans rfl; have r0 : w3.cell? ⟨gr, 0, none⟩ = some (.int .u32 0) := (blk_cell BR3.out 0).trans rfl; have r1 : w3.cell? ⟨gr, 1, none⟩ = some (.slice none 0 0) := (blk_cell BR3.out 1).trans rfl; have r2 : w3.cell? ⟨gr, 2, none⟩ = some (.slice none 0 0) := (blk_cell BR3.out 2).trans rfl; have r3 : w3.cell? ⟨gr, 3, none⟩ = some (.bool false) := (blk_cell BR3.out 3).trans rfl; have r4 : w3.cell? ⟨gr, 4, none⟩ = some (.int .i64 0) := (blk_cell BR3.out 4).trans rfl; have rf0 : w3.frozen? ⟨gr, 0, none⟩ = false := blk_frozen BR3.out 0; have rf1 : w3.frozen? ⟨gr, 1, none⟩ = false := blk_frozen BR3.out 1; have rf2 : w3.frozen? ⟨gr, 2, none⟩ = false := blk_frozen BR3.out 2; have rf3 : w3.frozen? ⟨gr, 3, none⟩ = false := blk_frozen BR3.out 3; have rf4 : w3.frozen? ⟨gr, 4, none⟩ = false := blk_frozen BR3.out 4; clear h3 BR2 BD2 K2) | (go_at_call 28; refine (open_calls a0_0 A0_1 c0_1 l0_1 A0_2 c0_2 l0_2 false a0_4 q1 q2 q3 q4 q5 w _ K3.out (Kd.C_below HR1.out K3.out) HC1.out (Kd.C_below HR2.out K3.out) HC2.out HO.out).mono ?_; rintro e w4 ⟨g, a1_, b1_, a2_, b2_, rfl, hg4, h4, hd4⟩; have D4 := Aside0.mk hd4; have BR4 := Aside0.mk (blk_below BR3.out h4); have BD4 := Aside0.mk (blk_below BD3.out h4); have NG := Aside0.mk (show g ≠ gr from fun e => by have := blk_lt BR3.out; omega); have ND := Aside0.mk (show g ≠ gd from fun e => by have := blk_lt BD3.out; omega); clear z0 z1 z2 z3 z4 r0 r1 r2 r3 r4 rf0 rf1 rf2 rf3 rf4; have z0 : w4.cell? ⟨gd, 0, none⟩ = some (.int .u32 a0_0) := (blk_cell BD4.out 0).trans rfl; have z1 : w4.cell? ⟨gd, 1, none⟩ = some (.slice A0_1 l0_1.length c0_1) := (blk_cell BD4.out 1).trans rfl; have z2 : w4.cell? ⟨gd, 2, none⟩ = some (.slice A0_2 l0_2.length c0_2) := (blk_cell BD4.out 2).trans rfl; have z3 : w4.cell? ⟨gd, 3, none⟩ = some (.bool false) := (blk_cell BD4.out 3).trans rfl; have z4 : w4.cell? ⟨gd, 4, none⟩ = some (.int .i64 a0_4) := (blk_cell BD4.out 4).trans rfl; have r0 : w4.cell? ⟨gr, 0, none⟩ = some (.int .u32 0) := (blk_cell BR4.out 0).trans rfl; have r1 : w4.cell? ⟨gr, 1, none⟩ = some (.slice none 0 0) := (blk_cell BR4.out 1).trans rfl; have r2 : w4.cell? ⟨gr, 2, none⟩ = some (.slice none 0 0) := (blk_cell BR4.out 2).trans rfl; have r3 : w4.cell? ⟨gr, 3, none⟩ = some (.bool false) := (blk_cell BR4.out 3).trans rfl; have r4 : w4.cell? ⟨gr, 4, none⟩ = some (.int .i64 0) := (blk_cell BR4.out 4).trans rfl; have rf0 : w4.frozen? ⟨gr, 0, none⟩ = false := blk_frozen BR4.out 0; have rf1 : w4.frozen? ⟨gr, 1, none⟩ = false := blk_frozen BR4.out 1; have rf2 : w4.frozen? ⟨gr, 2, none⟩ = false := blk_frozen BR4.out 2; have rf3 : w4.frozen? ⟨gr, 3, none⟩ = false := blk_frozen BR4.out 3; have rf4 : w4.frozen? ⟨gr, 4, none⟩ = false := blk_frozen BR4.out 4; have g0 : w4.cell? ⟨g, 0, none⟩ = some (.int .u32 q1) := (blk_cell D4.out.1 0).trans rfl; have g1 : w4.cell? ⟨g, 1, none⟩ = some (.slice a1_ q2.length b1_) := (blk_cell D4.out.1 1).trans rfl; have g2 : w4.cell? ⟨g, 2, none⟩ = some (.slice a2_ q3.length b2_) := (blk_cell D4.out.1 2).trans rfl; have g3 : w4.cell? ⟨g, 3, none⟩ = some (.bool q4) := (blk_cell D4.out.1 3).trans rfl; have g4 : w4.cell? ⟨g, 4, none⟩ = some (.int .i64 q5) := (blk_cell D4.out.1 4).trans rfl; clear h4 hd4 hg4 BR3 BD3 K3))
            have hs := res_dev D4.out BR4.out GR.out
            refine bodyPost_ret (results_ct rfl _ _ gr 25 #[.int .u32 q1, .slice a1_ q2.length b1_, .slice a2_ q3.length b2_, .bool q4, .int .i64 q5] (0, 0) _ rfl hs.1 Tryd.underlying25 rfl (by kernel_rfl)) rfl ?_
            exact ⟨_, _, rfl, hs.2⟩
          · rw [if_neg h4] at h
            have h4b : decide (16384 ≤ (l0_2.length : Int)) = false := decide_eq_false h4
            replace h4 := Int.lt_of_not_ge h4
            replace h := Option.bind_eq_some_iff.mp h
            obtain ⟨t, ht, h⟩ := h
            have HT := Aside0.mk ht
            clear ht
            split at h
            case isFalse => cases h
            case isTrue h5 =>
            simp only [Option.some.injEq, Prod.mk.injEq] at h
            obtain ⟨rfl, rfl, rfl, rfl, rfl, rfl⟩ := h
            have H5 := Aside0.mk h5
            clear h5
            obtain ⟨wn, hwn⟩ : ∃ wn, q3 ++ [(⟨a1, t⟩ : S39)] = wn := ⟨_, rfl⟩
            rw [hwn]
            have HW := Aside0.mk hwn
            clear hwn
            cases hdn : downOf q4 q5 with
            | true =>
              go_enter Tryd.func13, Tryd.ntmps13
              go_wp2_with (first | ((with_reducible refine gate_dst (N := 3) rfl ?_); refine box_event ?hg (N := 3) ?hd (cs := #[.int .u32 a0_0, .slice A0_1 l0_1.length c0_1, .slice A0_2 l0_2.length c0_2, .bool false, .int .i64 a0_4]) (t := 25) ?hr ?_; (case hd => rfl); (case hg => rfl); (case hr => first | (go_simp; done) | (go_simp; rfl)); intro gd hgd w1 hx hbx; have BD1 := Aside0.mk hx; have K1 := Aside0.mk hbx; have GD := Aside0.mk (show w.heap.size ≤ gd by omega); have z0 : w1.cell? ⟨gd, 0, none⟩ = some (.int .u32 a0_0) := (blk_cell BD1.out 0).trans rfl; have z1 : w1.cell? ⟨gd, 1, none⟩ = some (.slice A0_1 l0_1.length c0_1) := (blk_cell BD1.out 1).trans rfl; have z2 : w1.cell? ⟨gd, 2, none⟩ = some (.slice A0_2 l0_2.length c0_2) := (blk_cell BD1.out 2).trans rfl; have z3 : w1.cell? ⟨gd, 3, none⟩ = some (.bool false) := (blk_cell BD1.out 3).trans rfl; have z4 : w1.cell? ⟨gd, 4, none⟩ = some (.int .i64 a0_4) := (blk_cell BD1.out 4).trans rfl; clear hx hbx hgd) | ((with_reducible refine gate_dst (N := 6) rfl ?_); refine box_event ?hg (N := 6) ?hd (cs := #[.int .u32 0, .slice none 0 0, .slice none 0 0, .bool false, .int .i64 0]) (t := 25) ?hr ?_; (case hd => rfl); (case hg => rfl); (case hr => first | (go_simp; done) | (go_simp; rfl)); intro gr hgr w2 hx hbx; have BR2 := Aside0.mk hx; have BD2 := Aside0.mk (blk_below BD1.out hbx); have K2 := Aside0.mk (below_step K1.out hbx); have NE := Aside0.mk (show gr ≠ gd by rw [hgr]; exact fun e => Nat.lt_irrefl _ (e ▸ blk_lt BD1.out)); have GR := Aside0.mk (show w.heap.size ≤ gr by rw [hgr]; exact K1.out.size); clear z0 z1 z2 z3 z4; have z0 : w2.cell? ⟨gd, 0, none⟩ = some (.int .u32 a0_0) := (blk_cell BD2.out 0).trans rfl; have z1 : w2.cell? ⟨gd, 1, none⟩ = some (.slice A0_1 l0_1.length c0_1) := (blk_cell BD2.out 1).trans rfl; have z2 : w2.cell? ⟨gd, 2, none⟩ = some (.slice A0_2 l0_2.length c0_2) := (blk_cell BD2.out 2).trans rfl; have z3 : w2.cell? ⟨gd, 3, none⟩ = some (.bool false) := (blk_cell BD2.out 3).trans rfl; have z4 : w2.cell? ⟨gd, 4, none⟩ = some (.int .i64 a0_4) := (blk_cell BD2.out 4).trans rfl; clear hx hbx hgr K1 BD1) | (go_at_call 21; refine (dev_Check.calls k a0_0 A0_1 c0_1 l0_1 A0_2 c0_2 l0_2 false a0_4 _ _ (Kd.C_below HR1.out K2.out) HC1.out (Kd.C_below HR2.out K2.out) HC2.out HY.out).mono ?_; rintro e w3 ⟨rfl, h3⟩; have BR3 := Aside0.mk (blk_below BR2.out h3); have BD3 := Aside0.mk (blk_below BD2.out h3); have K3 := Aside0.mk (below_step K2.out h3); clear z0 z1 z2 z3 z4; have z0 : w3.cell? ⟨gd, 0, none⟩ = some (.int .u32 a0_0) := (blk_cell BD3.out 0).trans rfl; have z1 : w3.cell? ⟨gd, 1, none⟩ = some (.slice A0_1 l0_1.length c0_1) := (blk_cell BD3.out 1).trans rfl; have z2 : w3.cell? ⟨gd, 2, none⟩ = some (.slice A0_2 l0_2.length c0_2) := (blk_cell BD3.out 2).trans rfl; have z3 : w3.cell? ⟨gd, 3, none⟩ = some (.bool false) := (blk_cell BD3.out 3).trans rfl; have z4 : w3.cell? ⟨gd, 4, none⟩ = some (.int .i64 a0_4) := (blk_cell BD3.out 4).trans rfl; have r0 : w3.cell? ⟨gr, 0, none⟩ = some (.int .u32 0) := (blk_cell BR3.out 0).trans rfl; have r1 : w3.cell? ⟨gr, 1, none⟩ = some (.slice none 0 0) := (blk_cell BR3.out 1).trans rfl; have r2 : w3.cell? ⟨gr, 2, none⟩ = some (.slice none 0 0) := (blk_cell BR3.out 2).trans rfl; have r3 : w3.cell? ⟨gr, 3, none⟩ = some (.bool false) := (blk_cell BR3.out 3).trans rfl; have r4 : w3.cell? ⟨gr, 4, none⟩ = some (.int .i64 0) := (blk_cell BR3.out 4).trans rfl; have rf0 : w3.frozen? ⟨gr, 0, none⟩ = false := blk_frozen BR3.out 0; have rf1 : w3.frozen? ⟨gr, 1, none⟩ = false := blk_frozen BR3.out 1; have rf2 : w3.frozen? ⟨gr, 2, none⟩ = false := blk_frozen BR3.out 2; have rf3 : w3.frozen? ⟨gr, 3, none⟩ = false := blk_frozen BR3.out 3; have rf4 : w3.frozen? ⟨gr, 4, none⟩ = false := blk_frozen BR3.out 4; clear h3 BR2 BD2 K2) | (go_at_call 28; refine (open_calls a0_0 A0_1 c0_1 l0_1 A0_2 c0_2 l0_2 false a0_4 q1 q2 q3 q4 q5 w _ K3.out (Kd.C_below HR1.out K3.out) HC1.out (Kd.C_below HR2.out K3.out) HC2.out HO.out).mono ?_; rintro e w4 ⟨g, a1_, b1_, a2_, b2_, rfl, hg4, h4, hd4⟩; have D4 := Aside0.mk hd4; have BR4 := Aside0.mk (blk_below BR3.out h4); have BD4 := Aside0.mk (blk_below BD3.out h4); have NG := Aside0.mk (show g ≠ gr from fun e => by have := blk_lt BR3.out; omega); have ND := Aside0.mk (show g ≠ gd from fun e => by have := blk_lt BD3.out; omega); clear z0 z1 z2 z3 z4 r0 r1 r2 r3 r4 rf0 rf1 rf2 rf3 rf4; have z0 : w4.cell? ⟨gd, 0, none⟩ = some (.int .u32 a0_0) := (blk_cell BD4.out 0).trans rfl; have z1 : w4.cell? ⟨gd, 1, none⟩ = some (.slice A0_1 l0_1.length c0_1) := (blk_cell BD4.out 1).trans rfl; have z2 : w4.cell? ⟨gd, 2, none⟩ = some (.slice A0_2 l0_2.length c0_2) := (blk_cell BD4.out 2).trans rfl; have z3 : w4.cell? ⟨gd, 3, none⟩ = some (.bool false) := (blk_cell BD4.out 3).trans rfl; have z4 : w4.cell? ⟨gd, 4, none⟩ = some (.int .i64 a0_4) := (blk_cell BD4.out 4).trans rfl; have r0 : w4.cell? ⟨gr, 0, none⟩ = some (.int .u32 0) := (blk_cell BR4.out 0).trans rfl; have r1 : w4.cell? ⟨gr, 1, none⟩ = some (.slice none 0 0) := (blk_cell BR4.out 1).trans rfl; have r2 : w4.cell? ⟨gr, 2, none⟩ = some (.slice none 0 0) := (blk_cell BR4.out 2).trans rfl; have r3 : w4.cell? ⟨gr, 3, none⟩ = some (.bool false) := (blk_cell BR4.out 3).trans rfl; have r4 : w4.cell? ⟨gr, 4, none⟩ = some (.int .i64 0) := (blk_cell BR4.out 4).trans rfl; have rf0 : w4.frozen? ⟨gr, 0, none⟩ = false := blk_frozen BR4.out 0; have rf1 : w4.frozen? ⟨gr, 1, none⟩ = false := blk_frozen BR4.out 1; have rf2 : w4.frozen? ⟨gr, 2, none⟩ = false := blk_frozen BR4.out 2; have rf3 : w4.frozen? ⟨gr, 3, none⟩ = false := blk_frozen BR4.out 3; have rf4 : w4.frozen? ⟨gr, 4, none⟩ = false := blk_frozen BR4.out 4; have g0 : w4.cell? ⟨g, 0, none⟩ = some (.int .u32 q1) := (blk_cell D4.out.1 0).trans rfl; have g1 : w4.cell? ⟨g, 1, none⟩ = some (.slice a1_ q2.length b1_) := (blk_cell D4.out.1 1).trans rfl; have g2 : w4.cell? ⟨g, 2, none⟩ = some (.slice a2_ q3.length b2_) := (blk_cell D4.out.1 2).trans rfl; have g3 : w4.cell? ⟨g, 3, none⟩ = some (.bool q4) := (blk_cell D4.out.1 3).trans rfl; have g4 : w4.cell? ⟨g, 4, none⟩ = some (.int .i64 q5) := (blk_cell D4.out.1 4).trans rfl; clear h4 hd4 hg4 BR3 BD3 K3))
              have hDd := Aside0.mk D4.out.drew
              have hRd := Aside0.mk (blk_drew BR4.out)
              refine start_ (n := 16) (S := fun w' => w'.cell? ⟨g, 2, none⟩ = some (.slice a2_ q3.length b2_) ∧ w'.cell? ⟨g, 0, none⟩ = some (.int .u32 q1)) (ds := [15]) #[false, false, false, false, false, false, false, false, false, false, false, false, false, false, false, false] (by kernel_rfl) rfl rfl ⟨g2, g0⟩ (fun hHeld => ?_)
              clear g0 g1 g2 g3 g4 r0 r1 r2 r3 r4 rf0 rf1 rf2 rf3 rf4 z0 z1 z2 z3 z4 D4 BR4 BD4
              generalize w4.drew = wd at hDd hRd hHeld ⊢
              refine pure_ (i := 0) (N := some 43) (v := ?_) (a' := ?_) #[true, false, false, false, false, false, false, false, false, false, false, false, false, false, false, false] rfl rfl (by kernel_rfl) (fun _ _ _ h => h) (Or.inl ⟨by rfl, ?_⟩) ?_ ?_
              rotate_left
              · intro w'
                go_simp
                with_reducible rfl
              rotate_left
              · simp only [Act.put, List.setIfInBounds_toArray, List.set_cons_zero, List.set_cons_succ, i64_w, i32_w]
                rfl
              refine pure_ (i := 1) (N := some 44) (v := ?_) (a' := ?_) #[true, true, false, false, false, false, false, false, false, false, false, false, false, false, false, false] rfl rfl (by kernel_rfl) (fun _ _ _ h => h) (Or.inl ⟨by rfl, ?_⟩) ?_ ?_
              rotate_left
              · intro w'
                go_simp
                with_reducible rfl
              rotate_left
              · simp only [Act.put, List.setIfInBounds_toArray, List.set_cons_zero, List.set_cons_succ, i64_w, i32_w]
                rfl
              refine pure_ (i := 2) (N := some 45) (v := ?_) (a' := ?_) #[true, true, true, false, false, false, false, false, false, false, false, false, false, false, false, false] rfl rfl (by kernel_rfl) (fun _ _ _ h => h) (Or.inl ⟨by rfl, ?_⟩) ?_ ?_
              rotate_left
              · intro w'
                go_simp
                with_reducible rfl
              rotate_left
              · simp only [Act.put, List.setIfInBounds_toArray, List.set_cons_zero, List.set_cons_succ, i64_w, i32_w]
                rfl
              refine pure_ (i := 3) (N := some 46) (v := ?_) (a' := ?_) #[true, true, true, true, false, false, false, false, false, false, false, false, false, false, false, false] rfl rfl (by kernel_rfl) (fun _ _ _ h => h) (Or.inl ⟨by rfl, ?_⟩) ?_ ?_
              rotate_left
              · intro w'
                go_simp
                with_reducible rfl
              rotate_left
              · simp only [Act.put, List.setIfInBounds_toArray, List.set_cons_zero, List.set_cons_succ, i64_w, i32_w]
                rfl
              refine pure_ (i := 4) (N := some 47) (v := ?_) (a' := ?_) #[true, true, true, true, true, false, false, false, false, false, false, false, false, false, false, false] rfl rfl (by kernel_rfl) (fun _ _ _ h => h) (Or.inl ⟨by rfl, ?_⟩) ?_ ?_
              rotate_left
              · intro w'
                go_simp
                with_reducible rfl
              rotate_left
              · simp only [Act.put, List.setIfInBounds_toArray, List.set_cons_zero, List.set_cons_succ, i64_w, i32_w]
                rfl
              refine take_ (i := 5) (N := some 48) (v := ?_) (a' := ?_) #[true, true, true, true, true, true, false, false, false, false, false, false, false, false, false, false] rfl rfl (by kernel_rfl) (fun _ _ _ h => h) (Or.inl ⟨by rfl, ?_⟩) hHeld ?_ ?_
              rotate_left
              · rintro w' ⟨s0, s1⟩
                go_simp
                with_reducible rfl
              rotate_left
              · simp only [Act.put, List.setIfInBounds_toArray, List.set_cons_zero, List.set_cons_succ, i64_w, i32_w]
                rfl
              refine pure_ (i := 6) (N := some 49) (v := ?_) (a' := ?_) #[true, true, true, true, true, true, true, false, false, false, false, false, false, false, false, false] rfl rfl (by kernel_rfl) (fun _ _ _ h => h) (Or.inl ⟨by rfl, ?_⟩) ?_ ?_
              rotate_left
              · intro w'
                go_simp
                with_reducible rfl
              rotate_left
              · simp only [Act.put, List.setIfInBounds_toArray, List.set_cons_zero, List.set_cons_succ, i64_w, i32_w]
                rfl
              refine pure_ (i := 7) (N := some 50) (v := ?_) (a' := ?_) #[true, true, true, true, true, true, true, true, false, false, false, false, false, false, false, false] rfl rfl (by kernel_rfl) (fun _ _ _ h => h) (Or.inl ⟨by rfl, ?_⟩) ?_ ?_
              rotate_left
              · intro w'
                go_simp
                with_reducible rfl
              rotate_left
              · simp only [Act.put, List.setIfInBounds_toArray, List.set_cons_zero, List.set_cons_succ, i64_w, i32_w]
                rfl
              refine one_ (i := 8) (N := some 51) #[true, true, true, true, true, true, true, true, true, false, false, false, false, false, false, false] rfl rfl (by kernel_rfl) (by decide) (fun K hK => ?_)
              refine goes_ Tryd.func29 (by kernel_rfl) rfl #[.string a2] (by rfl) rfl rfl (by (try simp only [List.map_toArray, List.map_cons, List.map_nil]); first | done | rfl) ?_
              with_reducible refine (dev_cut.calls a2 t _ HT.out).mono ?_
              rintro e w' ⟨rfl, ⟨nd, hnd⟩⟩
              have hDe := Aside0.mk (hDd.out.below (w' := w') (by rw [hnd]; exact pw_below_drewN (Below.refl _ _) nd))
              have hRe := Aside0.mk (show w'.heap[gr]? = some (.cells #[.int .u32 0, .slice none 0 0, .slice none 0 0, .bool false, .int .i64 0] 25 (0, 0)) by rw [hnd]; exact blk_drewN hRd.out nd)
              clear hnd hDd hRd
              refine ⟨_, rfl, ?_⟩
              refine hK.out _ _ ⟨(blk_cell hDe.out.1 2).trans rfl, (blk_cell hDe.out.1 0).trans rfl⟩ (fun hHeld => ?_)
              clear hK K
              refine norm_ (a' := ?_) ?_ ?_
              rotate_left
              · show Act.put _ (some 51) _ = _
                simp only [Act.put, List.setIfInBounds_toArray, List.set_cons_zero, List.set_cons_succ, i64_w, i32_w]
                rfl
              refine pure_ (i := 9) (N := some 52) (v := ?_) (a' := ?_) #[true, true, true, true, true, true, true, true, true, true, false, false, false, false, false, false] rfl rfl (by kernel_rfl) (fun _ _ _ h => h) (Or.inl ⟨by rfl, ?_⟩) ?_ ?_
              rotate_left
              · intro w'
                go_simp
                with_reducible rfl
              rotate_left
              · simp only [Act.put, List.setIfInBounds_toArray, List.set_cons_zero, List.set_cons_succ, i64_w, i32_w]
                rfl
              refine one_ (i := 10) (N := some 53) #[true, true, true, true, true, true, true, true, true, true, true, false, false, false, false, false] rfl rfl (by kernel_rfl) (by decide) (fun K hK => ?_)
              refine value_ (w1 := ?_) (v := ?_) (by rfl) rfl ?_ ?_
              rotate_left 2
              · go_simp
                constructor
                · rfl
                · rfl
              refine hK.out _ _ ⟨(blk_cell (blk_alloc hDe.out.1 _) 2).trans rfl, (blk_cell (blk_alloc hDe.out.1 _) 0).trans rfl⟩ (fun hHeld => ?_)
              clear hK K
              refine norm_ (a' := ?_) ?_ ?_
              rotate_left
              · show Act.put _ (some 53) _ = _
                simp only [Act.put, List.setIfInBounds_toArray, List.set_cons_zero, List.set_cons_succ, i64_w, i32_w]
                rfl
              refine one_ (i := 11) (N := some 54) #[true, true, true, true, true, true, true, true, true, true, true, true, false, false, false, false] rfl rfl (by kernel_rfl) (by decide) (fun K hK => ?_)
              refine Kd.R_append_step k39 (w0 := w) w.heap.size (by rfl) (.tmp 48) (.tmp 53) 23 39 (.agg #[(.int .u32 0), (.string ⟨#[]⟩)]) 24 rfl Tryd.underlying23 info39 rfl (by decide) (by omega) (.slice a2_ q3.length b2_) q3 (⟨a1, t⟩ : S39) [.int .u32 a1, .string t] (fun k_ => some k_ ≠ (.slice a1_ q2.length b1_ : Value).ownBlock) (fun _ => False) rfl rfl ?aP (fun _ hk => hk.elim) ?aF ?aO ?aB ?aS ?aL ?_
              (case aP => exact k39_mkM _ _ _ (⟨a1, t⟩ : S39))
              (case aB => exact hDe.out.2.2.2.2)
              (case aF => exact (fun k_ hk => Kd.fresh' (Kd.R_lt hDe.out.2.2.1) k_ hk))
              (case aO => exact hDe.out.2.2.2.1)
              (case aS => exact hDe.out.2.2.2.2.size)
              (case aL => have := H5.out; omega)
              intro v7 w7 ho hb hg hat
              rw [HW.out] at ho
              obtain ⟨A7, c7, rfl⟩ := Kd.R_slice ho
              have B7 := Aside0.mk (blk_grown hDe.out.1 hg (own_ne hDe.out.2.2.2.1 hDe.out.1 (by decide)))
              have R7 := Aside0.mk (blk_grown hRe.out hg (own_ne hDe.out.2.2.2.1 hRe.out (by decide)))
              have D8 := Aside0.mk (hDe.out.wait hg hat hb ho)
              clear hDe hRe ho hb hg hat
              refine hK.out _ _ ⟨(blk_cell B7.out 2).trans rfl, (blk_cell B7.out 0).trans rfl⟩ (fun hHeld => ?_)
              clear hK K
              refine norm_ (a' := ?_) ?_ ?_
              rotate_left
              · show Act.put _ (some 54) _ = _
                simp only [Act.put, List.setIfInBounds_toArray, List.set_cons_zero, List.set_cons_succ, i64_w, i32_w]
                rfl
              refine pure_ (i := 12) (N := some 55) (v := ?_) (a' := ?_) #[true, true, true, true, true, true, true, true, true, true, true, true, true, false, false, false] rfl rfl (by kernel_rfl) (fun _ _ _ h => h) (Or.inl ⟨by rfl, ?_⟩) ?_ ?_
              rotate_left
              · intro w'
                go_simp
                with_reducible rfl
              rotate_left
              · simp only [Act.put, List.setIfInBounds_toArray, List.set_cons_zero, List.set_cons_succ, i64_w, i32_w]
                rfl
              refine pure_ (i := 13) (N := some 56) (v := ?_) (a' := ?_) #[true, true, true, true, true, true, true, true, true, true, true, true, true, true, false, false] rfl rfl (by kernel_rfl) (fun _ _ _ h => h) (Or.inl ⟨by rfl, ?_⟩) ?_ ?_
              rotate_left
              · intro w'
                go_simp
                with_reducible rfl
              rotate_left
              · simp only [Act.put, List.setIfInBounds_toArray, List.set_cons_zero, List.set_cons_succ, i64_w, i32_w]
                rfl
              refine pure_ (i := 14) (N := some 57) (v := ?_) (a' := ?_) #[true, true, true, true, true, true, true, true, true, true, true, true, true, true, true, false] rfl rfl (by kernel_rfl) (fun _ _ _ h => h) (Or.inl ⟨by rfl, ?_⟩) ?_ ?_
              rotate_left
              · intro w'
                go_simp
                with_reducible rfl
              rotate_left
              · simp only [Act.put, List.setIfInBounds_toArray, List.set_cons_zero, List.set_cons_succ, i64_w, i32_w]
                rfl
              have p2 : w7.cell? ⟨g, 2, none⟩ = some (.slice a2_ q3.length b2_) := (blk_cell B7.out 2).trans rfl
              have pf2 : w7.frozen? ⟨g, 2, none⟩ = false := blk_frozen B7.out 2
              refine last_ (i := 15) (N := none) #[true, true, true, true, true, true, true, true, true, true, true, true, true, true, true, true] rfl rfl (by kernel_rfl) (by decide) (fun K hK => ?_)
              refine skip_ (w1 := ?_) (by rfl) rfl ?_ ?_
              rotate_left
              · go_simp
                rfl
              refine hK.out _ _ ?_
              clear hK K
              refine done_ (by kernel_rfl) ?_
              have R8 := Aside0.mk (show (w7.setCell ⟨g, 2, none⟩ (.slice A7 wn.length c7)).heap[gr]? = _ from (Below.heap_setCell w7 ⟨g, 2, none⟩ _ gr (fun e => NG.out e.symm)).trans R7.out)
              generalize w7.setCell ⟨g, 2, none⟩ (.slice A7 wn.length c7) = w8 at D8 R8 ⊢
              clear p2 pf2 B7 R7 hHeld
              have HD := Aside0.mk hdn
              clear hdn
              go_wp2_with (go_at_call 30; refine (burn_at true D8.out.1 HD.out).mono ?_; rintro e w9 ⟨rfl, hs9⟩; have D9 := Aside0.mk (D8.out.step hs9); have R9 := Aside0.mk ((hs9.2.1.2 gr (blk_lt R8.out) (fun e => NG.out e.symm) (by simp)).trans R8.out); have g0 : w9.cell? ⟨g, 0, none⟩ = some (.int .u32 q1) := (blk_cell D9.out.1 0).trans rfl; have g1 : w9.cell? ⟨g, 1, none⟩ = some (.slice a1_ q2.length b1_) := (blk_cell D9.out.1 1).trans rfl; have g2 : w9.cell? ⟨g, 2, none⟩ = some (.slice A7 wn.length c7) := (blk_cell D9.out.1 2).trans rfl; have g3 : w9.cell? ⟨g, 3, none⟩ = some (.bool true) := (blk_cell D9.out.1 3).trans rfl; have g4 : w9.cell? ⟨g, 4, none⟩ = some (.int .i64 (fuseOf q5)) := (blk_cell D9.out.1 4).trans rfl; have r0 : w9.cell? ⟨gr, 0, none⟩ = some (.int .u32 0) := (blk_cell R9.out 0).trans rfl; have r1 : w9.cell? ⟨gr, 1, none⟩ = some (.slice none 0 0) := (blk_cell R9.out 1).trans rfl; have r2 : w9.cell? ⟨gr, 2, none⟩ = some (.slice none 0 0) := (blk_cell R9.out 2).trans rfl; have r3 : w9.cell? ⟨gr, 3, none⟩ = some (.bool false) := (blk_cell R9.out 3).trans rfl; have r4 : w9.cell? ⟨gr, 4, none⟩ = some (.int .i64 0) := (blk_cell R9.out 4).trans rfl; have rf0 : w9.frozen? ⟨gr, 0, none⟩ = false := blk_frozen R9.out 0; have rf1 : w9.frozen? ⟨gr, 1, none⟩ = false := blk_frozen R9.out 1; have rf2 : w9.frozen? ⟨gr, 2, none⟩ = false := blk_frozen R9.out 2; have rf3 : w9.frozen? ⟨gr, 3, none⟩ = false := blk_frozen R9.out 3; have rf4 : w9.frozen? ⟨gr, 4, none⟩ = false := blk_frozen R9.out 4; clear hs9 D8 R8)
              
              have hs := res_dev D9.out R9.out GR.out
              refine bodyPost_ret (results_ct rfl _ _ gr 25 #[.int .u32 q1, .slice a1_ q2.length b1_, .slice A7 wn.length c7, .bool true, .int .i64 (fuseOf q5)] (0, 0) _ rfl hs.1 Tryd.underlying25 rfl (by kernel_rfl)) rfl ?_
              exact ⟨_, _, rfl, hs.2⟩
            | false =>
              go_enter Tryd.func13, Tryd.ntmps13
              go_wp2_with (first | ((with_reducible refine gate_dst (N := 3) rfl ?_); refine box_event ?hg (N := 3) ?hd (cs := #[.int .u32 a0_0, .slice A0_1 l0_1.length c0_1, .slice A0_2 l0_2.length c0_2, .bool false, .int .i64 a0_4]) (t := 25) ?hr ?_; (case hd => rfl); (case hg => rfl); (case hr => first | (go_simp; done) | (go_simp; rfl)); intro gd hgd w1 hx hbx; have BD1 := Aside0.mk hx; have K1 := Aside0.mk hbx; have GD := Aside0.mk (show w.heap.size ≤ gd by omega); have z0 : w1.cell? ⟨gd, 0, none⟩ = some (.int .u32 a0_0) := (blk_cell BD1.out 0).trans rfl; have z1 : w1.cell? ⟨gd, 1, none⟩ = some (.slice A0_1 l0_1.length c0_1) := (blk_cell BD1.out 1).trans rfl; have z2 : w1.cell? ⟨gd, 2, none⟩ = some (.slice A0_2 l0_2.length c0_2) := (blk_cell BD1.out 2).trans rfl; have z3 : w1.cell? ⟨gd, 3, none⟩ = some (.bool false) := (blk_cell BD1.out 3).trans rfl; have z4 : w1.cell? ⟨gd, 4, none⟩ = some (.int .i64 a0_4) := (blk_cell BD1.out 4).trans rfl; clear hx hbx hgd) | ((with_reducible refine gate_dst (N := 6) rfl ?_); refine box_event ?hg (N := 6) ?hd (cs := #[.int .u32 0, .slice none 0 0, .slice none 0 0, .bool false, .int .i64 0]) (t := 25) ?hr ?_; (case hd => rfl); (case hg => rfl); (case hr => first | (go_simp; done) | (go_simp; rfl)); intro gr hgr w2 hx hbx; have BR2 := Aside0.mk hx; have BD2 := Aside0.mk (blk_below BD1.out hbx); have K2 := Aside0.mk (below_step K1.out hbx); have NE := Aside0.mk (show gr ≠ gd by rw [hgr]; exact fun e => Nat.lt_irrefl _ (e ▸ blk_lt BD1.out)); have GR := Aside0.mk (show w.heap.size ≤ gr by rw [hgr]; exact K1.out.size); clear z0 z1 z2 z3 z4; have z0 : w2.cell? ⟨gd, 0, none⟩ = some (.int .u32 a0_0) := (blk_cell BD2.out 0).trans rfl; have z1 : w2.cell? ⟨gd, 1, none⟩ = some (.slice A0_1 l0_1.length c0_1) := (blk_cell BD2.out 1).trans rfl; have z2 : w2.cell? ⟨gd, 2, none⟩ = some (.slice A0_2 l0_2.length c0_2) := (blk_cell BD2.out 2).trans rfl; have z3 : w2.cell? ⟨gd, 3, none⟩ = some (.bool false) := (blk_cell BD2.out 3).trans rfl; have z4 : w2.cell? ⟨gd, 4, none⟩ = some (.int .i64 a0_4) := (blk_cell BD2.out 4).trans rfl; clear hx hbx hgr K1 BD1) | (go_at_call 21; refine (dev_Check.calls k a0_0 A0_1 c0_1 l0_1 A0_2 c0_2 l0_2 false a0_4 _ _ (Kd.C_below HR1.out K2.out) HC1.out (Kd.C_below HR2.out K2.out) HC2.out HY.out).mono ?_; rintro e w3 ⟨rfl, h3⟩; have BR3 := Aside0.mk (blk_below BR2.out h3); have BD3 := Aside0.mk (blk_below BD2.out h3); have K3 := Aside0.mk (below_step K2.out h3); clear z0 z1 z2 z3 z4; have z0 : w3.cell? ⟨gd, 0, none⟩ = some (.int .u32 a0_0) := (blk_cell BD3.out 0).trans rfl; have z1 : w3.cell? ⟨gd, 1, none⟩ = some (.slice A0_1 l0_1.length c0_1) := (blk_cell BD3.out 1).trans rfl; have z2 : w3.cell? ⟨gd, 2, none⟩ = some (.slice A0_2 l0_2.length c0_2) := (blk_cell BD3.out 2).trans rfl; have z3 : w3.cell? ⟨gd, 3, none⟩ = some (.bool false) := (blk_cell BD3.out 3).trans rfl; have z4 : w3.cell? ⟨gd, 4, none⟩ = some (.int .i64 a0_4) := (blk_cell BD3.out 4).trans rfl; have r0 : w3.cell? ⟨gr, 0, none⟩ = some (.int .u32 0) := (blk_cell BR3.out 0).trans rfl; have r1 : w3.cell? ⟨gr, 1, none⟩ = some (.slice none 0 0) := (blk_cell BR3.out 1).trans rfl; have r2 : w3.cell? ⟨gr, 2, none⟩ = some (.slice none 0 0) := (blk_cell BR3.out 2).trans rfl; have r3 : w3.cell? ⟨gr, 3, none⟩ = some (.bool false) := (blk_cell BR3.out 3).trans rfl; have r4 : w3.cell? ⟨gr, 4, none⟩ = some (.int .i64 0) := (blk_cell BR3.out 4).trans rfl; have rf0 : w3.frozen? ⟨gr, 0, none⟩ = false := blk_frozen BR3.out 0; have rf1 : w3.frozen? ⟨gr, 1, none⟩ = false := blk_frozen BR3.out 1; have rf2 : w3.frozen? ⟨gr, 2, none⟩ = false := blk_frozen BR3.out 2; have rf3 : w3.frozen? ⟨gr, 3, none⟩ = false := blk_frozen BR3.out 3; have rf4 : w3.frozen? ⟨gr, 4, none⟩ = false := blk_frozen BR3.out 4; clear h3 BR2 BD2 K2) | (go_at_call 28; refine (open_calls a0_0 A0_1 c0_1 l0_1 A0_2 c0_2 l0_2 false a0_4 q1 q2 q3 q4 q5 w _ K3.out (Kd.C_below HR1.out K3.out) HC1.out (Kd.C_below HR2.out K3.out) HC2.out HO.out).mono ?_; rintro e w4 ⟨g, a1_, b1_, a2_, b2_, rfl, hg4, h4, hd4⟩; have D4 := Aside0.mk hd4; have BR4 := Aside0.mk (blk_below BR3.out h4); have BD4 := Aside0.mk (blk_below BD3.out h4); have NG := Aside0.mk (show g ≠ gr from fun e => by have := blk_lt BR3.out; omega); have ND := Aside0.mk (show g ≠ gd from fun e => by have := blk_lt BD3.out; omega); clear z0 z1 z2 z3 z4 r0 r1 r2 r3 r4 rf0 rf1 rf2 rf3 rf4; have z0 : w4.cell? ⟨gd, 0, none⟩ = some (.int .u32 a0_0) := (blk_cell BD4.out 0).trans rfl; have z1 : w4.cell? ⟨gd, 1, none⟩ = some (.slice A0_1 l0_1.length c0_1) := (blk_cell BD4.out 1).trans rfl; have z2 : w4.cell? ⟨gd, 2, none⟩ = some (.slice A0_2 l0_2.length c0_2) := (blk_cell BD4.out 2).trans rfl; have z3 : w4.cell? ⟨gd, 3, none⟩ = some (.bool false) := (blk_cell BD4.out 3).trans rfl; have z4 : w4.cell? ⟨gd, 4, none⟩ = some (.int .i64 a0_4) := (blk_cell BD4.out 4).trans rfl; have r0 : w4.cell? ⟨gr, 0, none⟩ = some (.int .u32 0) := (blk_cell BR4.out 0).trans rfl; have r1 : w4.cell? ⟨gr, 1, none⟩ = some (.slice none 0 0) := (blk_cell BR4.out 1).trans rfl; have r2 : w4.cell? ⟨gr, 2, none⟩ = some (.slice none 0 0) := (blk_cell BR4.out 2).trans rfl; have r3 : w4.cell? ⟨gr, 3, none⟩ = some (.bool false) := (blk_cell BR4.out 3).trans rfl; have r4 : w4.cell? ⟨gr, 4, none⟩ = some (.int .i64 0) := (blk_cell BR4.out 4).trans rfl; have rf0 : w4.frozen? ⟨gr, 0, none⟩ = false := blk_frozen BR4.out 0; have rf1 : w4.frozen? ⟨gr, 1, none⟩ = false := blk_frozen BR4.out 1; have rf2 : w4.frozen? ⟨gr, 2, none⟩ = false := blk_frozen BR4.out 2; have rf3 : w4.frozen? ⟨gr, 3, none⟩ = false := blk_frozen BR4.out 3; have rf4 : w4.frozen? ⟨gr, 4, none⟩ = false := blk_frozen BR4.out 4; have g0 : w4.cell? ⟨g, 0, none⟩ = some (.int .u32 q1) := (blk_cell D4.out.1 0).trans rfl; have g1 : w4.cell? ⟨g, 1, none⟩ = some (.slice a1_ q2.length b1_) := (blk_cell D4.out.1 1).trans rfl; have g2 : w4.cell? ⟨g, 2, none⟩ = some (.slice a2_ q3.length b2_) := (blk_cell D4.out.1 2).trans rfl; have g3 : w4.cell? ⟨g, 3, none⟩ = some (.bool q4) := (blk_cell D4.out.1 3).trans rfl; have g4 : w4.cell? ⟨g, 4, none⟩ = some (.int .i64 q5) := (blk_cell D4.out.1 4).trans rfl; clear h4 hd4 hg4 BR3 BD3 K3))
              have hDd := Aside0.mk D4.out.drew
              have hRd := Aside0.mk (blk_drew BR4.out)
              refine start_ (n := 16) (S := fun w' => w'.cell? ⟨g, 2, none⟩ = some (.slice a2_ q3.length b2_) ∧ w'.cell? ⟨g, 0, none⟩ = some (.int .u32 q1)) (ds := [15]) #[false, false, false, false, false, false, false, false, false, false, false, false, false, false, false, false] (by kernel_rfl) rfl rfl ⟨g2, g0⟩ (fun hHeld => ?_)
              clear g0 g1 g2 g3 g4 r0 r1 r2 r3 r4 rf0 rf1 rf2 rf3 rf4 z0 z1 z2 z3 z4 D4 BR4 BD4
              generalize w4.drew = wd at hDd hRd hHeld ⊢
              refine pure_ (i := 0) (N := some 43) (v := ?_) (a' := ?_) #[true, false, false, false, false, false, false, false, false, false, false, false, false, false, false, false] rfl rfl (by kernel_rfl) (fun _ _ _ h => h) (Or.inl ⟨by rfl, ?_⟩) ?_ ?_
              rotate_left
              · intro w'
                go_simp
                with_reducible rfl
              rotate_left
              · simp only [Act.put, List.setIfInBounds_toArray, List.set_cons_zero, List.set_cons_succ, i64_w, i32_w]
                rfl
              refine pure_ (i := 1) (N := some 44) (v := ?_) (a' := ?_) #[true, true, false, false, false, false, false, false, false, false, false, false, false, false, false, false] rfl rfl (by kernel_rfl) (fun _ _ _ h => h) (Or.inl ⟨by rfl, ?_⟩) ?_ ?_
              rotate_left
              · intro w'
                go_simp
                with_reducible rfl
              rotate_left
              · simp only [Act.put, List.setIfInBounds_toArray, List.set_cons_zero, List.set_cons_succ, i64_w, i32_w]
                rfl
              refine pure_ (i := 2) (N := some 45) (v := ?_) (a' := ?_) #[true, true, true, false, false, false, false, false, false, false, false, false, false, false, false, false] rfl rfl (by kernel_rfl) (fun _ _ _ h => h) (Or.inl ⟨by rfl, ?_⟩) ?_ ?_
              rotate_left
              · intro w'
                go_simp
                with_reducible rfl
              rotate_left
              · simp only [Act.put, List.setIfInBounds_toArray, List.set_cons_zero, List.set_cons_succ, i64_w, i32_w]
                rfl
              refine pure_ (i := 3) (N := some 46) (v := ?_) (a' := ?_) #[true, true, true, true, false, false, false, false, false, false, false, false, false, false, false, false] rfl rfl (by kernel_rfl) (fun _ _ _ h => h) (Or.inl ⟨by rfl, ?_⟩) ?_ ?_
              rotate_left
              · intro w'
                go_simp
                with_reducible rfl
              rotate_left
              · simp only [Act.put, List.setIfInBounds_toArray, List.set_cons_zero, List.set_cons_succ, i64_w, i32_w]
                rfl
              refine pure_ (i := 4) (N := some 47) (v := ?_) (a' := ?_) #[true, true, true, true, true, false, false, false, false, false, false, false, false, false, false, false] rfl rfl (by kernel_rfl) (fun _ _ _ h => h) (Or.inl ⟨by rfl, ?_⟩) ?_ ?_
              rotate_left
              · intro w'
                go_simp
                with_reducible rfl
              rotate_left
              · simp only [Act.put, List.setIfInBounds_toArray, List.set_cons_zero, List.set_cons_succ, i64_w, i32_w]
                rfl
              refine take_ (i := 5) (N := some 48) (v := ?_) (a' := ?_) #[true, true, true, true, true, true, false, false, false, false, false, false, false, false, false, false] rfl rfl (by kernel_rfl) (fun _ _ _ h => h) (Or.inl ⟨by rfl, ?_⟩) hHeld ?_ ?_
              rotate_left
              · rintro w' ⟨s0, s1⟩
                go_simp
                with_reducible rfl
              rotate_left
              · simp only [Act.put, List.setIfInBounds_toArray, List.set_cons_zero, List.set_cons_succ, i64_w, i32_w]
                rfl
              refine pure_ (i := 6) (N := some 49) (v := ?_) (a' := ?_) #[true, true, true, true, true, true, true, false, false, false, false, false, false, false, false, false] rfl rfl (by kernel_rfl) (fun _ _ _ h => h) (Or.inl ⟨by rfl, ?_⟩) ?_ ?_
              rotate_left
              · intro w'
                go_simp
                with_reducible rfl
              rotate_left
              · simp only [Act.put, List.setIfInBounds_toArray, List.set_cons_zero, List.set_cons_succ, i64_w, i32_w]
                rfl
              refine pure_ (i := 7) (N := some 50) (v := ?_) (a' := ?_) #[true, true, true, true, true, true, true, true, false, false, false, false, false, false, false, false] rfl rfl (by kernel_rfl) (fun _ _ _ h => h) (Or.inl ⟨by rfl, ?_⟩) ?_ ?_
              rotate_left
              · intro w'
                go_simp
                with_reducible rfl
              rotate_left
              · simp only [Act.put, List.setIfInBounds_toArray, List.set_cons_zero, List.set_cons_succ, i64_w, i32_w]
                rfl
              refine one_ (i := 8) (N := some 51) #[true, true, true, true, true, true, true, true, true, false, false, false, false, false, false, false] rfl rfl (by kernel_rfl) (by decide) (fun K hK => ?_)
              refine goes_ Tryd.func29 (by kernel_rfl) rfl #[.string a2] (by rfl) rfl rfl (by (try simp only [List.map_toArray, List.map_cons, List.map_nil]); first | done | rfl) ?_
              with_reducible refine (dev_cut.calls a2 t _ HT.out).mono ?_
              rintro e w' ⟨rfl, ⟨nd, hnd⟩⟩
              have hDe := Aside0.mk (hDd.out.below (w' := w') (by rw [hnd]; exact pw_below_drewN (Below.refl _ _) nd))
              have hRe := Aside0.mk (show w'.heap[gr]? = some (.cells #[.int .u32 0, .slice none 0 0, .slice none 0 0, .bool false, .int .i64 0] 25 (0, 0)) by rw [hnd]; exact blk_drewN hRd.out nd)
              clear hnd hDd hRd
              refine ⟨_, rfl, ?_⟩
              refine hK.out _ _ ⟨(blk_cell hDe.out.1 2).trans rfl, (blk_cell hDe.out.1 0).trans rfl⟩ (fun hHeld => ?_)
              clear hK K
              refine norm_ (a' := ?_) ?_ ?_
              rotate_left
              · show Act.put _ (some 51) _ = _
                simp only [Act.put, List.setIfInBounds_toArray, List.set_cons_zero, List.set_cons_succ, i64_w, i32_w]
                rfl
              refine pure_ (i := 9) (N := some 52) (v := ?_) (a' := ?_) #[true, true, true, true, true, true, true, true, true, true, false, false, false, false, false, false] rfl rfl (by kernel_rfl) (fun _ _ _ h => h) (Or.inl ⟨by rfl, ?_⟩) ?_ ?_
              rotate_left
              · intro w'
                go_simp
                with_reducible rfl
              rotate_left
              · simp only [Act.put, List.setIfInBounds_toArray, List.set_cons_zero, List.set_cons_succ, i64_w, i32_w]
                rfl
              refine one_ (i := 10) (N := some 53) #[true, true, true, true, true, true, true, true, true, true, true, false, false, false, false, false] rfl rfl (by kernel_rfl) (by decide) (fun K hK => ?_)
              refine value_ (w1 := ?_) (v := ?_) (by rfl) rfl ?_ ?_
              rotate_left 2
              · go_simp
                constructor
                · rfl
                · rfl
              refine hK.out _ _ ⟨(blk_cell (blk_alloc hDe.out.1 _) 2).trans rfl, (blk_cell (blk_alloc hDe.out.1 _) 0).trans rfl⟩ (fun hHeld => ?_)
              clear hK K
              refine norm_ (a' := ?_) ?_ ?_
              rotate_left
              · show Act.put _ (some 53) _ = _
                simp only [Act.put, List.setIfInBounds_toArray, List.set_cons_zero, List.set_cons_succ, i64_w, i32_w]
                rfl
              refine one_ (i := 11) (N := some 54) #[true, true, true, true, true, true, true, true, true, true, true, true, false, false, false, false] rfl rfl (by kernel_rfl) (by decide) (fun K hK => ?_)
              refine Kd.R_append_step k39 (w0 := w) w.heap.size (by rfl) (.tmp 48) (.tmp 53) 23 39 (.agg #[(.int .u32 0), (.string ⟨#[]⟩)]) 24 rfl Tryd.underlying23 info39 rfl (by decide) (by omega) (.slice a2_ q3.length b2_) q3 (⟨a1, t⟩ : S39) [.int .u32 a1, .string t] (fun k_ => some k_ ≠ (.slice a1_ q2.length b1_ : Value).ownBlock) (fun _ => False) rfl rfl ?aP (fun _ hk => hk.elim) ?aF ?aO ?aB ?aS ?aL ?_
              (case aP => exact k39_mkM _ _ _ (⟨a1, t⟩ : S39))
              (case aB => exact hDe.out.2.2.2.2)
              (case aF => exact (fun k_ hk => Kd.fresh' (Kd.R_lt hDe.out.2.2.1) k_ hk))
              (case aO => exact hDe.out.2.2.2.1)
              (case aS => exact hDe.out.2.2.2.2.size)
              (case aL => have := H5.out; omega)
              intro v7 w7 ho hb hg hat
              rw [HW.out] at ho
              obtain ⟨A7, c7, rfl⟩ := Kd.R_slice ho
              have B7 := Aside0.mk (blk_grown hDe.out.1 hg (own_ne hDe.out.2.2.2.1 hDe.out.1 (by decide)))
              have R7 := Aside0.mk (blk_grown hRe.out hg (own_ne hDe.out.2.2.2.1 hRe.out (by decide)))
              have D8 := Aside0.mk (hDe.out.wait hg hat hb ho)
              clear hDe hRe ho hb hg hat
              refine hK.out _ _ ⟨(blk_cell B7.out 2).trans rfl, (blk_cell B7.out 0).trans rfl⟩ (fun hHeld => ?_)
              clear hK K
              refine norm_ (a' := ?_) ?_ ?_
              rotate_left
              · show Act.put _ (some 54) _ = _
                simp only [Act.put, List.setIfInBounds_toArray, List.set_cons_zero, List.set_cons_succ, i64_w, i32_w]
                rfl
              refine pure_ (i := 12) (N := some 55) (v := ?_) (a' := ?_) #[true, true, true, true, true, true, true, true, true, true, true, true, true, false, false, false] rfl rfl (by kernel_rfl) (fun _ _ _ h => h) (Or.inl ⟨by rfl, ?_⟩) ?_ ?_
              rotate_left
              · intro w'
                go_simp
                with_reducible rfl
              rotate_left
              · simp only [Act.put, List.setIfInBounds_toArray, List.set_cons_zero, List.set_cons_succ, i64_w, i32_w]
                rfl
              refine pure_ (i := 13) (N := some 56) (v := ?_) (a' := ?_) #[true, true, true, true, true, true, true, true, true, true, true, true, true, true, false, false] rfl rfl (by kernel_rfl) (fun _ _ _ h => h) (Or.inl ⟨by rfl, ?_⟩) ?_ ?_
              rotate_left
              · intro w'
                go_simp
                with_reducible rfl
              rotate_left
              · simp only [Act.put, List.setIfInBounds_toArray, List.set_cons_zero, List.set_cons_succ, i64_w, i32_w]
                rfl
              refine pure_ (i := 14) (N := some 57) (v := ?_) (a' := ?_) #[true, true, true, true, true, true, true, true, true, true, true, true, true, true, true, false] rfl rfl (by kernel_rfl) (fun _ _ _ h => h) (Or.inl ⟨by rfl, ?_⟩) ?_ ?_
              rotate_left
              · intro w'
                go_simp
                with_reducible rfl
              rotate_left
              · simp only [Act.put, List.setIfInBounds_toArray, List.set_cons_zero, List.set_cons_succ, i64_w, i32_w]
                rfl
              have p2 : w7.cell? ⟨g, 2, none⟩ = some (.slice a2_ q3.length b2_) := (blk_cell B7.out 2).trans rfl
              have pf2 : w7.frozen? ⟨g, 2, none⟩ = false := blk_frozen B7.out 2
              refine last_ (i := 15) (N := none) #[true, true, true, true, true, true, true, true, true, true, true, true, true, true, true, true] rfl rfl (by kernel_rfl) (by decide) (fun K hK => ?_)
              refine skip_ (w1 := ?_) (by rfl) rfl ?_ ?_
              rotate_left
              · go_simp
                rfl
              refine hK.out _ _ ?_
              clear hK K
              refine done_ (by kernel_rfl) ?_
              have R8 := Aside0.mk (show (w7.setCell ⟨g, 2, none⟩ (.slice A7 wn.length c7)).heap[gr]? = _ from (Below.heap_setCell w7 ⟨g, 2, none⟩ _ gr (fun e => NG.out e.symm)).trans R7.out)
              generalize w7.setCell ⟨g, 2, none⟩ (.slice A7 wn.length c7) = w8 at D8 R8 ⊢
              clear p2 pf2 B7 R7 hHeld
              have HD := Aside0.mk hdn
              clear hdn
              go_wp2_with (go_at_call 30; refine (burn_at false D8.out.1 HD.out).mono ?_; rintro e w9 ⟨rfl, hs9⟩; have D9 := Aside0.mk (D8.out.step hs9); have R9 := Aside0.mk ((hs9.2.1.2 gr (blk_lt R8.out) (fun e => NG.out e.symm) (by simp)).trans R8.out); have g0 : w9.cell? ⟨g, 0, none⟩ = some (.int .u32 q1) := (blk_cell D9.out.1 0).trans rfl; have g1 : w9.cell? ⟨g, 1, none⟩ = some (.slice a1_ q2.length b1_) := (blk_cell D9.out.1 1).trans rfl; have g2 : w9.cell? ⟨g, 2, none⟩ = some (.slice A7 wn.length c7) := (blk_cell D9.out.1 2).trans rfl; have g3 : w9.cell? ⟨g, 3, none⟩ = some (.bool false) := (blk_cell D9.out.1 3).trans rfl; have g4 : w9.cell? ⟨g, 4, none⟩ = some (.int .i64 (fuseOf q5)) := (blk_cell D9.out.1 4).trans rfl; have r0 : w9.cell? ⟨gr, 0, none⟩ = some (.int .u32 0) := (blk_cell R9.out 0).trans rfl; have r1 : w9.cell? ⟨gr, 1, none⟩ = some (.slice none 0 0) := (blk_cell R9.out 1).trans rfl; have r2 : w9.cell? ⟨gr, 2, none⟩ = some (.slice none 0 0) := (blk_cell R9.out 2).trans rfl; have r3 : w9.cell? ⟨gr, 3, none⟩ = some (.bool false) := (blk_cell R9.out 3).trans rfl; have r4 : w9.cell? ⟨gr, 4, none⟩ = some (.int .i64 0) := (blk_cell R9.out 4).trans rfl; have rf0 : w9.frozen? ⟨gr, 0, none⟩ = false := blk_frozen R9.out 0; have rf1 : w9.frozen? ⟨gr, 1, none⟩ = false := blk_frozen R9.out 1; have rf2 : w9.frozen? ⟨gr, 2, none⟩ = false := blk_frozen R9.out 2; have rf3 : w9.frozen? ⟨gr, 3, none⟩ = false := blk_frozen R9.out 3; have rf4 : w9.frozen? ⟨gr, 4, none⟩ = false := blk_frozen R9.out 4; clear hs9 D8 R8)
              
              have hs := res_dev D9.out R9.out GR.out
              refine bodyPost_ret (results_ct rfl _ _ gr 25 #[.int .u32 q1, .slice a1_ q2.length b1_, .slice A7 wn.length c7, .bool false, .int .i64 (fuseOf q5)] (0, 0) _ rfl hs.1 Tryd.underlying25 rfl (by kernel_rfl)) rfl ?_
              exact ⟨_, _, rfl, hs.2⟩
  · rw [if_neg h0] at h
    cases h
    have h0b : (r6 == 0) = false := beq_eq_false_iff_ne.mpr h0
    have h0c : (r6 != 0) = true := bne_iff_ne.mpr h0
    go_enter Tryd.func13, Tryd.ntmps13
    go_wp2_with (first | ((with_reducible refine gate_dst (N := 3) rfl ?_); refine box_event ?hg (N := 3) ?hd (cs := #[.int .u32 a0_0, .slice A0_1 l0_1.length c0_1, .slice A0_2 l0_2.length c0_2, .bool a0_3, .int .i64 a0_4]) (t := 25) ?hr ?_; (case hd => rfl); (case hg => rfl); (case hr => first | (go_simp; done) | (go_simp; rfl)); intro gd hgd w1 hx hbx; have BD1 := Aside0.mk hx; have K1 := Aside0.mk hbx; have GD := Aside0.mk (show w.heap.size ≤ gd by omega); have z0 : w1.cell? ⟨gd, 0, none⟩ = some (.int .u32 a0_0) := (blk_cell BD1.out 0).trans rfl; have z1 : w1.cell? ⟨gd, 1, none⟩ = some (.slice A0_1 l0_1.length c0_1) := (blk_cell BD1.out 1).trans rfl; have z2 : w1.cell? ⟨gd, 2, none⟩ = some (.slice A0_2 l0_2.length c0_2) := (blk_cell BD1.out 2).trans rfl; have z3 : w1.cell? ⟨gd, 3, none⟩ = some (.bool a0_3) := (blk_cell BD1.out 3).trans rfl; have z4 : w1.cell? ⟨gd, 4, none⟩ = some (.int .i64 a0_4) := (blk_cell BD1.out 4).trans rfl; clear hx hbx hgd) | ((with_reducible refine gate_dst (N := 6) rfl ?_); refine box_event ?hg (N := 6) ?hd (cs := #[.int .u32 0, .slice none 0 0, .slice none 0 0, .bool false, .int .i64 0]) (t := 25) ?hr ?_; (case hd => rfl); (case hg => rfl); (case hr => first | (go_simp; done) | (go_simp; rfl)); intro gr hgr w2 hx hbx; have BR2 := Aside0.mk hx; have BD2 := Aside0.mk (blk_below BD1.out hbx); have K2 := Aside0.mk (below_step K1.out hbx); have NE := Aside0.mk (show gr ≠ gd by rw [hgr]; exact fun e => Nat.lt_irrefl _ (e ▸ blk_lt BD1.out)); have GR := Aside0.mk (show w.heap.size ≤ gr by rw [hgr]; exact K1.out.size); clear z0 z1 z2 z3 z4; have z0 : w2.cell? ⟨gd, 0, none⟩ = some (.int .u32 a0_0) := (blk_cell BD2.out 0).trans rfl; have z1 : w2.cell? ⟨gd, 1, none⟩ = some (.slice A0_1 l0_1.length c0_1) := (blk_cell BD2.out 1).trans rfl; have z2 : w2.cell? ⟨gd, 2, none⟩ = some (.slice A0_2 l0_2.length c0_2) := (blk_cell BD2.out 2).trans rfl; have z3 : w2.cell? ⟨gd, 3, none⟩ = some (.bool a0_3) := (blk_cell BD2.out 3).trans rfl; have z4 : w2.cell? ⟨gd, 4, none⟩ = some (.int .i64 a0_4) := (blk_cell BD2.out 4).trans rfl; clear hx hbx hgr K1 BD1) | (go_at_call 21; refine (dev_Check.calls k a0_0 A0_1 c0_1 l0_1 A0_2 c0_2 l0_2 a0_3 a0_4 _ _ (Kd.C_below HR1.out K2.out) HC1.out (Kd.C_below HR2.out K2.out) HC2.out HY.out).mono ?_; rintro e w3 ⟨rfl, h3⟩; have BR3 := Aside0.mk (blk_below BR2.out h3); have BD3 := Aside0.mk (blk_below BD2.out h3); have K3 := Aside0.mk (below_step K2.out h3); clear z0 z1 z2 z3 z4; have z0 : w3.cell? ⟨gd, 0, none⟩ = some (.int .u32 a0_0) := (blk_cell BD3.out 0).trans rfl; have z1 : w3.cell? ⟨gd, 1, none⟩ = some (.slice A0_1 l0_1.length c0_1) := (blk_cell BD3.out 1).trans rfl; have z2 : w3.cell? ⟨gd, 2, none⟩ = some (.slice A0_2 l0_2.length c0_2) := (blk_cell BD3.out 2).trans rfl; have z3 : w3.cell? ⟨gd, 3, none⟩ = some (.bool a0_3) := (blk_cell BD3.out 3).trans rfl; have z4 : w3.cell? ⟨gd, 4, none⟩ = some (.int .i64 a0_4) := (blk_cell BD3.out 4).trans rfl; have r0 : w3.cell? ⟨gr, 0, none⟩ = some (.int .u32 0) := (blk_cell BR3.out 0).trans rfl; have r1 : w3.cell? ⟨gr, 1, none⟩ = some (.slice none 0 0) := (blk_cell BR3.out 1).trans rfl; have r2 : w3.cell? ⟨gr, 2, none⟩ = some (.slice none 0 0) := (blk_cell BR3.out 2).trans rfl; have r3 : w3.cell? ⟨gr, 3, none⟩ = some (.bool false) := (blk_cell BR3.out 3).trans rfl; have r4 : w3.cell? ⟨gr, 4, none⟩ = some (.int .i64 0) := (blk_cell BR3.out 4).trans rfl; have rf0 : w3.frozen? ⟨gr, 0, none⟩ = false := blk_frozen BR3.out 0; have rf1 : w3.frozen? ⟨gr, 1, none⟩ = false := blk_frozen BR3.out 1; have rf2 : w3.frozen? ⟨gr, 2, none⟩ = false := blk_frozen BR3.out 2; have rf3 : w3.frozen? ⟨gr, 3, none⟩ = false := blk_frozen BR3.out 3; have rf4 : w3.frozen? ⟨gr, 4, none⟩ = false := blk_frozen BR3.out 4; clear h3 BR2 BD2 K2))
    have hs := res_zero K3.out BR3.out GR.out
    refine bodyPost_ret (results_ct rfl _ _ gr 25 #[.int .u32 0, .slice none 0 0, .slice none 0 0, .bool false, .int .i64 0] (0, 0) _ rfl hs.1 Tryd.underlying25 rfl (by kernel_rfl)) rfl ?_
    exact ⟨_, _, rfl, Kd.R_nil _ _ _ _ _, Kd.R_nil _ _ _ _ _, hs.2⟩
end Go.Proofs.YtcphflfjhkeooaaDoor.Z
end

section
/- dev.Flush: printed by gendev.py. -/
namespace Go.Proofs.YtcphflfjhkeooaaDoor.Z
open Go.RowKit Go.Proofs.YtcphflfjhkeooaaDoorW.PrintWords Go.Proofs.YtcphflfjhkeooaaDoorW.PrintLast Go.Proofs.YtcphflfjhkeooaaDoorW.PrintMore
set_option linter.unusedVariables false
set_option linter.unusedSimpArgs false
attribute [local go_sem ↓] Go.wp_at_zero Go.wp_at_succ
def putsF (k : Nat) : List Blk → List Blk → Option (List Blk)
  | bl, [] => some bl
  | bl, x :: wl => (putF k bl x).bind fun b => putsF k b wl
theorem putsF_mono : ∀ a1 a0 k, LeO (putsF k a0 a1) (putsF (k + 1) a0 a1) := by
  intro a1
  induction a1 with
  | nil => exact fun _ _ => LeO.refl _
  | cons x wl ih => exact fun a0 k => LeO.bind (putF_mono _ _ _) (fun _ => ih _ _)
theorem Drv.empty {w0 w : World} {g : Nat} {s : Int} {vB vW : Value} {bl wl : List Blk} {d : Bool} {f n : Int} (h : Drv w0 w g s vB vW bl wl d f n) : Drv w0 (w.setCell ⟨g, 2, none⟩ (.slice none 0 0)) g s vB (.slice none 0 0) bl [] d f n :=
  ⟨blk_set h.1 2 _, h.2.1, Kd.R_mono (Kd.R_far (p := ⟨g, 2, none⟩) (Kd.R_types h.2.2.1 h.1 (by decide)) (fun _ hk => hk.2) _) (fun _ _ e => by cases e), Kd.R_nil _ _ _ _ _, h.2.2.2.2.setCell (p := ⟨g, 2, none⟩) h.2.1 _⟩
def dev_Flush.f (k : Nat) (a0_0 : Int) (l0_1 : List (S39)) (l0_2 : List (S39)) (a0_3 : Bool) (a0_4 : Int) : Option (Int × (List (S39)) × (List (S39)) × Bool × Int × Int) :=
  (dev_Check.f k a0_0 l0_1 l0_2 a0_3 a0_4).bind fun y => if y = 0 then ((dev_Own.f a0_0 l0_1 l0_2 a0_3 a0_4).bind fun q => if a0_3 = true then some (q.1, q.2.1, q.2.2.1, q.2.2.2.1, q.2.2.2.2, 17) else if downOf q.2.2.2.1 q.2.2.2.2 = true then some (q.1, q.2.1, q.2.2.1, true, fuseOf q.2.2.2.2, 17) else (putsF k q.2.1 q.2.2.1).bind fun b => some (q.1, b, ([] : List (S39)), false, fuseOf q.2.2.2.2, 0)) else some (0, ([] : List (S39)), ([] : List (S39)), false, 0, y)
theorem dev_Flush.mono : ∀ a0 a1 a2 a3 a4 k, LeO (dev_Flush.f k a0 a1 a2 a3 a4) (dev_Flush.f (k + 1) a0 a1 a2 a3 a4) := by
  intro a0 a1 a2 a3 a4 k
  unfold dev_Flush.f
  exact LeO.bind (dev_Check.mono _ _ _ _ _ _) (fun _ => LeO.ite (LeO.bind (LeO.refl _) (fun _ => LeO.ite (LeO.refl _) (LeO.ite (LeO.refl _) (LeO.bind (putsF_mono _ _ _) (fun _ => LeO.refl _))))) (LeO.refl _))
set_option maxRecDepth 100000 in
set_option maxHeartbeats 6400000 in
theorem dev_Flush.calls (k : Nat) (a0_0 : Int) (A0_1 : Option Addr) (c0_1 : Nat) (l0_1 : List (S39)) (A0_2 : Option Addr) (c0_2 : Nat) (l0_2 : List (S39)) (a0_3 : Bool) (a0_4 : Int) (r1 : Int) (r2 : List (S39)) (r3 : List (S39)) (r4 : Bool) (r5 : Int) (r6 : Int) (w : World) (hr0_1 : Kd.C k39 w A0_1 l0_1.length l0_1) (hc0_1 : l0_1.length ≤ c0_1) (hr0_2 : Kd.C k39 w A0_2 l0_2.length l0_2) (hc0_2 : l0_2.length ≤ c0_2) (h : dev_Flush.f k a0_0 l0_1 l0_2 a0_3 a0_4 = some (r1, r2, r3, r4, r5, r6)) :
    Calls Tryd.prog 15 #[.agg #[.int .u32 a0_0, .slice A0_1 l0_1.length c0_1, .slice A0_2 l0_2.length c0_2, .bool a0_3, .int .i64 a0_4]] w fun e w' => ∃ v1_ v2_ : Value, e = .returned (.tuple #[.agg #[.int .u32 r1, v1_, v2_, .bool r4, .int .i64 r5], .int .i64 r6]) ∧ Kd.R k39 39 w' w.heap.size (fun k_ => some k_ ≠ (v2_ : Value).ownBlock) v1_ r2 ∧ Kd.R k39 39 w' w.heap.size (fun k_ => some k_ ≠ (v1_ : Value).ownBlock) v2_ r3 ∧ Below w.heap.size w w' := by
  have HR1 := Aside0.mk hr0_1
  have HR2 := Aside0.mk hr0_2
  have HC1 := Aside0.mk hc0_1
  have HC2 := Aside0.mk hc0_2
  clear hr0_1 hr0_2 hc0_1 hc0_2
  unfold dev_Flush.f at h
  replace h := Option.bind_eq_some_iff.mp h
  obtain ⟨y, hy, h⟩ := h
  have HY := Aside0.mk hy
  clear hy
  by_cases h0 : y = 0
  · rw [if_pos h0] at h
    subst h0
    replace h := Option.bind_eq_some_iff.mp h
    obtain ⟨⟨q1, q2, q3, q4, q5⟩, hq, h⟩ := h
    have HO := Aside0.mk hq
    clear hq
    replace h : (if a0_3 = true then some (q1, q2, q3, q4, q5, 17) else if downOf q4 q5 = true then some (q1, q2, q3, true, fuseOf q5, 17) else (putsF k q2 q3).bind fun b => some (q1, b, ([] : List (S39)), false, fuseOf q5, 0)) = some (r1, r2, r3, r4, r5, r6) := h
    by_cases h1 : a0_3 = true
    · rw [if_pos h1] at h
      subst h1
      simp only [Option.some.injEq, Prod.mk.injEq] at h
      obtain ⟨rfl, rfl, rfl, rfl, rfl, rfl⟩ := h
      go_enter Tryd.func15, Tryd.ntmps15
      go_wp2_with (first | ((with_reducible refine gate_dst (N := 1) rfl ?_); refine box_event ?hg (N := 1) ?hd (cs := #[.int .u32 a0_0, .slice A0_1 l0_1.length c0_1, .slice A0_2 l0_2.length c0_2, .bool true, .int .i64 a0_4]) (t := 25) ?hr ?_; (case hd => rfl); (case hg => rfl); (case hr => first | (go_simp; done) | (go_simp; rfl)); intro gd hgd w1 hx hbx; have BD1 := Aside0.mk hx; have K1 := Aside0.mk hbx; have GD := Aside0.mk (show w.heap.size ≤ gd by omega); have z0 : w1.cell? ⟨gd, 0, none⟩ = some (.int .u32 a0_0) := (blk_cell BD1.out 0).trans rfl; have z1 : w1.cell? ⟨gd, 1, none⟩ = some (.slice A0_1 l0_1.length c0_1) := (blk_cell BD1.out 1).trans rfl; have z2 : w1.cell? ⟨gd, 2, none⟩ = some (.slice A0_2 l0_2.length c0_2) := (blk_cell BD1.out 2).trans rfl; have z3 : w1.cell? ⟨gd, 3, none⟩ = some (.bool true) := (blk_cell BD1.out 3).trans rfl; have z4 : w1.cell? ⟨gd, 4, none⟩ = some (.int .i64 a0_4) := (blk_cell BD1.out 4).trans rfl; clear hx hbx hgd) | ((with_reducible refine gate_dst (N := 2) rfl ?_); refine box_event ?hg (N := 2) ?hd (cs := #[.int .u32 0, .slice none 0 0, .slice none 0 0, .bool false, .int .i64 0]) (t := 25) ?hr ?_; (case hd => rfl); (case hg => rfl); (case hr => first | (go_simp; done) | (go_simp; rfl)); intro gr hgr w2 hx hbx; have BR2 := Aside0.mk hx; have BD2 := Aside0.mk (blk_below BD1.out hbx); have K2 := Aside0.mk (below_step K1.out hbx); have NE := Aside0.mk (show gr ≠ gd by rw [hgr]; exact fun e => Nat.lt_irrefl _ (e ▸ blk_lt BD1.out)); have GR := Aside0.mk (show w.heap.size ≤ gr by rw [hgr]; exact K1.out.size); clear z0 z1 z2 z3 z4; have z0 : w2.cell? ⟨gd, 0, none⟩ = some (.int .u32 a0_0) := (blk_cell BD2.out 0).trans rfl; have z1 : w2.cell? ⟨gd, 1, none⟩ = some (.slice A0_1 l0_1.length c0_1) := (blk_cell BD2.out 1).trans rfl; have z2 : w2.cell? ⟨gd, 2, none⟩ = some (.slice A0_2 l0_2.length c0_2) := (blk_cell BD2.out 2).trans rfl; have z3 : w2.cell? ⟨gd, 3, none⟩ = some (.bool true) := (blk_cell BD2.out 3).trans rfl; have z4 : w2.cell? ⟨gd, 4, none⟩ = some (.int .i64 a0_4) := (blk_cell BD2.out 4).trans rfl; clear hx hbx hgr K1 BD1) | (go_at_call 21; refine (dev_Check.calls k a0_0 A0_1 c0_1 l0_1 A0_2 c0_2 l0_2 true a0_4 _ _ (Kd.C_below HR1.out K2.out) HC1.out (Kd.C_below HR2.out K2.out) HC2.out HY.out).mono ?_; rintro e w3 ⟨rfl, h3⟩; have BR3 := Aside0.mk (blk_below BR2.out h3); have BD3 := Aside0.mk (blk_below BD2.out h3); have K3 := Aside0.mk (below_step K2.out h3); clear z0 z1 z2 z3 z4; have z0 : w3.cell? ⟨gd, 0, none⟩ = some (.int .u32 a0_0) := (blk_cell BD3.out 0).trans rfl; have z1 : w3.cell? ⟨gd, 1, none⟩ = some (.slice A0_1 l0_1.length c0_1) := (blk_cell BD3.out 1).trans rfl; have z2 : w3.cell? ⟨gd, 2, none⟩ = some (.slice A0_2 l0_2.length c0_2) := (blk_cell BD3.out 2).trans rfl; have z3 : w3.cell? ⟨gd, 3, none⟩ = some (.bool true) := (blk_cell BD3.out 3).trans rfl; have z4 : w3.cell? ⟨gd, 4, none⟩ = some (.int .i64 a0_4) := (blk_cell BD3.out 4).trans rfl; have r0 : w3.cell? ⟨gr, 0, none⟩ = some (.int .u32 0) := (blk_cell BR3.out 0).trans rfl; have r1 : w3.cell? ⟨gr, 1, none⟩ = some (.slice none 0 0) := (blk_cell BR3.out 1).trans rfl; have r2 : w3.cell? ⟨gr, 2, none⟩ = some (.slice none 0 0) := (blk_cell BR3.out 2).trans rfl; have r3 : w3.cell? ⟨gr, 3, none⟩ = some (.bool false) := (blk_cell BR3.out 3).trans rfl; have r4 : w3.cell? ⟨gr, 4, none⟩ = some (.int .i64 0) := (blk_cell BR3.out 4).trans rfl; have rf0 : w3.frozen? ⟨gr, 0, none⟩ = false := blk_frozen BR3.out 0; have rf1 : w3.frozen? ⟨gr, 1, none⟩ = false := blk_frozen BR3.out 1; have rf2 : w3.frozen? ⟨gr, 2, none⟩ = false := blk_frozen BR3.out 2; have rf3 : w3.frozen? ⟨gr, 3, none⟩ = false := blk_frozen BR3.out 3; have rf4 : w3.frozen? ⟨gr, 4, none⟩ = false := blk_frozen BR3.out 4; clear h3 BR2 BD2 K2) | (go_at_call 28; refine (open_calls a0_0 A0_1 c0_1 l0_1 A0_2 c0_2 l0_2 true a0_4 q1 q2 q3 q4 q5 w _ K3.out (Kd.C_below HR1.out K3.out) HC1.out (Kd.C_below HR2.out K3.out) HC2.out HO.out).mono ?_; rintro e w4 ⟨g, a1_, b1_, a2_, b2_, rfl, hg4, h4, hd4⟩; have D4 := Aside0.mk hd4; have BR4 := Aside0.mk (blk_below BR3.out h4); have BD4 := Aside0.mk (blk_below BD3.out h4); have NG := Aside0.mk (show g ≠ gr from fun e => by have := blk_lt BR3.out; omega); have ND := Aside0.mk (show g ≠ gd from fun e => by have := blk_lt BD3.out; omega); clear z0 z1 z2 z3 z4 r0 r1 r2 r3 r4 rf0 rf1 rf2 rf3 rf4; have z0 : w4.cell? ⟨gd, 0, none⟩ = some (.int .u32 a0_0) := (blk_cell BD4.out 0).trans rfl; have z1 : w4.cell? ⟨gd, 1, none⟩ = some (.slice A0_1 l0_1.length c0_1) := (blk_cell BD4.out 1).trans rfl; have z2 : w4.cell? ⟨gd, 2, none⟩ = some (.slice A0_2 l0_2.length c0_2) := (blk_cell BD4.out 2).trans rfl; have z3 : w4.cell? ⟨gd, 3, none⟩ = some (.bool true) := (blk_cell BD4.out 3).trans rfl; have z4 : w4.cell? ⟨gd, 4, none⟩ = some (.int .i64 a0_4) := (blk_cell BD4.out 4).trans rfl; have r0 : w4.cell? ⟨gr, 0, none⟩ = some (.int .u32 0) := (blk_cell BR4.out 0).trans rfl; have r1 : w4.cell? ⟨gr, 1, none⟩ = some (.slice none 0 0) := (blk_cell BR4.out 1).trans rfl; have r2 : w4.cell? ⟨gr, 2, none⟩ = some (.slice none 0 0) := (blk_cell BR4.out 2).trans rfl; have r3 : w4.cell? ⟨gr, 3, none⟩ = some (.bool false) := (blk_cell BR4.out 3).trans rfl; have r4 : w4.cell? ⟨gr, 4, none⟩ = some (.int .i64 0) := (blk_cell BR4.out 4).trans rfl; have rf0 : w4.frozen? ⟨gr, 0, none⟩ = false := blk_frozen BR4.out 0; have rf1 : w4.frozen? ⟨gr, 1, none⟩ = false := blk_frozen BR4.out 1; have rf2 : w4.frozen? ⟨gr, 2, none⟩ = false := blk_frozen BR4.out 2; have rf3 : w4.frozen? ⟨gr, 3, none⟩ = false := blk_frozen BR4.out 3; have rf4 : w4.frozen? ⟨gr, 4, none⟩ = false := blk_frozen BR4.out 4; have g0 : w4.cell? ⟨g, 0, none⟩ = some (.int .u32 q1) := (blk_cell D4.out.1 0).trans rfl; have g1 : w4.cell? ⟨g, 1, none⟩ = some (.slice a1_ q2.length b1_) := (blk_cell D4.out.1 1).trans rfl; have g2 : w4.cell? ⟨g, 2, none⟩ = some (.slice a2_ q3.length b2_) := (blk_cell D4.out.1 2).trans rfl; have g3 : w4.cell? ⟨g, 3, none⟩ = some (.bool q4) := (blk_cell D4.out.1 3).trans rfl; have g4 : w4.cell? ⟨g, 4, none⟩ = some (.int .i64 q5) := (blk_cell D4.out.1 4).trans rfl; clear h4 hd4 hg4 BR3 BD3 K3))
      have hs := res_dev D4.out BR4.out GR.out
      refine bodyPost_ret (results_ct rfl _ _ gr 25 #[.int .u32 q1, .slice a1_ q2.length b1_, .slice a2_ q3.length b2_, .bool q4, .int .i64 q5] (0, 0) _ rfl hs.1 Tryd.underlying25 rfl (by kernel_rfl)) rfl ?_
      exact ⟨_, _, rfl, hs.2⟩
    · rw [if_neg h1] at h
      replace h1 := Bool.eq_false_iff.mpr h1
      subst h1
      by_cases hdn : downOf q4 q5 = true
      · rw [if_pos hdn] at h
        simp only [Option.some.injEq, Prod.mk.injEq] at h
        obtain ⟨rfl, rfl, rfl, rfl, rfl, rfl⟩ := h
        have HDN := Aside0.mk hdn
        clear hdn
        go_enter Tryd.func15, Tryd.ntmps15
        go_wp2_with (first | ((with_reducible refine gate_dst (N := 1) rfl ?_); refine box_event ?hg (N := 1) ?hd (cs := #[.int .u32 a0_0, .slice A0_1 l0_1.length c0_1, .slice A0_2 l0_2.length c0_2, .bool false, .int .i64 a0_4]) (t := 25) ?hr ?_; (case hd => rfl); (case hg => rfl); (case hr => first | (go_simp; done) | (go_simp; rfl)); intro gd hgd w1 hx hbx; have BD1 := Aside0.mk hx; have K1 := Aside0.mk hbx; have GD := Aside0.mk (show w.heap.size ≤ gd by omega); have z0 : w1.cell? ⟨gd, 0, none⟩ = some (.int .u32 a0_0) := (blk_cell BD1.out 0).trans rfl; have z1 : w1.cell? ⟨gd, 1, none⟩ = some (.slice A0_1 l0_1.length c0_1) := (blk_cell BD1.out 1).trans rfl; have z2 : w1.cell? ⟨gd, 2, none⟩ = some (.slice A0_2 l0_2.length c0_2) := (blk_cell BD1.out 2).trans rfl; have z3 : w1.cell? ⟨gd, 3, none⟩ = some (.bool false) := (blk_cell BD1.out 3).trans rfl; have z4 : w1.cell? ⟨gd, 4, none⟩ = some (.int .i64 a0_4) := (blk_cell BD1.out 4).trans rfl; clear hx hbx hgd) | ((with_reducible refine gate_dst (N := 2) rfl ?_); refine box_event ?hg (N := 2) ?hd (cs := #[.int .u32 0, .slice none 0 0, .slice none 0 0, .bool false, .int .i64 0]) (t := 25) ?hr ?_; (case hd => rfl); (case hg => rfl); (case hr => first | (go_simp; done) | (go_simp; rfl)); intro gr hgr w2 hx hbx; have BR2 := Aside0.mk hx; have BD2 := Aside0.mk (blk_below BD1.out hbx); have K2 := Aside0.mk (below_step K1.out hbx); have NE := Aside0.mk (show gr ≠ gd by rw [hgr]; exact fun e => Nat.lt_irrefl _ (e ▸ blk_lt BD1.out)); have GR := Aside0.mk (show w.heap.size ≤ gr by rw [hgr]; exact K1.out.size); clear z0 z1 z2 z3 z4; have z0 : w2.cell? ⟨gd, 0, none⟩ = some (.int .u32 a0_0) := (blk_cell BD2.out 0).trans rfl; have z1 : w2.cell? ⟨gd, 1, none⟩ = some (.slice A0_1 l0_1.length c0_1) := (blk_cell BD2.out 1).trans rfl; have z2 : w2.cell? ⟨gd, 2, none⟩ = some (.slice A0_2 l0_2.length c0_2) := (blk_cell BD2.out 2).trans rfl; have z3 : w2.cell? ⟨gd, 3, none⟩ = some (.bool false) := (blk_cell BD2.out 3).trans rfl; have z4 : w2.cell? ⟨gd, 4, none⟩ = some (.int .i64 a0_4) := (blk_cell BD2.out 4).trans rfl; clear hx hbx hgr K1 BD1) | (go_at_call 21; refine (dev_Check.calls k a0_0 A0_1 c0_1 l0_1 A0_2 c0_2 l0_2 false a0_4 _ _ (Kd.C_below HR1.out K2.out) HC1.out (Kd.C_below HR2.out K2.out) HC2.out HY.out).mono ?_; rintro e w3 ⟨rfl, h3⟩; have BR3 := Aside0.mk (blk_below BR2.out h3); have BD3 := Aside0.mk (blk_below BD2.out h3); have K3 := Aside0.mk (below_step K2.out h3); clear z0 z1 z2 z3 z4; have z0 : w3.cell? ⟨gd, 0, none⟩ = some (.int .u32 a0_0) := (blk_cell BD3.out 0).trans rfl; have z1 : w3.cell? ⟨gd, 1, none⟩ = some (.slice A0_1 l0_1.length c0_1) := (blk_cell BD3.out 1).trans rfl; have z2 : w3.cell? ⟨gd, 2, none⟩ = some (.slice A0_2 l0_2.length c0_2) := (blk_cell BD3.out 2).trans rfl; have z3 : w3.cell? ⟨gd, 3, none⟩ = some (.bool false) := (blk_cell BD3.out 3).trans rfl; have z4 : w3.cell? ⟨gd, 4, none⟩ = some (.int .i64 a0_4) := (blk_cell BD3.out 4).trans rfl; have r0 : w3.cell? ⟨gr, 0, none⟩ = some (.int .u32 0) := (blk_cell BR3.out 0).trans rfl; have r1 : w3.cell? ⟨gr, 1, none⟩ = some (.slice none 0 0) := (blk_cell BR3.out 1).trans rfl; have r2 : w3.cell? ⟨gr, 2, none⟩ = some (.slice none 0 0) := (blk_cell BR3.out 2).trans rfl; have r3 : w3.cell? ⟨gr, 3, none⟩ = some (.bool false) := (blk_cell BR3.out 3).trans rfl; have r4 : w3.cell? ⟨gr, 4, none⟩ = some (.int .i64 0) := (blk_cell BR3.out 4).trans rfl; have rf0 : w3.frozen? ⟨gr, 0, none⟩ = false := blk_frozen BR3.out 0; have rf1 : w3.frozen? ⟨gr, 1, none⟩ = false := blk_frozen BR3.out 1; have rf2 : w3.frozen? ⟨gr, 2, none⟩ = false := blk_frozen BR3.out 2; have rf3 : w3.frozen? ⟨gr, 3, none⟩ = false := blk_frozen BR3.out 3; have rf4 : w3.frozen? ⟨gr, 4, none⟩ = false := blk_frozen BR3.out 4; clear h3 BR2 BD2 K2) | (go_at_call 28; refine (open_calls a0_0 A0_1 c0_1 l0_1 A0_2 c0_2 l0_2 false a0_4 q1 q2 q3 q4 q5 w _ K3.out (Kd.C_below HR1.out K3.out) HC1.out (Kd.C_below HR2.out K3.out) HC2.out HO.out).mono ?_; rintro e w4 ⟨g, a1_, b1_, a2_, b2_, rfl, hg4, h4, hd4⟩; have D4 := Aside0.mk hd4; have BR4 := Aside0.mk (blk_below BR3.out h4); have BD4 := Aside0.mk (blk_below BD3.out h4); have NG := Aside0.mk (show g ≠ gr from fun e => by have := blk_lt BR3.out; omega); have ND := Aside0.mk (show g ≠ gd from fun e => by have := blk_lt BD3.out; omega); clear z0 z1 z2 z3 z4 r0 r1 r2 r3 r4 rf0 rf1 rf2 rf3 rf4; have z0 : w4.cell? ⟨gd, 0, none⟩ = some (.int .u32 a0_0) := (blk_cell BD4.out 0).trans rfl; have z1 : w4.cell? ⟨gd, 1, none⟩ = some (.slice A0_1 l0_1.length c0_1) := (blk_cell BD4.out 1).trans rfl; have z2 : w4.cell? ⟨gd, 2, none⟩ = some (.slice A0_2 l0_2.length c0_2) := (blk_cell BD4.out 2).trans rfl; have z3 : w4.cell? ⟨gd, 3, none⟩ = some (.bool false) := (blk_cell BD4.out 3).trans rfl; have z4 : w4.cell? ⟨gd, 4, none⟩ = some (.int .i64 a0_4) := (blk_cell BD4.out 4).trans rfl; have r0 : w4.cell? ⟨gr, 0, none⟩ = some (.int .u32 0) := (blk_cell BR4.out 0).trans rfl; have r1 : w4.cell? ⟨gr, 1, none⟩ = some (.slice none 0 0) := (blk_cell BR4.out 1).trans rfl; have r2 : w4.cell? ⟨gr, 2, none⟩ = some (.slice none 0 0) := (blk_cell BR4.out 2).trans rfl; have r3 : w4.cell? ⟨gr, 3, none⟩ = some (.bool false) := (blk_cell BR4.out 3).trans rfl; have r4 : w4.cell? ⟨gr, 4, none⟩ = some (.int .i64 0) := (blk_cell BR4.out 4).trans rfl; have rf0 : w4.frozen? ⟨gr, 0, none⟩ = false := blk_frozen BR4.out 0; have rf1 : w4.frozen? ⟨gr, 1, none⟩ = false := blk_frozen BR4.out 1; have rf2 : w4.frozen? ⟨gr, 2, none⟩ = false := blk_frozen BR4.out 2; have rf3 : w4.frozen? ⟨gr, 3, none⟩ = false := blk_frozen BR4.out 3; have rf4 : w4.frozen? ⟨gr, 4, none⟩ = false := blk_frozen BR4.out 4; have g0 : w4.cell? ⟨g, 0, none⟩ = some (.int .u32 q1) := (blk_cell D4.out.1 0).trans rfl; have g1 : w4.cell? ⟨g, 1, none⟩ = some (.slice a1_ q2.length b1_) := (blk_cell D4.out.1 1).trans rfl; have g2 : w4.cell? ⟨g, 2, none⟩ = some (.slice a2_ q3.length b2_) := (blk_cell D4.out.1 2).trans rfl; have g3 : w4.cell? ⟨g, 3, none⟩ = some (.bool q4) := (blk_cell D4.out.1 3).trans rfl; have g4 : w4.cell? ⟨g, 4, none⟩ = some (.int .i64 q5) := (blk_cell D4.out.1 4).trans rfl; clear h4 hd4 hg4 BR3 BD3 K3) | (go_at_call 30; refine (burn_at true D4.out.1 HDN.out).mono ?_; rintro e w5 ⟨rfl, hs5⟩; have D5 := Aside0.mk (D4.out.step hs5); have R5 := Aside0.mk ((hs5.2.1.2 gr (blk_lt BR4.out) (fun e => NG.out e.symm) (by simp)).trans BR4.out); clear g0 g1 g2 g3 g4 r0 r1 r2 r3 r4 rf0 rf1 rf2 rf3 rf4 z0 z1 z2 z3 z4; have g0 : w5.cell? ⟨g, 0, none⟩ = some (.int .u32 q1) := (blk_cell D5.out.1 0).trans rfl; have g1 : w5.cell? ⟨g, 1, none⟩ = some (.slice a1_ q2.length b1_) := (blk_cell D5.out.1 1).trans rfl; have g2 : w5.cell? ⟨g, 2, none⟩ = some (.slice a2_ q3.length b2_) := (blk_cell D5.out.1 2).trans rfl; have g3 : w5.cell? ⟨g, 3, none⟩ = some (.bool true) := (blk_cell D5.out.1 3).trans rfl; have g4 : w5.cell? ⟨g, 4, none⟩ = some (.int .i64 (fuseOf q5)) := (blk_cell D5.out.1 4).trans rfl; have r0 : w5.cell? ⟨gr, 0, none⟩ = some (.int .u32 0) := (blk_cell R5.out 0).trans rfl; have r1 : w5.cell? ⟨gr, 1, none⟩ = some (.slice none 0 0) := (blk_cell R5.out 1).trans rfl; have r2 : w5.cell? ⟨gr, 2, none⟩ = some (.slice none 0 0) := (blk_cell R5.out 2).trans rfl; have r3 : w5.cell? ⟨gr, 3, none⟩ = some (.bool false) := (blk_cell R5.out 3).trans rfl; have r4 : w5.cell? ⟨gr, 4, none⟩ = some (.int .i64 0) := (blk_cell R5.out 4).trans rfl; have rf0 : w5.frozen? ⟨gr, 0, none⟩ = false := blk_frozen R5.out 0; have rf1 : w5.frozen? ⟨gr, 1, none⟩ = false := blk_frozen R5.out 1; have rf2 : w5.frozen? ⟨gr, 2, none⟩ = false := blk_frozen R5.out 2; have rf3 : w5.frozen? ⟨gr, 3, none⟩ = false := blk_frozen R5.out 3; have rf4 : w5.frozen? ⟨gr, 4, none⟩ = false := blk_frozen R5.out 4; clear hs5 D4 BR4))
        have hs := res_dev D5.out R5.out GR.out
        refine bodyPost_ret (results_ct rfl _ _ gr 25 #[.int .u32 q1, .slice a1_ q2.length b1_, .slice a2_ q3.length b2_, .bool true, .int .i64 (fuseOf q5)] (0, 0) _ rfl hs.1 Tryd.underlying25 rfl (by kernel_rfl)) rfl ?_
        exact ⟨_, _, rfl, hs.2⟩
      · rw [if_neg hdn] at h
        replace hdn := Bool.eq_false_iff.mpr hdn
        have HDN := Aside0.mk hdn
        clear hdn
        replace h := Option.bind_eq_some_iff.mp h
        obtain ⟨b, hb, h⟩ := h
        simp only [Option.some.injEq, Prod.mk.injEq] at h
        obtain ⟨rfl, rfl, rfl, rfl, rfl, rfl⟩ := h
        have HP := Aside0.mk hb
        clear hb
        go_enter Tryd.func15, Tryd.ntmps15
        go_wp2_with (first | ((with_reducible refine gate_dst (N := 1) rfl ?_); refine box_event ?hg (N := 1) ?hd (cs := #[.int .u32 a0_0, .slice A0_1 l0_1.length c0_1, .slice A0_2 l0_2.length c0_2, .bool false, .int .i64 a0_4]) (t := 25) ?hr ?_; (case hd => rfl); (case hg => rfl); (case hr => first | (go_simp; done) | (go_simp; rfl)); intro gd hgd w1 hx hbx; have BD1 := Aside0.mk hx; have K1 := Aside0.mk hbx; have GD := Aside0.mk (show w.heap.size ≤ gd by omega); have z0 : w1.cell? ⟨gd, 0, none⟩ = some (.int .u32 a0_0) := (blk_cell BD1.out 0).trans rfl; have z1 : w1.cell? ⟨gd, 1, none⟩ = some (.slice A0_1 l0_1.length c0_1) := (blk_cell BD1.out 1).trans rfl; have z2 : w1.cell? ⟨gd, 2, none⟩ = some (.slice A0_2 l0_2.length c0_2) := (blk_cell BD1.out 2).trans rfl; have z3 : w1.cell? ⟨gd, 3, none⟩ = some (.bool false) := (blk_cell BD1.out 3).trans rfl; have z4 : w1.cell? ⟨gd, 4, none⟩ = some (.int .i64 a0_4) := (blk_cell BD1.out 4).trans rfl; clear hx hbx hgd) | ((with_reducible refine gate_dst (N := 2) rfl ?_); refine box_event ?hg (N := 2) ?hd (cs := #[.int .u32 0, .slice none 0 0, .slice none 0 0, .bool false, .int .i64 0]) (t := 25) ?hr ?_; (case hd => rfl); (case hg => rfl); (case hr => first | (go_simp; done) | (go_simp; rfl)); intro gr hgr w2 hx hbx; have BR2 := Aside0.mk hx; have BD2 := Aside0.mk (blk_below BD1.out hbx); have K2 := Aside0.mk (below_step K1.out hbx); have NE := Aside0.mk (show gr ≠ gd by rw [hgr]; exact fun e => Nat.lt_irrefl _ (e ▸ blk_lt BD1.out)); have GR := Aside0.mk (show w.heap.size ≤ gr by rw [hgr]; exact K1.out.size); clear z0 z1 z2 z3 z4; have z0 : w2.cell? ⟨gd, 0, none⟩ = some (.int .u32 a0_0) := (blk_cell BD2.out 0).trans rfl; have z1 : w2.cell? ⟨gd, 1, none⟩ = some (.slice A0_1 l0_1.length c0_1) := (blk_cell BD2.out 1).trans rfl; have z2 : w2.cell? ⟨gd, 2, none⟩ = some (.slice A0_2 l0_2.length c0_2) := (blk_cell BD2.out 2).trans rfl; have z3 : w2.cell? ⟨gd, 3, none⟩ = some (.bool false) := (blk_cell BD2.out 3).trans rfl; have z4 : w2.cell? ⟨gd, 4, none⟩ = some (.int .i64 a0_4) := (blk_cell BD2.out 4).trans rfl; clear hx hbx hgr K1 BD1) | (go_at_call 21; refine (dev_Check.calls k a0_0 A0_1 c0_1 l0_1 A0_2 c0_2 l0_2 false a0_4 _ _ (Kd.C_below HR1.out K2.out) HC1.out (Kd.C_below HR2.out K2.out) HC2.out HY.out).mono ?_; rintro e w3 ⟨rfl, h3⟩; have BR3 := Aside0.mk (blk_below BR2.out h3); have BD3 := Aside0.mk (blk_below BD2.out h3); have K3 := Aside0.mk (below_step K2.out h3); clear z0 z1 z2 z3 z4; have z0 : w3.cell? ⟨gd, 0, none⟩ = some (.int .u32 a0_0) := (blk_cell BD3.out 0).trans rfl; have z1 : w3.cell? ⟨gd, 1, none⟩ = some (.slice A0_1 l0_1.length c0_1) := (blk_cell BD3.out 1).trans rfl; have z2 : w3.cell? ⟨gd, 2, none⟩ = some (.slice A0_2 l0_2.length c0_2) := (blk_cell BD3.out 2).trans rfl; have z3 : w3.cell? ⟨gd, 3, none⟩ = some (.bool false) := (blk_cell BD3.out 3).trans rfl; have z4 : w3.cell? ⟨gd, 4, none⟩ = some (.int .i64 a0_4) := (blk_cell BD3.out 4).trans rfl; have r0 : w3.cell? ⟨gr, 0, none⟩ = some (.int .u32 0) := (blk_cell BR3.out 0).trans rfl; have r1 : w3.cell? ⟨gr, 1, none⟩ = some (.slice none 0 0) := (blk_cell BR3.out 1).trans rfl; have r2 : w3.cell? ⟨gr, 2, none⟩ = some (.slice none 0 0) := (blk_cell BR3.out 2).trans rfl; have r3 : w3.cell? ⟨gr, 3, none⟩ = some (.bool false) := (blk_cell BR3.out 3).trans rfl; have r4 : w3.cell? ⟨gr, 4, none⟩ = some (.int .i64 0) := (blk_cell BR3.out 4).trans rfl; have rf0 : w3.frozen? ⟨gr, 0, none⟩ = false := blk_frozen BR3.out 0; have rf1 : w3.frozen? ⟨gr, 1, none⟩ = false := blk_frozen BR3.out 1; have rf2 : w3.frozen? ⟨gr, 2, none⟩ = false := blk_frozen BR3.out 2; have rf3 : w3.frozen? ⟨gr, 3, none⟩ = false := blk_frozen BR3.out 3; have rf4 : w3.frozen? ⟨gr, 4, none⟩ = false := blk_frozen BR3.out 4; clear h3 BR2 BD2 K2) | (go_at_call 28; refine (open_calls a0_0 A0_1 c0_1 l0_1 A0_2 c0_2 l0_2 false a0_4 q1 q2 q3 q4 q5 w _ K3.out (Kd.C_below HR1.out K3.out) HC1.out (Kd.C_below HR2.out K3.out) HC2.out HO.out).mono ?_; rintro e w4 ⟨g, a1_, b1_, a2_, b2_, rfl, hg4, h4, hd4⟩; have D4 := Aside0.mk hd4; have BR4 := Aside0.mk (blk_below BR3.out h4); have BD4 := Aside0.mk (blk_below BD3.out h4); have NG := Aside0.mk (show g ≠ gr from fun e => by have := blk_lt BR3.out; omega); have ND := Aside0.mk (show g ≠ gd from fun e => by have := blk_lt BD3.out; omega); clear z0 z1 z2 z3 z4 r0 r1 r2 r3 r4 rf0 rf1 rf2 rf3 rf4; have z0 : w4.cell? ⟨gd, 0, none⟩ = some (.int .u32 a0_0) := (blk_cell BD4.out 0).trans rfl; have z1 : w4.cell? ⟨gd, 1, none⟩ = some (.slice A0_1 l0_1.length c0_1) := (blk_cell BD4.out 1).trans rfl; have z2 : w4.cell? ⟨gd, 2, none⟩ = some (.slice A0_2 l0_2.length c0_2) := (blk_cell BD4.out 2).trans rfl; have z3 : w4.cell? ⟨gd, 3, none⟩ = some (.bool false) := (blk_cell BD4.out 3).trans rfl; have z4 : w4.cell? ⟨gd, 4, none⟩ = some (.int .i64 a0_4) := (blk_cell BD4.out 4).trans rfl; have r0 : w4.cell? ⟨gr, 0, none⟩ = some (.int .u32 0) := (blk_cell BR4.out 0).trans rfl; have r1 : w4.cell? ⟨gr, 1, none⟩ = some (.slice none 0 0) := (blk_cell BR4.out 1).trans rfl; have r2 : w4.cell? ⟨gr, 2, none⟩ = some (.slice none 0 0) := (blk_cell BR4.out 2).trans rfl; have r3 : w4.cell? ⟨gr, 3, none⟩ = some (.bool false) := (blk_cell BR4.out 3).trans rfl; have r4 : w4.cell? ⟨gr, 4, none⟩ = some (.int .i64 0) := (blk_cell BR4.out 4).trans rfl; have rf0 : w4.frozen? ⟨gr, 0, none⟩ = false := blk_frozen BR4.out 0; have rf1 : w4.frozen? ⟨gr, 1, none⟩ = false := blk_frozen BR4.out 1; have rf2 : w4.frozen? ⟨gr, 2, none⟩ = false := blk_frozen BR4.out 2; have rf3 : w4.frozen? ⟨gr, 3, none⟩ = false := blk_frozen BR4.out 3; have rf4 : w4.frozen? ⟨gr, 4, none⟩ = false := blk_frozen BR4.out 4; have g0 : w4.cell? ⟨g, 0, none⟩ = some (.int .u32 q1) := (blk_cell D4.out.1 0).trans rfl; have g1 : w4.cell? ⟨g, 1, none⟩ = some (.slice a1_ q2.length b1_) := (blk_cell D4.out.1 1).trans rfl; have g2 : w4.cell? ⟨g, 2, none⟩ = some (.slice a2_ q3.length b2_) := (blk_cell D4.out.1 2).trans rfl; have g3 : w4.cell? ⟨g, 3, none⟩ = some (.bool q4) := (blk_cell D4.out.1 3).trans rfl; have g4 : w4.cell? ⟨g, 4, none⟩ = some (.int .i64 q5) := (blk_cell D4.out.1 4).trans rfl; clear h4 hd4 hg4 BR3 BD3 K3) | (go_at_call 30; refine (burn_at false D4.out.1 HDN.out).mono ?_; rintro e w5 ⟨rfl, hs5⟩; have D5 := Aside0.mk (D4.out.step hs5); have R5 := Aside0.mk ((hs5.2.1.2 gr (blk_lt BR4.out) (fun e => NG.out e.symm) (by simp)).trans BR4.out); clear g0 g1 g2 g3 g4 r0 r1 r2 r3 r4 rf0 rf1 rf2 rf3 rf4 z0 z1 z2 z3 z4; have g0 : w5.cell? ⟨g, 0, none⟩ = some (.int .u32 q1) := (blk_cell D5.out.1 0).trans rfl; have g1 : w5.cell? ⟨g, 1, none⟩ = some (.slice a1_ q2.length b1_) := (blk_cell D5.out.1 1).trans rfl; have g2 : w5.cell? ⟨g, 2, none⟩ = some (.slice a2_ q3.length b2_) := (blk_cell D5.out.1 2).trans rfl; have g3 : w5.cell? ⟨g, 3, none⟩ = some (.bool false) := (blk_cell D5.out.1 3).trans rfl; have g4 : w5.cell? ⟨g, 4, none⟩ = some (.int .i64 (fuseOf q5)) := (blk_cell D5.out.1 4).trans rfl; have r0 : w5.cell? ⟨gr, 0, none⟩ = some (.int .u32 0) := (blk_cell R5.out 0).trans rfl; have r1 : w5.cell? ⟨gr, 1, none⟩ = some (.slice none 0 0) := (blk_cell R5.out 1).trans rfl; have r2 : w5.cell? ⟨gr, 2, none⟩ = some (.slice none 0 0) := (blk_cell R5.out 2).trans rfl; have r3 : w5.cell? ⟨gr, 3, none⟩ = some (.bool false) := (blk_cell R5.out 3).trans rfl; have r4 : w5.cell? ⟨gr, 4, none⟩ = some (.int .i64 0) := (blk_cell R5.out 4).trans rfl; have rf0 : w5.frozen? ⟨gr, 0, none⟩ = false := blk_frozen R5.out 0; have rf1 : w5.frozen? ⟨gr, 1, none⟩ = false := blk_frozen R5.out 1; have rf2 : w5.frozen? ⟨gr, 2, none⟩ = false := blk_frozen R5.out 2; have rf3 : w5.frozen? ⟨gr, 3, none⟩ = false := blk_frozen R5.out 3; have rf4 : w5.frozen? ⟨gr, 4, none⟩ = false := blk_frozen R5.out 4; clear hs5 D4 BR4))
        have hql : (q3.length : Int) ≤ 9223372036854775807 := by
          obtain ⟨_, _, _, _, hC⟩ := Kd.R_reads D5.out.2.2.2.1
          have := Kd.C_max hC
          omega
        clear g0 g1 g2 g3 g4 r0 r1 r2 r3 r4 rf0 rf1 rf2 rf3 rf4
        go_loopw [33] (fun i wr => ∃ (x : Int) (vB : Value) (bl : List Blk), i = .int .i64 x ∧ Aside0 (0 ≤ x ∧ x ≤ q3.length) ∧ Aside0 (Drv w wr g q1 vB (.slice a2_ q3.length b2_) bl q3 false (fuseOf q5) 0) ∧ Aside0 (wr.heap[gr]? = some (.cells #[.int .u32 0, .slice none 0 0, .slice none 0 0, .bool false, .int .i64 0] 25 (0, 0))) ∧ Aside0 (putsF k bl (q3.drop x.toNat) = some b)) (fun i _ => q3.length - (intOf i).toNat)
        case atStart => exact ⟨0, _, _, rfl, ⟨by omega⟩, D5, R5, HP⟩
        case round =>
          obtain ⟨x, vB, bl, rfl, HX, HDW, HGR, HF⟩ := hrel
          obtain ⟨hx0, hx1⟩ := HX.out
          by_cases hlt : x < q3.length
          · obtain ⟨A0, c0, hA0, _, hC⟩ := Kd.R_reads HDW.out.2.2.2.1
            injection hA0 with hA1 hA2 hA3
            subst hA1
            subst hA3
            obtain ⟨ad, hA, k0, k1⟩ := at_T39 hC x hx0 hlt
            subst hA
            have hlt2 : decide (x < (q3.length : Int)) = true := decide_eq_true hlt
            have p0 := eq_true hx0
            have p1 := eq_true hlt
            obtain ⟨y, hy⟩ : ∃ y, y = rd_T39 q3 x := ⟨_, rfl⟩
            have hd : q3.drop x.toNat = y :: q3.drop (x + 1).toNat := by
              have hl : x.toNat < q3.length := by omega
              rw [List.drop_eq_getElem_cons hl, hy, show (x + 1).toNat = x.toNat + 1 by omega]
              congr 1
              unfold rd_T39
              rw [List.getD_eq_getElem?_getD, List.getElem?_eq_getElem hl]
              rfl
            have hF := HF.out
            rw [hd, putsF] at hF
            obtain ⟨b', hb', hF⟩ := Option.bind_eq_some_iff.mp hF
            rw [← hy] at k0 k1
            have HP' := Aside0.mk hb'
            have HG := Aside0.mk hF
            have DA : ∀ o, Drv w (wr.alloc o) g q1 vB (.slice (some ad) q3.length b2_) bl q3 false (fuseOf q5) 0 := fun o => HDW.out.below (below_alloc (Below.refl _ _) o)
            have DA' := Aside0.mk DA
            clear hb' hF hd hx0 hx1 hlt hy hC DA HP D5 R5
            go_wp2_with (go_at_call 31; refine (put_calls k g q1 _ _ false (fuseOf q5) 0 bl y b' w _ (DA'.out _).2.2.2.2 (DA'.out _).1 (DA'.out (.cells #[.int .u32 y.f0, .string y.f1] 39)).2.1 (Kd.R_mono (DA'.out _).2.2.1 (fun _ _ => trivial)) HP'.out).mono ?_; rintro e w6 ⟨rfl, vn, hb6, hO6, hB6, hK6⟩; have D6 := Aside0.mk ((DA'.out _).put hb6 hO6 hB6 hK6); have R6 := Aside0.mk (blk_kept (blk_alloc HGR.out _) hK6 (fun e => e.elim (fun q => NG.out q.symm) (own_ne HDW.out.2.2.1 HGR.out (by decide)))); clear hb6 hO6 hB6 hK6)
            have hx := HX.out
            have hl : x < q3.length := of_eq_true p1
            have ew : wrap64 (x + 1) = x + 1 := by unfold wrap64; omega
            go_roundw
            case rel =>
              exact ⟨x + 1, vn, b', by rw [ew], ⟨by omega⟩, D6, R6, HG⟩
            case measure =>
              simp [ew, intOf]
              omega
          · have hge : decide (x < (q3.length : Int)) = false := decide_eq_false hlt
            have hF := HF.out
            rw [List.drop_eq_nil_of_le (by omega), putsF] at hF
            obtain rfl := Option.some.inj hF
            obtain ⟨an_, bn_, rfl⟩ := Kd.R_slice HDW.out.2.2.1
            have n1 : ¬ g = gr := NG.out
            have n2 : ¬ gr = g := fun e => NG.out e.symm
            have DE := Aside0.mk HDW.out.empty
            have RE := Aside0.mk ((Below.heap_setCell wr ⟨g, 2, none⟩ (.slice none 0 0) gr n2).trans HGR.out)
            have g0 : wr.cell? ⟨g, 0, none⟩ = some (.int .u32 q1) := (blk_cell HDW.out.1 0).trans rfl; have g1 : wr.cell? ⟨g, 1, none⟩ = some (.slice an_ bl.length bn_) := (blk_cell HDW.out.1 1).trans rfl; have g2 : wr.cell? ⟨g, 2, none⟩ = some (.slice a2_ q3.length b2_) := (blk_cell HDW.out.1 2).trans rfl; have g3 : wr.cell? ⟨g, 3, none⟩ = some (.bool false) := (blk_cell HDW.out.1 3).trans rfl; have g4 : wr.cell? ⟨g, 4, none⟩ = some (.int .i64 (fuseOf q5)) := (blk_cell HDW.out.1 4).trans rfl
            have r0 : wr.cell? ⟨gr, 0, none⟩ = some (.int .u32 0) := (blk_cell HGR.out 0).trans rfl; have r1 : wr.cell? ⟨gr, 1, none⟩ = some (.slice none 0 0) := (blk_cell HGR.out 1).trans rfl; have r2 : wr.cell? ⟨gr, 2, none⟩ = some (.slice none 0 0) := (blk_cell HGR.out 2).trans rfl; have r3 : wr.cell? ⟨gr, 3, none⟩ = some (.bool false) := (blk_cell HGR.out 3).trans rfl; have r4 : wr.cell? ⟨gr, 4, none⟩ = some (.int .i64 0) := (blk_cell HGR.out 4).trans rfl; have rf0 : wr.frozen? ⟨gr, 0, none⟩ = false := blk_frozen HGR.out 0; have rf1 : wr.frozen? ⟨gr, 1, none⟩ = false := blk_frozen HGR.out 1; have rf2 : wr.frozen? ⟨gr, 2, none⟩ = false := blk_frozen HGR.out 2; have rf3 : wr.frozen? ⟨gr, 3, none⟩ = false := blk_frozen HGR.out 3; have rf4 : wr.frozen? ⟨gr, 4, none⟩ = false := blk_frozen HGR.out 4; have gf2 : wr.frozen? ⟨g, 2, none⟩ = false := blk_frozen HDW.out.1 2
            clear hF HF HP D5 R5
            go_wp2
            have hs := res_dev DE.out RE.out GR.out
            refine bodyPost_ret (results_ct rfl _ _ gr 25 #[.int .u32 q1, .slice an_ bl.length bn_, .slice none 0 0, .bool false, .int .i64 (fuseOf q5)] (0, 0) _ rfl hs.1 Tryd.underlying25 rfl (by kernel_rfl)) rfl ?_
            exact ⟨_, _, rfl, hs.2⟩
  · rw [if_neg h0] at h
    cases h
    have h0b : (r6 == 0) = false := beq_eq_false_iff_ne.mpr h0
    have h0c : (r6 != 0) = true := bne_iff_ne.mpr h0
    go_enter Tryd.func15, Tryd.ntmps15
    go_wp2_with (first | ((with_reducible refine gate_dst (N := 1) rfl ?_); refine box_event ?hg (N := 1) ?hd (cs := #[.int .u32 a0_0, .slice A0_1 l0_1.length c0_1, .slice A0_2 l0_2.length c0_2, .bool a0_3, .int .i64 a0_4]) (t := 25) ?hr ?_; (case hd => rfl); (case hg => rfl); (case hr => first | (go_simp; done) | (go_simp; rfl)); intro gd hgd w1 hx hbx; have BD1 := Aside0.mk hx; have K1 := Aside0.mk hbx; have GD := Aside0.mk (show w.heap.size ≤ gd by omega); have z0 : w1.cell? ⟨gd, 0, none⟩ = some (.int .u32 a0_0) := (blk_cell BD1.out 0).trans rfl; have z1 : w1.cell? ⟨gd, 1, none⟩ = some (.slice A0_1 l0_1.length c0_1) := (blk_cell BD1.out 1).trans rfl; have z2 : w1.cell? ⟨gd, 2, none⟩ = some (.slice A0_2 l0_2.length c0_2) := (blk_cell BD1.out 2).trans rfl; have z3 : w1.cell? ⟨gd, 3, none⟩ = some (.bool a0_3) := (blk_cell BD1.out 3).trans rfl; have z4 : w1.cell? ⟨gd, 4, none⟩ = some (.int .i64 a0_4) := (blk_cell BD1.out 4).trans rfl; clear hx hbx hgd) | ((with_reducible refine gate_dst (N := 2) rfl ?_); refine box_event ?hg (N := 2) ?hd (cs := #[.int .u32 0, .slice none 0 0, .slice none 0 0, .bool false, .int .i64 0]) (t := 25) ?hr ?_; (case hd => rfl); (case hg => rfl); (case hr => first | (go_simp; done) | (go_simp; rfl)); intro gr hgr w2 hx hbx; have BR2 := Aside0.mk hx; have BD2 := Aside0.mk (blk_below BD1.out hbx); have K2 := Aside0.mk (below_step K1.out hbx); have NE := Aside0.mk (show gr ≠ gd by rw [hgr]; exact fun e => Nat.lt_irrefl _ (e ▸ blk_lt BD1.out)); have GR := Aside0.mk (show w.heap.size ≤ gr by rw [hgr]; exact K1.out.size); clear z0 z1 z2 z3 z4; have z0 : w2.cell? ⟨gd, 0, none⟩ = some (.int .u32 a0_0) := (blk_cell BD2.out 0).trans rfl; have z1 : w2.cell? ⟨gd, 1, none⟩ = some (.slice A0_1 l0_1.length c0_1) := (blk_cell BD2.out 1).trans rfl; have z2 : w2.cell? ⟨gd, 2, none⟩ = some (.slice A0_2 l0_2.length c0_2) := (blk_cell BD2.out 2).trans rfl; have z3 : w2.cell? ⟨gd, 3, none⟩ = some (.bool a0_3) := (blk_cell BD2.out 3).trans rfl; have z4 : w2.cell? ⟨gd, 4, none⟩ = some (.int .i64 a0_4) := (blk_cell BD2.out 4).trans rfl; clear hx hbx hgr K1 BD1) | (go_at_call 21; refine (dev_Check.calls k a0_0 A0_1 c0_1 l0_1 A0_2 c0_2 l0_2 a0_3 a0_4 _ _ (Kd.C_below HR1.out K2.out) HC1.out (Kd.C_below HR2.out K2.out) HC2.out HY.out).mono ?_; rintro e w3 ⟨rfl, h3⟩; have BR3 := Aside0.mk (blk_below BR2.out h3); have BD3 := Aside0.mk (blk_below BD2.out h3); have K3 := Aside0.mk (below_step K2.out h3); clear z0 z1 z2 z3 z4; have z0 : w3.cell? ⟨gd, 0, none⟩ = some (.int .u32 a0_0) := (blk_cell BD3.out 0).trans rfl; have z1 : w3.cell? ⟨gd, 1, none⟩ = some (.slice A0_1 l0_1.length c0_1) := (blk_cell BD3.out 1).trans rfl; have z2 : w3.cell? ⟨gd, 2, none⟩ = some (.slice A0_2 l0_2.length c0_2) := (blk_cell BD3.out 2).trans rfl; have z3 : w3.cell? ⟨gd, 3, none⟩ = some (.bool a0_3) := (blk_cell BD3.out 3).trans rfl; have z4 : w3.cell? ⟨gd, 4, none⟩ = some (.int .i64 a0_4) := (blk_cell BD3.out 4).trans rfl; have r0 : w3.cell? ⟨gr, 0, none⟩ = some (.int .u32 0) := (blk_cell BR3.out 0).trans rfl; have r1 : w3.cell? ⟨gr, 1, none⟩ = some (.slice none 0 0) := (blk_cell BR3.out 1).trans rfl; have r2 : w3.cell? ⟨gr, 2, none⟩ = some (.slice none 0 0) := (blk_cell BR3.out 2).trans rfl; have r3 : w3.cell? ⟨gr, 3, none⟩ = some (.bool false) := (blk_cell BR3.out 3).trans rfl; have r4 : w3.cell? ⟨gr, 4, none⟩ = some (.int .i64 0) := (blk_cell BR3.out 4).trans rfl; have rf0 : w3.frozen? ⟨gr, 0, none⟩ = false := blk_frozen BR3.out 0; have rf1 : w3.frozen? ⟨gr, 1, none⟩ = false := blk_frozen BR3.out 1; have rf2 : w3.frozen? ⟨gr, 2, none⟩ = false := blk_frozen BR3.out 2; have rf3 : w3.frozen? ⟨gr, 3, none⟩ = false := blk_frozen BR3.out 3; have rf4 : w3.frozen? ⟨gr, 4, none⟩ = false := blk_frozen BR3.out 4; clear h3 BR2 BD2 K2))
    have hs := res_zero K3.out BR3.out GR.out
    refine bodyPost_ret (results_ct rfl _ _ gr 25 #[.int .u32 0, .slice none 0 0, .slice none 0 0, .bool false, .int .i64 0] (0, 0) _ rfl hs.1 Tryd.underlying25 rfl (by kernel_rfl)) rfl ?_
    exact ⟨_, _, rfl, Kd.R_nil _ _ _ _ _, Kd.R_nil _ _ _ _ _, hs.2⟩
end Go.Proofs.YtcphflfjhkeooaaDoor.Z
end

section
/- dev.Crash: printed by gendev.py. -/
namespace Go.Proofs.YtcphflfjhkeooaaDoor.Z
open Go.RowKit Go.Proofs.YtcphflfjhkeooaaDoorW.PrintWords Go.Proofs.YtcphflfjhkeooaaDoorW.PrintLast Go.Proofs.YtcphflfjhkeooaaDoorW.PrintMore
attribute [local go_sem] max2_int min2_int max_two min_two max_three min_three max_four min_four
set_option linter.unusedVariables false
set_option linter.unusedSimpArgs false
attribute [local go_sem ↓] Go.wp_at_zero Go.wp_at_succ
theorem res_rows {w0 w : World} {gr : Nat} {s f : Int} {d : Bool} {vB : Value} {bl : List Blk} {z0 z1 z2 z3 z4 : Value} (hO : Own w w0.heap.size (fun _ => True) vB bl) (hB : Below w0.heap.size w0 w) (hr : w.heap[gr]? = some (.cells #[z0, z1, z2, z3, z4] 25 (0, 0))) (hgr : w0.heap.size ≤ gr) :
    (((((w.setCell ⟨gr, 0, none⟩ (.int .u32 s)).setCell ⟨gr, 1, none⟩ vB).setCell ⟨gr, 2, none⟩ (.slice none 0 0)).setCell ⟨gr, 3, none⟩ (.bool d)).setCell ⟨gr, 4, none⟩ (.int .i64 f)).heap[gr]? = some (.cells #[.int .u32 s, vB, .slice none 0 0, .bool d, .int .i64 f] 25 (0, 0)) ∧
    Own (((((w.setCell ⟨gr, 0, none⟩ (.int .u32 s)).setCell ⟨gr, 1, none⟩ vB).setCell ⟨gr, 2, none⟩ (.slice none 0 0)).setCell ⟨gr, 3, none⟩ (.bool d)).setCell ⟨gr, 4, none⟩ (.int .i64 f)) w0.heap.size (fun k_ => some k_ ≠ (.slice none 0 0 : Value).ownBlock) vB bl ∧
    Below w0.heap.size w0 (((((w.setCell ⟨gr, 0, none⟩ (.int .u32 s)).setCell ⟨gr, 1, none⟩ vB).setCell ⟨gr, 2, none⟩ (.slice none 0 0)).setCell ⟨gr, 3, none⟩ (.bool d)).setCell ⟨gr, 4, none⟩ (.int .i64 f)) := by
  have hs := (((((Step.refl hr).set 0 (.int .u32 s) rfl).set 1 vB rfl).set 2 (.slice none 0 0) rfl).set 3 (.bool d) rfl).set 4 (.int .i64 f) rfl
  exact ⟨hs.1, Kd.R_mono (Kd.R_keep (Kd.R_types hO hr (by decide)) hs.2.1 (fun _ hk => hk.2)) (fun _ _ e => by cases e), hB.trans (hs.2.2 _ hgr)⟩
def keepF (k : Nat) : List Blk → List Blk → List Bool → Option (List Blk)
  | bl, x :: wl, t :: l => if t = true then (putF k bl x).bind fun b => keepF k b wl l else keepF k bl wl l
  | bl, _, _ => some bl
theorem keepF_mono : ∀ a1 a0 a2 k, LeO (keepF k a0 a1 a2) (keepF (k + 1) a0 a1 a2) := by
  intro a1
  induction a1 with
  | nil => intro a0 a2 k; cases a2 <;> exact LeO.refl _
  | cons x wl ih =>
    intro a0 a2 k
    cases a2 with
    | nil => exact LeO.refl _
    | cons t l => exact LeO.ite (LeO.bind (putF_mono _ _ _) (fun _ => ih _ _ _)) (ih _ _ _)
def dev_Crash.f (k : Nat) (a0_0 : Int) (l0_1 : List (S39)) (l0_2 : List (S39)) (a0_3 : Bool) (a0_4 : Int) (l1 : List Bool) : Option (Int × (List (S39)) × (List (S39)) × Bool × Int × Int) :=
  (dev_Check.f k a0_0 l0_1 l0_2 a0_3 a0_4).bind fun y => if y = 0 then ((dev_Own.f a0_0 l0_1 l0_2 a0_3 a0_4).bind fun q => (keepF k q.2.1 q.2.2.1 l1).bind fun b => some (q.1, b, ([] : List (S39)), false, (-1 : Int), 0)) else some (0, ([] : List (S39)), ([] : List (S39)), false, 0, y)
theorem dev_Crash.mono : ∀ a0 a1 a2 a3 a4 a5 k, LeO (dev_Crash.f k a0 a1 a2 a3 a4 a5) (dev_Crash.f (k + 1) a0 a1 a2 a3 a4 a5) := by
  intro a0 a1 a2 a3 a4 a5 k
  unfold dev_Crash.f
  exact LeO.bind (dev_Check.mono _ _ _ _ _ _) (fun _ => LeO.ite (LeO.bind (LeO.refl _) (fun _ => LeO.bind (keepF_mono _ _ _ _) (fun _ => LeO.refl _))) (LeO.refl _))
set_option maxRecDepth 100000 in
set_option maxHeartbeats 6400000 in
theorem dev_Crash.calls (k : Nat) (a0_0 : Int) (A0_1 : Option Addr) (c0_1 : Nat) (l0_1 : List (S39)) (A0_2 : Option Addr) (c0_2 : Nat) (l0_2 : List (S39)) (a0_3 : Bool) (a0_4 : Int) (A1 : Option Addr) (c1 : Nat) (l1 : List Bool) (r1 : Int) (r2 : List (S39)) (r3 : List (S39)) (r4 : Bool) (r5 : Int) (r6 : Int) (w : World) (hr0_1 : Kd.C k39 w A0_1 l0_1.length l0_1) (hc0_1 : l0_1.length ≤ c0_1) (hr0_2 : Kd.C k39 w A0_2 l0_2.length l0_2) (hc0_2 : l0_2.length ≤ c0_2) (hr1 : Kd.C Kd.bool w A1 l1.length l1) (hc1 : l1.length ≤ c1) (h : dev_Crash.f k a0_0 l0_1 l0_2 a0_3 a0_4 l1 = some (r1, r2, r3, r4, r5, r6)) :
    Calls Tryd.prog 23 #[.agg #[.int .u32 a0_0, .slice A0_1 l0_1.length c0_1, .slice A0_2 l0_2.length c0_2, .bool a0_3, .int .i64 a0_4], .slice A1 l1.length c1] w fun e w' => ∃ v1_ v2_ : Value, e = .returned (.tuple #[.agg #[.int .u32 r1, v1_, v2_, .bool r4, .int .i64 r5], .int .i64 r6]) ∧ Kd.R k39 39 w' w.heap.size (fun k_ => some k_ ≠ (v2_ : Value).ownBlock) v1_ r2 ∧ Kd.R k39 39 w' w.heap.size (fun k_ => some k_ ≠ (v1_ : Value).ownBlock) v2_ r3 ∧ Below w.heap.size w w' := by
  have HR1 := Aside0.mk hr0_1
  have HR2 := Aside0.mk hr0_2
  have HC1 := Aside0.mk hc0_1
  have HC2 := Aside0.mk hc0_2
  clear hr0_1 hr0_2 hc0_1 hc0_2
  unfold dev_Crash.f at h
  replace h := Option.bind_eq_some_iff.mp h
  obtain ⟨y, hy, h⟩ := h
  have HY := Aside0.mk hy
  clear hy
  by_cases h0 : y = 0
  · rw [if_pos h0] at h
    subst h0
    replace h := Option.bind_eq_some_iff.mp h
    obtain ⟨⟨q1, q2, q3, q4, q5⟩, hq, h⟩ := h
    have HO := Aside0.mk hq
    clear hq
    replace h : ((keepF k q2 q3 l1).bind fun b => some (q1, b, ([] : List (S39)), false, (-1 : Int), 0)) = some (r1, r2, r3, r4, r5, r6) := h
    replace h := Option.bind_eq_some_iff.mp h
    obtain ⟨b, hb, h⟩ := h
    simp only [Option.some.injEq, Prod.mk.injEq] at h
    obtain ⟨rfl, rfl, rfl, rfl, rfl, rfl⟩ := h
    have HP := Aside0.mk hb
    have HL := Aside0.mk hr1
    have HLC := Aside0.mk hc1
    clear hb hr1 hc1
    go_enter Tryd.func23, Tryd.ntmps23
    go_wp2_with (first | ((with_reducible refine gate_dst (N := 2) rfl ?_); refine box_event ?hg (N := 2) ?hd (cs := #[.int .u32 a0_0, .slice A0_1 l0_1.length c0_1, .slice A0_2 l0_2.length c0_2, .bool a0_3, .int .i64 a0_4]) (t := 25) ?hr ?_; (case hd => rfl); (case hg => rfl); (case hr => first | (go_simp; done) | (go_simp; rfl)); intro gd hgd w1 hx hbx; have BD1 := Aside0.mk hx; have K1 := Aside0.mk hbx; have GD := Aside0.mk (show w.heap.size ≤ gd by omega); have z0 : w1.cell? ⟨gd, 0, none⟩ = some (.int .u32 a0_0) := (blk_cell BD1.out 0).trans rfl; have z1 : w1.cell? ⟨gd, 1, none⟩ = some (.slice A0_1 l0_1.length c0_1) := (blk_cell BD1.out 1).trans rfl; have z2 : w1.cell? ⟨gd, 2, none⟩ = some (.slice A0_2 l0_2.length c0_2) := (blk_cell BD1.out 2).trans rfl; have z3 : w1.cell? ⟨gd, 3, none⟩ = some (.bool a0_3) := (blk_cell BD1.out 3).trans rfl; have z4 : w1.cell? ⟨gd, 4, none⟩ = some (.int .i64 a0_4) := (blk_cell BD1.out 4).trans rfl; clear hx hbx hgd) | ((with_reducible refine gate_dst (N := 4) rfl ?_); refine box_event ?hg (N := 4) ?hd (cs := #[.int .u32 0, .slice none 0 0, .slice none 0 0, .bool false, .int .i64 0]) (t := 25) ?hr ?_; (case hd => rfl); (case hg => rfl); (case hr => first | (go_simp; done) | (go_simp; rfl)); intro gr hgr w2 hx hbx; have BR2 := Aside0.mk hx; have BD2 := Aside0.mk (blk_below BD1.out hbx); have K2 := Aside0.mk (below_step K1.out hbx); have NE := Aside0.mk (show gr ≠ gd by rw [hgr]; exact fun e => Nat.lt_irrefl _ (e ▸ blk_lt BD1.out)); have GR := Aside0.mk (show w.heap.size ≤ gr by rw [hgr]; exact K1.out.size); clear z0 z1 z2 z3 z4; have z0 : w2.cell? ⟨gd, 0, none⟩ = some (.int .u32 a0_0) := (blk_cell BD2.out 0).trans rfl; have z1 : w2.cell? ⟨gd, 1, none⟩ = some (.slice A0_1 l0_1.length c0_1) := (blk_cell BD2.out 1).trans rfl; have z2 : w2.cell? ⟨gd, 2, none⟩ = some (.slice A0_2 l0_2.length c0_2) := (blk_cell BD2.out 2).trans rfl; have z3 : w2.cell? ⟨gd, 3, none⟩ = some (.bool a0_3) := (blk_cell BD2.out 3).trans rfl; have z4 : w2.cell? ⟨gd, 4, none⟩ = some (.int .i64 a0_4) := (blk_cell BD2.out 4).trans rfl; clear hx hbx hgr K1 BD1) | (go_at_call 21; refine (dev_Check.calls k a0_0 A0_1 c0_1 l0_1 A0_2 c0_2 l0_2 a0_3 a0_4 _ _ (Kd.C_below HR1.out K2.out) HC1.out (Kd.C_below HR2.out K2.out) HC2.out HY.out).mono ?_; rintro e w3 ⟨rfl, h3⟩; have BR3 := Aside0.mk (blk_below BR2.out h3); have BD3 := Aside0.mk (blk_below BD2.out h3); have K3 := Aside0.mk (below_step K2.out h3); clear z0 z1 z2 z3 z4; have z0 : w3.cell? ⟨gd, 0, none⟩ = some (.int .u32 a0_0) := (blk_cell BD3.out 0).trans rfl; have z1 : w3.cell? ⟨gd, 1, none⟩ = some (.slice A0_1 l0_1.length c0_1) := (blk_cell BD3.out 1).trans rfl; have z2 : w3.cell? ⟨gd, 2, none⟩ = some (.slice A0_2 l0_2.length c0_2) := (blk_cell BD3.out 2).trans rfl; have z3 : w3.cell? ⟨gd, 3, none⟩ = some (.bool a0_3) := (blk_cell BD3.out 3).trans rfl; have z4 : w3.cell? ⟨gd, 4, none⟩ = some (.int .i64 a0_4) := (blk_cell BD3.out 4).trans rfl; have r0 : w3.cell? ⟨gr, 0, none⟩ = some (.int .u32 0) := (blk_cell BR3.out 0).trans rfl; have r1 : w3.cell? ⟨gr, 1, none⟩ = some (.slice none 0 0) := (blk_cell BR3.out 1).trans rfl; have r2 : w3.cell? ⟨gr, 2, none⟩ = some (.slice none 0 0) := (blk_cell BR3.out 2).trans rfl; have r3 : w3.cell? ⟨gr, 3, none⟩ = some (.bool false) := (blk_cell BR3.out 3).trans rfl; have r4 : w3.cell? ⟨gr, 4, none⟩ = some (.int .i64 0) := (blk_cell BR3.out 4).trans rfl; have rf0 : w3.frozen? ⟨gr, 0, none⟩ = false := blk_frozen BR3.out 0; have rf1 : w3.frozen? ⟨gr, 1, none⟩ = false := blk_frozen BR3.out 1; have rf2 : w3.frozen? ⟨gr, 2, none⟩ = false := blk_frozen BR3.out 2; have rf3 : w3.frozen? ⟨gr, 3, none⟩ = false := blk_frozen BR3.out 3; have rf4 : w3.frozen? ⟨gr, 4, none⟩ = false := blk_frozen BR3.out 4; clear h3 BR2 BD2 K2) | (go_at_call 28; refine (open_calls a0_0 A0_1 c0_1 l0_1 A0_2 c0_2 l0_2 a0_3 a0_4 q1 q2 q3 q4 q5 w _ K3.out (Kd.C_below HR1.out K3.out) HC1.out (Kd.C_below HR2.out K3.out) HC2.out HO.out).mono ?_; rintro e w4 ⟨g, a1_, b1_, a2_, b2_, rfl, hg4, h4, hd4⟩; have D4 := Aside0.mk hd4; have BR4 := Aside0.mk (blk_below BR3.out h4); have BD4 := Aside0.mk (blk_below BD3.out h4); have NG := Aside0.mk (show g ≠ gr from fun e => by have := blk_lt BR3.out; omega); have ND := Aside0.mk (show g ≠ gd from fun e => by have := blk_lt BD3.out; omega); clear z0 z1 z2 z3 z4 r0 r1 r2 r3 r4 rf0 rf1 rf2 rf3 rf4; have z0 : w4.cell? ⟨gd, 0, none⟩ = some (.int .u32 a0_0) := (blk_cell BD4.out 0).trans rfl; have z1 : w4.cell? ⟨gd, 1, none⟩ = some (.slice A0_1 l0_1.length c0_1) := (blk_cell BD4.out 1).trans rfl; have z2 : w4.cell? ⟨gd, 2, none⟩ = some (.slice A0_2 l0_2.length c0_2) := (blk_cell BD4.out 2).trans rfl; have z3 : w4.cell? ⟨gd, 3, none⟩ = some (.bool a0_3) := (blk_cell BD4.out 3).trans rfl; have z4 : w4.cell? ⟨gd, 4, none⟩ = some (.int .i64 a0_4) := (blk_cell BD4.out 4).trans rfl; have r0 : w4.cell? ⟨gr, 0, none⟩ = some (.int .u32 0) := (blk_cell BR4.out 0).trans rfl; have r1 : w4.cell? ⟨gr, 1, none⟩ = some (.slice none 0 0) := (blk_cell BR4.out 1).trans rfl; have r2 : w4.cell? ⟨gr, 2, none⟩ = some (.slice none 0 0) := (blk_cell BR4.out 2).trans rfl; have r3 : w4.cell? ⟨gr, 3, none⟩ = some (.bool false) := (blk_cell BR4.out 3).trans rfl; have r4 : w4.cell? ⟨gr, 4, none⟩ = some (.int .i64 0) := (blk_cell BR4.out 4).trans rfl; have rf0 : w4.frozen? ⟨gr, 0, none⟩ = false := blk_frozen BR4.out 0; have rf1 : w4.frozen? ⟨gr, 1, none⟩ = false := blk_frozen BR4.out 1; have rf2 : w4.frozen? ⟨gr, 2, none⟩ = false := blk_frozen BR4.out 2; have rf3 : w4.frozen? ⟨gr, 3, none⟩ = false := blk_frozen BR4.out 3; have rf4 : w4.frozen? ⟨gr, 4, none⟩ = false := blk_frozen BR4.out 4; have g0 : w4.cell? ⟨g, 0, none⟩ = some (.int .u32 q1) := (blk_cell D4.out.1 0).trans rfl; have g1 : w4.cell? ⟨g, 1, none⟩ = some (.slice a1_ q2.length b1_) := (blk_cell D4.out.1 1).trans rfl; have g2 : w4.cell? ⟨g, 2, none⟩ = some (.slice a2_ q3.length b2_) := (blk_cell D4.out.1 2).trans rfl; have g3 : w4.cell? ⟨g, 3, none⟩ = some (.bool q4) := (blk_cell D4.out.1 3).trans rfl; have g4 : w4.cell? ⟨g, 4, none⟩ = some (.int .i64 q5) := (blk_cell D4.out.1 4).trans rfl; clear h4 hd4 hg4 BR3 BD3 K3))
    clear r0 r1 r2 r3 r4 rf0 rf1 rf2 rf3 rf4 z0 z1 z2 z3 z4
    have hDd := Aside0.mk D4.out.drew
    have hRd := Aside0.mk (blk_drew BR4.out)
    have hqc : q3.length ≤ b2_ ∧ (q3.length : Int) ≤ 9223372036854775807 := by
      obtain ⟨A0, c0, hA0, hle, hC⟩ := Kd.R_reads hDd.out.2.2.2.1
      injection hA0 with hA1 hA2 hA3
      have := Kd.C_max hC
      exact ⟨by omega, by omega⟩
    obtain ⟨mm, hmm, hmq, hml, hmo⟩ : ∃ mm : Nat, (if q3.length < l1.length then (q3.length : Int) else (l1.length : Int)) = (mm : Int) ∧ mm ≤ q3.length ∧ mm ≤ l1.length ∧ (mm = q3.length ∨ mm = l1.length) := by
      by_cases hc : q3.length < l1.length
      · exact ⟨q3.length, if_pos hc, by omega, by omega, .inl rfl⟩
      · exact ⟨l1.length, if_neg hc, by omega, by omega, .inr rfl⟩
    have hmb : mm ≤ b2_ := Nat.le_trans hmq hqc.1
    have hmb0 : (0 : Int) ≤ (mm : Int) := by omega
    have hmb1 : (mm : Int) ≤ (b2_ : Int) := by omega
    have MQ := Aside0.mk hmq
    have ML := Aside0.mk hml
    have MO := Aside0.mk hmo
    have QC := Aside0.mk hqc
    clear hmq hml hmo hqc
    refine start_ (n := 17) (S := fun w' => w'.cell? ⟨g, 2, none⟩ = some (.slice a2_ q3.length b2_) ∧ w'.cell? ⟨g, 0, none⟩ = some (.int .u32 q1)) (ds := []) #[false, false, false, false, false, false, false, false, false, false, false, false, false, false, false, false, false] (by kernel_rfl) rfl rfl ⟨g2, g0⟩ (fun hHeld => ?_)
    clear g0 g1 g2 g3 g4 D4 BR4 BD4
    generalize w4.drew = wd at hDd hRd hHeld ⊢
    refine pure_ (i := 0) (N := some 18) (v := ?_) (a' := ?_) #[true, false, false, false, false, false, false, false, false, false, false, false, false, false, false, false, false] rfl rfl (by kernel_rfl) (fun _ _ _ h => h) (Or.inl ⟨by rfl, ?_⟩) ?_ ?_
    rotate_left
    · intro w'
      go_simp
      with_reducible rfl
    rotate_left
    · simp only [Act.put, List.setIfInBounds_toArray, List.set_cons_zero, List.set_cons_succ, i64_w, i32_w]
      rfl
    refine pure_ (i := 1) (N := some 19) (v := ?_) (a' := ?_) #[true, true, false, false, false, false, false, false, false, false, false, false, false, false, false, false, false] rfl rfl (by kernel_rfl) (fun _ _ _ h => h) (Or.inl ⟨by rfl, ?_⟩) ?_ ?_
    rotate_left
    · intro w'
      go_simp
      with_reducible rfl
    rotate_left
    · simp only [Act.put, List.setIfInBounds_toArray, List.set_cons_zero, List.set_cons_succ, i64_w, i32_w]
      rfl
    refine pure_ (i := 2) (N := some 20) (v := ?_) (a' := ?_) #[true, true, true, false, false, false, false, false, false, false, false, false, false, false, false, false, false] rfl rfl (by kernel_rfl) (fun _ _ _ h => h) (Or.inl ⟨by rfl, ?_⟩) ?_ ?_
    rotate_left
    · intro w'
      go_simp
      with_reducible rfl
    rotate_left
    · simp only [Act.put, List.setIfInBounds_toArray, List.set_cons_zero, List.set_cons_succ, i64_w, i32_w]
      rfl
    refine pure_ (i := 3) (N := some 21) (v := ?_) (a' := ?_) #[true, true, true, true, false, false, false, false, false, false, false, false, false, false, false, false, false] rfl rfl (by kernel_rfl) (fun _ _ _ h => h) (Or.inl ⟨by rfl, ?_⟩) ?_ ?_
    rotate_left
    · intro w'
      go_simp
      with_reducible rfl
    rotate_left
    · simp only [Act.put, List.setIfInBounds_toArray, List.set_cons_zero, List.set_cons_succ, i64_w, i32_w]
      rfl
    refine take_ (i := 4) (N := some 22) (v := ?_) (a' := ?_) #[true, true, true, true, true, false, false, false, false, false, false, false, false, false, false, false, false] rfl rfl (by kernel_rfl) (fun _ _ _ h => h) (Or.inl ⟨by rfl, ?_⟩) hHeld ?_ ?_
    rotate_left
    · rintro w' ⟨s0, s1⟩
      go_simp
      with_reducible rfl
    rotate_left
    · simp only [Act.put, List.setIfInBounds_toArray, List.set_cons_zero, List.set_cons_succ, i64_w, i32_w]
      rfl
    refine pure_ (i := 5) (N := some 23) (v := ?_) (a' := ?_) #[true, true, true, true, true, true, false, false, false, false, false, false, false, false, false, false, false] rfl rfl (by kernel_rfl) (fun _ _ _ h => h) (Or.inl ⟨by rfl, ?_⟩) ?_ ?_
    rotate_left
    · intro w'
      go_simp
      with_reducible rfl
    rotate_left
    · simp only [Act.put, List.setIfInBounds_toArray, List.set_cons_zero, List.set_cons_succ, i64_w, i32_w]
      rfl
    refine pure_ (i := 6) (N := some 24) (v := ?_) (a' := ?_) #[true, true, true, true, true, true, true, false, false, false, false, false, false, false, false, false, false] rfl rfl (by kernel_rfl) (fun _ _ _ h => h) (Or.inl ⟨by rfl, ?_⟩) ?_ ?_
    rotate_left
    · intro w'
      go_simp
      with_reducible rfl
    rotate_left
    · simp only [Act.put, List.setIfInBounds_toArray, List.set_cons_zero, List.set_cons_succ, i64_w, i32_w]
      rfl
    refine pure_ (i := 7) (N := some 25) (v := ?_) (a' := ?_) #[true, true, true, true, true, true, true, true, false, false, false, false, false, false, false, false, false] rfl rfl (by kernel_rfl) (fun _ _ _ h => h) (Or.inl ⟨by rfl, ?_⟩) ?_ ?_
    rotate_left
    · intro w'
      go_simp
      with_reducible rfl
    rotate_left
    · simp only [Act.put, List.setIfInBounds_toArray, List.set_cons_zero, List.set_cons_succ, i64_w, i32_w]
      rfl
    refine pure_ (i := 8) (N := some 26) (v := ?_) (a' := ?_) #[true, true, true, true, true, true, true, true, true, false, false, false, false, false, false, false, false] rfl rfl (by kernel_rfl) (fun _ _ _ h => h) (Or.inl ⟨by rfl, ?_⟩) ?_ ?_
    rotate_left
    · intro w'
      go_simp
      with_reducible rfl
    rotate_left
    · simp only [Act.put, List.setIfInBounds_toArray, List.set_cons_zero, List.set_cons_succ, i64_w, i32_w]
      rfl
    refine pure_ (i := 9) (N := some 27) (v := ?_) (a' := ?_) #[true, true, true, true, true, true, true, true, true, true, false, false, false, false, false, false, false] rfl rfl (by kernel_rfl) (fun _ _ _ h => h) (Or.inl ⟨by rfl, ?_⟩) ?_ ?_
    rotate_left
    · intro w'
      go_simp
      with_reducible rfl
    rotate_left
    · simp only [Act.put, List.setIfInBounds_toArray, List.set_cons_zero, List.set_cons_succ, i64_w, i32_w]
      rfl
    refine pure_ (i := 10) (N := some 28) (v := ?_) (a' := ?_) #[true, true, true, true, true, true, true, true, true, true, true, false, false, false, false, false, false] rfl rfl (by kernel_rfl) (fun _ _ _ h => h) (Or.inl ⟨by rfl, ?_⟩) ?_ ?_
    rotate_left
    · intro w'
      go_simp
      with_reducible rfl
    rotate_left
    · simp only [Act.put, List.setIfInBounds_toArray, List.set_cons_zero, List.set_cons_succ, i64_w, i32_w]
      rfl
    refine take_ (i := 11) (N := some 29) (v := ?_) (a' := ?_) #[true, true, true, true, true, true, true, true, true, true, true, true, false, false, false, false, false] rfl rfl (by kernel_rfl) (fun _ _ _ h => h) (Or.inl ⟨by rfl, ?_⟩) hHeld ?_ ?_
    rotate_left
    · rintro w' ⟨s0, s1⟩
      go_simp
      with_reducible rfl
    rotate_left
    · simp only [Act.put, List.setIfInBounds_toArray, List.set_cons_zero, List.set_cons_succ, i64_w, i32_w]
      rfl
    refine pure_ (i := 12) (N := some 30) (v := ?_) (a' := ?_) #[true, true, true, true, true, true, true, true, true, true, true, true, true, false, false, false, false] rfl rfl (by kernel_rfl) (fun _ _ _ h => h) (Or.inl ⟨by rfl, ?_⟩) ?_ ?_
    rotate_left
    · intro w'
      go_simp
      with_reducible rfl
    rotate_left
    · simp only [Act.put, List.setIfInBounds_toArray, List.set_cons_zero, List.set_cons_succ, i64_w, i32_w]
      rfl
    refine pure_ (i := 13) (N := some 31) (v := ?_) (a' := ?_) #[true, true, true, true, true, true, true, true, true, true, true, true, true, true, false, false, false] rfl rfl (by kernel_rfl) (fun _ _ _ h => h) (Or.inl ⟨by rfl, ?_⟩) ?_ ?_
    rotate_left
    · intro w'
      go_simp
      with_reducible rfl
    rotate_left
    · simp only [Act.put, List.setIfInBounds_toArray, List.set_cons_zero, List.set_cons_succ, i64_w, i32_w]
      rfl
    refine pure_ (i := 14) (N := some 32) (v := ?_) (a' := ?_) #[true, true, true, true, true, true, true, true, true, true, true, true, true, true, true, false, false] rfl rfl (by kernel_rfl) (fun _ _ _ h => h) (Or.inl ⟨by rfl, ?_⟩) ?_ ?_
    rotate_left
    · intro w'
      go_simp
      with_reducible rfl
    rotate_left
    · simp only [Act.put, List.setIfInBounds_toArray, List.set_cons_zero, List.set_cons_succ, i64_w, i32_w]
      rfl
    refine pure_ (i := 15) (N := some 33) (v := ?_) (a' := ?_) #[true, true, true, true, true, true, true, true, true, true, true, true, true, true, true, true, false] rfl rfl (by kernel_rfl) (fun _ _ _ h => h) (Or.inl ⟨by rfl, ?_⟩) ?_ ?_
    rotate_left
    · intro w'
      go_simp
      with_reducible rfl
    rotate_left
    · simp only [Act.put, List.setIfInBounds_toArray, List.set_cons_zero, List.set_cons_succ, i64_w, i32_w]
      rfl
    refine pure_ (i := 16) (N := some 34) (v := ?_) (a' := ?_) #[true, true, true, true, true, true, true, true, true, true, true, true, true, true, true, true, true] rfl rfl (by kernel_rfl) (fun _ _ _ h => h) (Or.inl ⟨by rfl, ?_⟩) ?_ ?_
    rotate_left
    · intro w'
      go_simp
      with_reducible rfl
    rotate_left
    · simp only [Act.put, List.setIfInBounds_toArray, List.set_cons_zero, List.set_cons_succ, i64_w, i32_w]
      rfl
    refine done_ (by kernel_rfl) ?_
    clear hmm hmb hmb0 hmb1
    go_wp2
    go_loopw [34] (fun i wr => ∃ (x : Int) (vB : Value) (bl : List Blk), i = .int .i64 x ∧ Aside0 (0 ≤ x ∧ x ≤ mm) ∧ Aside0 (Drv w wr g q1 vB (.slice a2_ q3.length b2_) bl q3 q4 q5 0) ∧ Aside0 (wr.heap[gr]? = some (.cells #[.int .u32 0, .slice none 0 0, .slice none 0 0, .bool false, .int .i64 0] 25 (0, 0))) ∧ Aside0 (keepF k bl (q3.drop x.toNat) (l1.drop x.toNat) = some b)) (fun i _ => mm - (intOf i).toNat)
    case atStart => exact ⟨0, _, _, rfl, ⟨by omega⟩, hDd, hRd, HP⟩
    case round =>
      obtain ⟨x, vB, bl, rfl, HX, HDW, HGR, HF⟩ := hrel
      obtain ⟨hx0, hx1⟩ := HX.out
      by_cases hlt : x < mm
      · obtain ⟨A0, c0, hA0, _, hC⟩ := Kd.R_reads HDW.out.2.2.2.1
        injection hA0 with hA1 hA2 hA3
        subst hA1
        subst hA3
        have hltq : x < (q3.length : Int) := by have := MQ.out; omega
        have hltl : x < (l1.length : Int) := by have := ML.out; omega
        obtain ⟨ad, hA, k0, k1⟩ := at_T39 hC x hx0 hltq
        subst hA
        obtain ⟨ab, hA, kb⟩ := Kd.at_bool (Kd.C_below HL.out HDW.out.2.2.2.2) x hx0 hltl
        subst hA
        have hlt2 : decide (x < (mm : Int)) = true := decide_eq_true hlt
        have p0 := eq_true hx0
        have p1 := eq_true hlt
        have p2 := eq_true hltl
        obtain ⟨y, hy⟩ : ∃ y, y = rd_T39 q3 x := ⟨_, rfl⟩
        obtain ⟨t, ht⟩ : ∃ t, t = rdOf false l1 x := ⟨_, rfl⟩
        have hd : q3.drop x.toNat = y :: q3.drop (x + 1).toNat := by
          have hl : x.toNat < q3.length := by omega
          rw [List.drop_eq_getElem_cons hl, hy, show (x + 1).toNat = x.toNat + 1 by omega]
          congr 1
          unfold rd_T39
          rw [List.getD_eq_getElem?_getD, List.getElem?_eq_getElem hl]
          rfl
        have hd2 : l1.drop x.toNat = t :: l1.drop (x + 1).toNat := by
          have hl : x.toNat < l1.length := by omega
          rw [List.drop_eq_getElem_cons hl, ht, show (x + 1).toNat = x.toNat + 1 by omega]
          congr 1
          unfold rdOf
          rw [List.getD_eq_getElem?_getD, List.getElem?_eq_getElem hl]
          rfl
        have hF := HF.out
        rw [hd, hd2, keepF] at hF
        rw [← hy] at k0 k1
        rw [← ht] at kb
        have kb' := ((below_alloc (Below.refl wr.heap.size wr) (.cells #[.int .u32 y.f0, .string y.f1] 39 (0, 0))).cell (World.block_lt_of_cell? wr _ kb)).trans kb
        have DA : ∀ o, Drv w (wr.alloc o) g q1 vB (.slice (some ad) q3.length b2_) bl q3 q4 q5 0 := fun o => HDW.out.below (below_alloc (Below.refl _ _) o)
        have DA' := Aside0.mk DA
        clear hd hd2 hx0 hx1 hlt hltq hltl hy hC DA HP hDd hRd ht kb
        cases t with
        | true =>
          rw [if_pos rfl] at hF
          obtain ⟨b', hb', hF⟩ := Option.bind_eq_some_iff.mp hF
          have HP' := Aside0.mk hb'
          have HG := Aside0.mk hF
          clear hb' hF
          go_wp2_with (go_at_call 31; refine (put_calls k g q1 _ _ q4 q5 0 bl y b' w _ (DA'.out _).2.2.2.2 (DA'.out _).1 (DA'.out (.cells #[.int .u32 y.f0, .string y.f1] 39)).2.1 (Kd.R_mono (DA'.out _).2.2.1 (fun _ _ => trivial)) HP'.out).mono ?_; rintro e w6 ⟨rfl, vn, hb6, hO6, hB6, hK6⟩; have D6 := Aside0.mk ((DA'.out _).put hb6 hO6 hB6 hK6); have R6 := Aside0.mk (blk_kept (blk_alloc HGR.out _) hK6 (fun e => e.elim (fun q => NG.out q.symm) (own_ne HDW.out.2.2.1 HGR.out (by decide)))); clear hb6 hO6 hB6 hK6)
          have hx := HX.out
          have hl : x < mm := of_eq_true p1
          have hm := QC.out
          have hm2 := MQ.out
          have ew : wrap64 (x + 1) = x + 1 := by unfold wrap64; omega
          go_roundw
          case rel => exact ⟨x + 1, vn, b', by rw [ew], ⟨by omega⟩, D6, R6, HG⟩
          case measure =>
            simp [ew, intOf]
            omega
        | false =>
          rw [if_neg (by decide)] at hF
          have HG := Aside0.mk hF
          clear hF
          go_wp2
          have hx := HX.out
          have hl : x < mm := of_eq_true p1
          have hm := QC.out
          have hm2 := MQ.out
          have ew : wrap64 (x + 1) = x + 1 := by unfold wrap64; omega
          go_roundw
          case rel => exact ⟨x + 1, vB, bl, by rw [ew], ⟨by omega⟩, ⟨DA'.out _⟩, ⟨blk_alloc HGR.out _⟩, HG⟩
          case measure =>
            simp [ew, intOf]
            omega
      · have hge : decide (x < (mm : Int)) = false := decide_eq_false hlt
        have hF := HF.out
        have hxm : x.toNat = mm := by omega
        have he : keepF k bl (q3.drop x.toNat) (l1.drop x.toNat) = some bl := by
          rw [hxm]
          rcases MO.out with e | e
          · rw [e, List.drop_length]; cases l1.drop q3.length <;> rfl
          · rw [e, List.drop_length]; cases q3.drop l1.length <;> rfl
        rw [he] at hF
        obtain rfl := Option.some.inj hF
        obtain ⟨an_, bn_, rfl⟩ := Kd.R_slice HDW.out.2.2.1
        have hDe := Aside0.mk HDW.out.drew
        have hRe := Aside0.mk (blk_drew HGR.out)
        have n1 : ¬ g = gr := NG.out
        have n2 : ¬ gr = g := fun e => NG.out e.symm
        have g0 : wr.cell? ⟨g, 0, none⟩ = some (.int .u32 q1) := (blk_cell HDW.out.1 0).trans rfl
        have g1 : wr.cell? ⟨g, 1, none⟩ = some (.slice an_ bl.length bn_) := (blk_cell HDW.out.1 1).trans rfl
        clear hF he HF HP hDd hRd
        go_wp2
        refine start_ (n := 13) (S := fun w' => w'.cell? ⟨g, 0, none⟩ = some (.int .u32 q1) ∧ w'.cell? ⟨g, 1, none⟩ = some (.slice an_ bl.length bn_)) (ds := [11]) #[false, false, false, false, false, false, false, false, false, false, false, false, false] (by kernel_rfl) rfl rfl ⟨g0, g1⟩ (fun hHeld => ?_)
        generalize wr.drew = we at hDe hRe hHeld ⊢
        refine pure_ (i := 0) (N := some 47) (v := ?_) (a' := ?_) #[true, false, false, false, false, false, false, false, false, false, false, false, false] rfl rfl (by kernel_rfl) (fun _ _ _ h => h) (Or.inl ⟨by rfl, ?_⟩) ?_ ?_
        rotate_left
        · intro w'
          go_simp
          with_reducible rfl
        rotate_left
        · simp only [Act.put, List.setIfInBounds_toArray, List.set_cons_zero, List.set_cons_succ, i64_w, i32_w]
          rfl
        refine pure_ (i := 1) (N := some 48) (v := ?_) (a' := ?_) #[true, true, false, false, false, false, false, false, false, false, false, false, false] rfl rfl (by kernel_rfl) (fun _ _ _ h => h) (Or.inl ⟨by rfl, ?_⟩) ?_ ?_
        rotate_left
        · intro w'
          go_simp
          with_reducible rfl
        rotate_left
        · simp only [Act.put, List.setIfInBounds_toArray, List.set_cons_zero, List.set_cons_succ, i64_w, i32_w]
          rfl
        refine pure_ (i := 2) (N := some 49) (v := ?_) (a' := ?_) #[true, true, true, false, false, false, false, false, false, false, false, false, false] rfl rfl (by kernel_rfl) (fun _ _ _ h => h) (Or.inl ⟨by rfl, ?_⟩) ?_ ?_
        rotate_left
        · intro w'
          go_simp
          with_reducible rfl
        rotate_left
        · simp only [Act.put, List.setIfInBounds_toArray, List.set_cons_zero, List.set_cons_succ, i64_w, i32_w]
          rfl
        refine pure_ (i := 3) (N := some 50) (v := ?_) (a' := ?_) #[true, true, true, true, false, false, false, false, false, false, false, false, false] rfl rfl (by kernel_rfl) (fun _ _ _ h => h) (Or.inl ⟨by rfl, ?_⟩) ?_ ?_
        rotate_left
        · intro w'
          go_simp
          with_reducible rfl
        rotate_left
        · simp only [Act.put, List.setIfInBounds_toArray, List.set_cons_zero, List.set_cons_succ, i64_w, i32_w]
          rfl
        refine take_ (i := 4) (N := some 51) (v := ?_) (a' := ?_) #[true, true, true, true, true, false, false, false, false, false, false, false, false] rfl rfl (by kernel_rfl) (fun _ _ _ h => h) (Or.inl ⟨by rfl, ?_⟩) hHeld ?_ ?_
        rotate_left
        · rintro w' ⟨s0, s1⟩
          go_simp
          with_reducible rfl
        rotate_left
        · simp only [Act.put, List.setIfInBounds_toArray, List.set_cons_zero, List.set_cons_succ, i64_w, i32_w]
          rfl
        refine pure_ (i := 5) (N := some 52) (v := ?_) (a' := ?_) #[true, true, true, true, true, true, false, false, false, false, false, false, false] rfl rfl (by kernel_rfl) (fun _ _ _ h => h) (Or.inl ⟨by rfl, ?_⟩) ?_ ?_
        rotate_left
        · intro w'
          go_simp
          with_reducible rfl
        rotate_left
        · simp only [Act.put, List.setIfInBounds_toArray, List.set_cons_zero, List.set_cons_succ, i64_w, i32_w]
          rfl
        refine pure_ (i := 6) (N := some 53) (v := ?_) (a' := ?_) #[true, true, true, true, true, true, true, false, false, false, false, false, false] rfl rfl (by kernel_rfl) (fun _ _ _ h => h) (Or.inl ⟨by rfl, ?_⟩) ?_ ?_
        rotate_left
        · intro w'
          go_simp
          with_reducible rfl
        rotate_left
        · simp only [Act.put, List.setIfInBounds_toArray, List.set_cons_zero, List.set_cons_succ, i64_w, i32_w]
          rfl
        refine pure_ (i := 7) (N := some 54) (v := ?_) (a' := ?_) #[true, true, true, true, true, true, true, true, false, false, false, false, false] rfl rfl (by kernel_rfl) (fun _ _ _ h => h) (Or.inl ⟨by rfl, ?_⟩) ?_ ?_
        rotate_left
        · intro w'
          go_simp
          with_reducible rfl
        rotate_left
        · simp only [Act.put, List.setIfInBounds_toArray, List.set_cons_zero, List.set_cons_succ, i64_w, i32_w]
          rfl
        refine pure_ (i := 8) (N := some 55) (v := ?_) (a' := ?_) #[true, true, true, true, true, true, true, true, true, false, false, false, false] rfl rfl (by kernel_rfl) (fun _ _ _ h => h) (Or.inl ⟨by rfl, ?_⟩) ?_ ?_
        rotate_left
        · intro w'
          go_simp
          with_reducible rfl
        rotate_left
        · simp only [Act.put, List.setIfInBounds_toArray, List.set_cons_zero, List.set_cons_succ, i64_w, i32_w]
          rfl
        refine take_ (i := 9) (N := some 56) (v := ?_) (a' := ?_) #[true, true, true, true, true, true, true, true, true, true, false, false, false] rfl rfl (by kernel_rfl) (fun _ _ _ h => h) (Or.inl ⟨by rfl, ?_⟩) hHeld ?_ ?_
        rotate_left
        · rintro w' ⟨s0, s1⟩
          go_simp
          with_reducible rfl
        rotate_left
        · simp only [Act.put, List.setIfInBounds_toArray, List.set_cons_zero, List.set_cons_succ, i64_w, i32_w]
          rfl
        refine pure_ (i := 10) (N := some 57) (v := ?_) (a' := ?_) #[true, true, true, true, true, true, true, true, true, true, true, false, false] rfl rfl (by kernel_rfl) (fun _ _ _ h => h) (Or.inl ⟨by rfl, ?_⟩) ?_ ?_
        rotate_left
        · intro w'
          go_simp
          with_reducible rfl
        rotate_left
        · simp only [Act.put, List.setIfInBounds_toArray, List.set_cons_zero, List.set_cons_succ, i64_w, i32_w]
          rfl
        have r0 : we.cell? ⟨gr, 0, none⟩ = some (.int .u32 0) := (blk_cell hRe.out 0).trans rfl; have r1 : we.cell? ⟨gr, 1, none⟩ = some (.slice none 0 0) := (blk_cell hRe.out 1).trans rfl; have r2 : we.cell? ⟨gr, 2, none⟩ = some (.slice none 0 0) := (blk_cell hRe.out 2).trans rfl; have r3 : we.cell? ⟨gr, 3, none⟩ = some (.bool false) := (blk_cell hRe.out 3).trans rfl; have r4 : we.cell? ⟨gr, 4, none⟩ = some (.int .i64 0) := (blk_cell hRe.out 4).trans rfl; have rf0 : we.frozen? ⟨gr, 0, none⟩ = false := blk_frozen hRe.out 0; have rf1 : we.frozen? ⟨gr, 1, none⟩ = false := blk_frozen hRe.out 1; have rf2 : we.frozen? ⟨gr, 2, none⟩ = false := blk_frozen hRe.out 2; have rf3 : we.frozen? ⟨gr, 3, none⟩ = false := blk_frozen hRe.out 3; have rf4 : we.frozen? ⟨gr, 4, none⟩ = false := blk_frozen hRe.out 4
        refine last_ (i := 11) (N := none) #[true, true, true, true, true, true, true, true, true, true, true, true, false] rfl rfl (by kernel_rfl) (by decide) (fun K hK => ?_)
        refine skip_ (w1 := ?_) (by rfl) rfl ?_ ?_
        rotate_left
        · go_simp
          rfl
        refine hK.out _ _ ?_
        clear hK K
        refine pure_ (i := 12) (N := some 5) (v := ?_) (a' := ?_) #[true, true, true, true, true, true, true, true, true, true, true, true, true] rfl rfl (by kernel_rfl) (fun _ _ _ h => h) (Or.inl ⟨by rfl, ?_⟩) ?_ ?_
        rotate_left
        · intro w'
          go_simp
          with_reducible rfl
        rotate_left
        · simp only [Act.put, List.setIfInBounds_toArray, List.set_cons_zero, List.set_cons_succ, i64_w, i32_w]
          rfl
        refine done_ (by kernel_rfl) ?_
        try go_wp2
        have hs := res_rows (s := q1) (f := -1) (d := false) (Kd.R_mono hDe.out.2.2.1 (fun _ _ => trivial)) hDe.out.2.2.2.2 hRe.out GR.out
        refine bodyPost_ret (results_ct rfl _ _ gr 25 #[.int .u32 q1, .slice an_ bl.length bn_, .slice none 0 0, .bool false, .int .i64 (-1)] (0, 0) _ rfl hs.1 Tryd.underlying25 rfl (by kernel_rfl)) rfl ?_
        exact ⟨_, _, rfl, hs.2.1, Kd.R_nil _ _ _ _ _, hs.2.2⟩
  · rw [if_neg h0] at h
    cases h
    have h0b : (r6 == 0) = false := beq_eq_false_iff_ne.mpr h0
    have h0c : (r6 != 0) = true := bne_iff_ne.mpr h0
    go_enter Tryd.func23, Tryd.ntmps23
    go_wp2_with (first | ((with_reducible refine gate_dst (N := 2) rfl ?_); refine box_event ?hg (N := 2) ?hd (cs := #[.int .u32 a0_0, .slice A0_1 l0_1.length c0_1, .slice A0_2 l0_2.length c0_2, .bool a0_3, .int .i64 a0_4]) (t := 25) ?hr ?_; (case hd => rfl); (case hg => rfl); (case hr => first | (go_simp; done) | (go_simp; rfl)); intro gd hgd w1 hx hbx; have BD1 := Aside0.mk hx; have K1 := Aside0.mk hbx; have GD := Aside0.mk (show w.heap.size ≤ gd by omega); have z0 : w1.cell? ⟨gd, 0, none⟩ = some (.int .u32 a0_0) := (blk_cell BD1.out 0).trans rfl; have z1 : w1.cell? ⟨gd, 1, none⟩ = some (.slice A0_1 l0_1.length c0_1) := (blk_cell BD1.out 1).trans rfl; have z2 : w1.cell? ⟨gd, 2, none⟩ = some (.slice A0_2 l0_2.length c0_2) := (blk_cell BD1.out 2).trans rfl; have z3 : w1.cell? ⟨gd, 3, none⟩ = some (.bool a0_3) := (blk_cell BD1.out 3).trans rfl; have z4 : w1.cell? ⟨gd, 4, none⟩ = some (.int .i64 a0_4) := (blk_cell BD1.out 4).trans rfl; clear hx hbx hgd) | ((with_reducible refine gate_dst (N := 4) rfl ?_); refine box_event ?hg (N := 4) ?hd (cs := #[.int .u32 0, .slice none 0 0, .slice none 0 0, .bool false, .int .i64 0]) (t := 25) ?hr ?_; (case hd => rfl); (case hg => rfl); (case hr => first | (go_simp; done) | (go_simp; rfl)); intro gr hgr w2 hx hbx; have BR2 := Aside0.mk hx; have BD2 := Aside0.mk (blk_below BD1.out hbx); have K2 := Aside0.mk (below_step K1.out hbx); have NE := Aside0.mk (show gr ≠ gd by rw [hgr]; exact fun e => Nat.lt_irrefl _ (e ▸ blk_lt BD1.out)); have GR := Aside0.mk (show w.heap.size ≤ gr by rw [hgr]; exact K1.out.size); clear z0 z1 z2 z3 z4; have z0 : w2.cell? ⟨gd, 0, none⟩ = some (.int .u32 a0_0) := (blk_cell BD2.out 0).trans rfl; have z1 : w2.cell? ⟨gd, 1, none⟩ = some (.slice A0_1 l0_1.length c0_1) := (blk_cell BD2.out 1).trans rfl; have z2 : w2.cell? ⟨gd, 2, none⟩ = some (.slice A0_2 l0_2.length c0_2) := (blk_cell BD2.out 2).trans rfl; have z3 : w2.cell? ⟨gd, 3, none⟩ = some (.bool a0_3) := (blk_cell BD2.out 3).trans rfl; have z4 : w2.cell? ⟨gd, 4, none⟩ = some (.int .i64 a0_4) := (blk_cell BD2.out 4).trans rfl; clear hx hbx hgr K1 BD1) | (go_at_call 21; refine (dev_Check.calls k a0_0 A0_1 c0_1 l0_1 A0_2 c0_2 l0_2 a0_3 a0_4 _ _ (Kd.C_below HR1.out K2.out) HC1.out (Kd.C_below HR2.out K2.out) HC2.out HY.out).mono ?_; rintro e w3 ⟨rfl, h3⟩; have BR3 := Aside0.mk (blk_below BR2.out h3); have BD3 := Aside0.mk (blk_below BD2.out h3); have K3 := Aside0.mk (below_step K2.out h3); clear z0 z1 z2 z3 z4; have z0 : w3.cell? ⟨gd, 0, none⟩ = some (.int .u32 a0_0) := (blk_cell BD3.out 0).trans rfl; have z1 : w3.cell? ⟨gd, 1, none⟩ = some (.slice A0_1 l0_1.length c0_1) := (blk_cell BD3.out 1).trans rfl; have z2 : w3.cell? ⟨gd, 2, none⟩ = some (.slice A0_2 l0_2.length c0_2) := (blk_cell BD3.out 2).trans rfl; have z3 : w3.cell? ⟨gd, 3, none⟩ = some (.bool a0_3) := (blk_cell BD3.out 3).trans rfl; have z4 : w3.cell? ⟨gd, 4, none⟩ = some (.int .i64 a0_4) := (blk_cell BD3.out 4).trans rfl; have r0 : w3.cell? ⟨gr, 0, none⟩ = some (.int .u32 0) := (blk_cell BR3.out 0).trans rfl; have r1 : w3.cell? ⟨gr, 1, none⟩ = some (.slice none 0 0) := (blk_cell BR3.out 1).trans rfl; have r2 : w3.cell? ⟨gr, 2, none⟩ = some (.slice none 0 0) := (blk_cell BR3.out 2).trans rfl; have r3 : w3.cell? ⟨gr, 3, none⟩ = some (.bool false) := (blk_cell BR3.out 3).trans rfl; have r4 : w3.cell? ⟨gr, 4, none⟩ = some (.int .i64 0) := (blk_cell BR3.out 4).trans rfl; have rf0 : w3.frozen? ⟨gr, 0, none⟩ = false := blk_frozen BR3.out 0; have rf1 : w3.frozen? ⟨gr, 1, none⟩ = false := blk_frozen BR3.out 1; have rf2 : w3.frozen? ⟨gr, 2, none⟩ = false := blk_frozen BR3.out 2; have rf3 : w3.frozen? ⟨gr, 3, none⟩ = false := blk_frozen BR3.out 3; have rf4 : w3.frozen? ⟨gr, 4, none⟩ = false := blk_frozen BR3.out 4; clear h3 BR2 BD2 K2))
    have hs := res_zero K3.out BR3.out GR.out
    refine bodyPost_ret (results_ct rfl _ _ gr 25 #[.int .u32 0, .slice none 0 0, .slice none 0 0, .bool false, .int .i64 0] (0, 0) _ rfl hs.1 Tryd.underlying25 rfl (by kernel_rfl)) rfl ?_
    exact ⟨_, _, rfl, Kd.R_nil _ _ _ _ _, Kd.R_nil _ _ _ _ _, hs.2⟩
end Go.Proofs.YtcphflfjhkeooaaDoor.Z
end

section
/- What the functions of package dev come to. -/
namespace Go.Proofs.YtcphflfjhkeooaaDoor.Z
open Go.RowKit Go.Proofs.YtcphflfjhkeooaaDoorW.PrintWords Go.Proofs.YtcphflfjhkeooaaDoorW.PrintLast
set_option linter.unusedVariables false
theorem rd_get (l : List Bk) (i : Nat) (h : i < l.length) : rd_T39 l (i : Int) = l[i] := by
  unfold rd_T39
  rw [Int.toNat_natCast, List.getD_eq_getElem?_getD, List.getElem?_eq_getElem h]; rfl
def Num0 (l : List Bk) : Prop := ∀ x ∈ l, 0 ≤ x.f0
theorem cut_f (a : ByteArray) (h : a.size ≤ 9223372036854775807) : dev_cut.f a = some (trimB a) := by
  unfold dev_cut.f strings_TrimRight.f
  rw [if_pos ⟨rfl, h⟩]; rfl
theorem right_f (x : Bk) (s : Int) (h0 : 0 ≤ x.f0) : ∃ b, dev_right.f x.f0 x.f1 s = some b ∧ (b = true ↔ okB s x) := by
  unfold dev_right.f okB
  by_cases h1 : x.f0 < s
  · rw [if_pos h1]
    by_cases h2 : (x.f1.size : Int) ≤ 512
    · rw [if_pos h2, cut_f _ (by omega)]
      refine ⟨_, rfl, ?_⟩
      rw [beq_iff_eq]
      constructor
      · intro h; exact ⟨h0, h1, by omega, bytes_inj h⟩
      · intro h; rw [h.2.2.2]
    · rw [if_neg h2]; exact ⟨false, rfl, by simp; omega⟩
  · rw [if_neg h1]; exact ⟨false, rfl, by simp; omega⟩
theorem any_f (s : Int) : ∀ (l : List Bk), Num0 l → ∃ b, anyF l s = some b ∧ (b = true ↔ ¬ ∀ x ∈ l, okB s x)
  | [], _ => ⟨false, rfl, by simp⟩
  | x :: l, h => by
    obtain ⟨b, hb, hi⟩ := right_f x s (h x (by simp))
    obtain ⟨c, hc, hj⟩ := any_f s l (fun y hy => h y (by simp [hy]))
    unfold anyF
    rw [hb]
    cases b with
    | true => exact ⟨c, by simp [hc], by rw [hj]; simp [hi.1 rfl]⟩
    | false =>
      have : ¬ okB s x := fun e => by cases hi.2 e
      exact ⟨true, by simp, by simp [this]⟩
/-- What Check asks of the blocks from a place on. -/
def OkFrom (s : Int) (bl : List Bk) (i : Nat) : Prop := ∀ j (h : j < bl.length), i ≤ j → okB s bl[j] ∧ bl[j].f1.size ≠ 0 ∧ ∀ q (e : j = q + 1), (bl[q]'(by omega)).f0 < bl[j].f0
theorem okFrom_succ {s : Int} {bl : List Bk} {i : Nat} (h : i < bl.length) : OkFrom s bl i ↔ (okB s bl[i] ∧ bl[i].f1.size ≠ 0 ∧ ∀ q (e : i = q + 1), (bl[q]'(by omega)).f0 < bl[i].f0) ∧ OkFrom s bl (i + 1) := by
  unfold OkFrom
  constructor
  · intro hh; exact ⟨hh i h (Nat.le_refl _), fun j hj hij => hh j hj (by omega)⟩
  · rintro ⟨h1, h2⟩ j hj hij
    rcases Nat.lt_or_ge i j with hlt | hge
    · exact h2 j hj hlt
    · have : j = i := by omega
      subst this; exact h1
theorem okFrom_zero {s : Int} {bl : List Bk} : OkFrom s bl 0 ↔ okBl s bl := by
  unfold OkFrom okBl
  rw [← asc_steps]
  constructor
  · intro h
    refine ⟨fun j hj => (h (j + 1) hj (by omega)).2.2 j rfl, fun x hx => ?_⟩
    obtain ⟨i, hi, rfl⟩ := List.mem_iff_getElem.1 hx
    exact ⟨(h i hi (by omega)).1, (h i hi (by omega)).2.1⟩
  · rintro ⟨h1, h2⟩ j hj _
    refine ⟨(h2 _ (List.getElem_mem hj)).1, (h2 _ (List.getElem_mem hj)).2, fun q e => ?_⟩
    subst e
    exact h1 q hj
theorem okFrom_end {s : Int} {bl : List Bk} {i : Nat} (h : bl.length ≤ i) : OkFrom s bl i := fun j hj hij => by omega
def ckC (b : Bool) : Int := if b = true then 0 else 7
theorem dCheck_l0 (s : Int) (bl wl : List Bk) (d : Bool) (f : Int) (hb : Num0 bl) (hw : Num0 wl) (hl : bl.length ≤ maxLen) : ∀ dd i : Nat, bl.length = i + dd → ∀ c : Bool,
    ∃ b, Ev (fun k => dev_Check.l0 k c bl (bl.length : Int) (i : Int) s bl wl d f) (ckC b) ∧ (b = true ↔ c = true ∧ OkFrom s bl i ∧ ∀ x ∈ wl, okB s x)
  | 0, i, hi, c => by
    have hge : ¬ ((i : Int) < (bl.length : Int)) := by omega
    cases c with
    | false =>
      refine ⟨false, Ev.step (fun k => by rw [dev_Check.l0]) ?_, by simp⟩
      exact Ev.ifn hge (Ev.ifn (by simp) (Ev.const rfl))
    | true =>
      obtain ⟨b, hb2, hbi⟩ := any_f s wl hw
      have ho : OkFrom s bl i := okFrom_end (by omega)
      refine ⟨!b, Ev.step (fun k => by rw [dev_Check.l0]) ?_, ?_⟩
      · refine Ev.ifn hge (Ev.ifp rfl (Ev.bindc (show slices_ContainsFunc_api_Block_api_Block.f wl s bl wl d f = some b from hb2) ?_))
        cases b
        · exact Ev.ifn (by simp) (Ev.const rfl)
        · exact Ev.ifp rfl (Ev.const rfl)
      · cases b
        · have : ∀ x ∈ wl, okB s x := Classical.byContradiction fun e => by cases hbi.2 e
          simp [ho]; exact this
        · have := hbi.1 rfl
          simp only [Bool.not_true, Bool.false_eq_true, false_iff, not_and]
          exact fun _ _ => this
  | dd + 1, i, hi, c => by
    have hlt : i < bl.length := by omega
    have hmax : bl.length ≤ 9223372036854775807 := hl
    have hw1 : wrap64 ((i : Int) + 1) = ((i + 1 : Nat) : Int) := by rw [w64 (by omega) (by omega)]; omega
    have no : ∃ b, Ev (fun k => dev_Check.l0 k false bl (bl.length : Int) ((i + 1 : Nat) : Int) s bl wl d f) (ckC b) ∧ b = false := by
      obtain ⟨b, h1, h2⟩ := dCheck_l0 s bl wl d f hb hw hl dd (i + 1) (by omega) false
      exact ⟨b, h1, by cases b; rfl; simp at h2⟩
    obtain ⟨nb, hno, rfl⟩ := no
    rw [okFrom_succ hlt]
    cases c with
    | false =>
      refine ⟨false, ?_, by simp⟩
      refine Ev.step (fun k => by rw [dev_Check.l0]) ?_
      refine Ev.ifp (by omega) (Ev.ifp (by omega) (Ev.ifp (by omega) (Ev.ifn (by simp) ?_)))
      rw [hw1]; exact hno
    | true =>
      obtain ⟨r, hr, hri⟩ := right_f bl[i] s (hb _ (List.getElem_mem hlt))
      cases r with
      | false =>
        have hnb : ¬ okB s bl[i] := fun e => by cases hri.2 e
        refine ⟨false, ?_, by simp [hnb]⟩
        refine Ev.step (fun k => by rw [dev_Check.l0]) ?_
        refine Ev.ifp (by omega) (Ev.ifp (by omega) (Ev.ifp (by omega) (Ev.ifp rfl (Ev.bindc (by rw [rd_get bl i hlt]; exact hr) (Ev.ifn (by simp) ?_)))))
        rw [hw1]; exact hno
      | true =>
        have hok := hri.1 rfl
        by_cases hz : bl[i].f1.size = 0
        · refine ⟨false, ?_, by simp [hz]⟩
          refine Ev.step (fun k => by rw [dev_Check.l0]) ?_
          refine Ev.ifp (by omega) (Ev.ifp (by omega) (Ev.ifp (by omega) (Ev.ifp rfl (Ev.bindc (by rw [rd_get bl i hlt]; exact hr) (Ev.ifp rfl (Ev.ifp (by rw [rd_get bl i hlt]; exact toList_nil.2 hz) ?_))))))
          rw [hw1]; exact hno
        · have hz2 : ¬ (rd_T39 bl (i : Int)).f1.toList = [] := by rw [rd_get bl i hlt, toList_nil]; exact hz
          cases i with
          | zero =>
            obtain ⟨b, h1, h2⟩ := dCheck_l0 s bl wl d f hb hw hl dd 1 (by omega) true
            refine ⟨b, ?_, ?_⟩
            · refine Ev.step (fun k => by rw [dev_Check.l0]) ?_
              refine Ev.ifp (by omega) (Ev.ifp (by omega) (Ev.ifp (by omega) (Ev.ifp rfl (Ev.bindc (by rw [rd_get bl 0 hlt]; exact hr) (Ev.ifp rfl (Ev.ifn hz2 (Ev.ifp rfl ?_)))))))
              rw [hw1]; exact h1
            · rw [h2]
              simp [hok, hz]
          | succ j =>
            have e : wrap64 (((j + 1 : Nat) : Int) - 1) = (j : Int) := by rw [w64 (by omega) (by omega)]; omega
            obtain ⟨b, h1, h2⟩ := dCheck_l0 s bl wl d f hb hw hl dd (j + 1 + 1) (by omega) (decide (bl[j].f0 < bl[j + 1].f0))
            refine ⟨b, ?_, ?_⟩
            · refine Ev.step (fun k => by rw [dev_Check.l0]) ?_
              refine Ev.ifp (by omega) (Ev.ifp (by omega) (Ev.ifp (by omega) (Ev.ifp rfl (Ev.bindc (by rw [rd_get bl (j + 1) hlt]; exact hr) (Ev.ifp rfl (Ev.ifn hz2 (Ev.ifn (by omega) (Ev.ifp (by rw [e]; omega) (Ev.ifp (by rw [e]; omega) ?_)))))))))
              rw [hw1, e, rd_get bl j (by omega), rd_get bl (j + 1) hlt]; exact h1
            · rw [h2, decide_eq_true_eq]
              constructor
              · rintro ⟨h3, h4, h5⟩
                exact ⟨rfl, ⟨⟨hok, hz, fun q hq => by (obtain rfl : j = q := by omega); exact h3⟩, h4⟩, h5⟩
              · rintro ⟨_, ⟨⟨_, _, h3⟩, h4⟩, h5⟩
                exact ⟨h3 j rfl, h4, h5⟩
theorem dCheck (s : Int) (bl wl : List Bk) (d : Bool) (f : Int) (hb : Num0 bl) (hw : Num0 wl) (hl : bl.length ≤ maxLen) :
    ∃ b, Ev (fun k => dev_Check.f k s bl wl d f) (ckC b) ∧ (b = true ↔ okDev s bl wl) := by
  have go : ∀ c : Bool, ∃ b, Ev (fun k => dev_Check.j0 k c s bl wl d f) (ckC b) ∧ (b = true ↔ c = true ∧ okBl s bl ∧ ∀ x ∈ wl, okB s x) := by
    intro c
    obtain ⟨b, h1, h2⟩ := dCheck_l0 s bl wl d f hb hw hl bl.length 0 (by omega) c
    refine ⟨b, Ev.step (fun k => by rw [dev_Check.j0]; rfl) h1, ?_⟩
    rw [h2, okFrom_zero]
  unfold dev_Check.f okDev
  by_cases h1 : s ≥ 16
  · by_cases h2 : s ≤ 65536
    · obtain ⟨b, h3, h4⟩ := go (decide ((wl.length : Int) ≤ 16384))
      refine ⟨b, Ev.ifp h1 (Ev.ifp h2 h3), ?_⟩
      rw [h4, decide_eq_true_eq]
      constructor
      · rintro ⟨a, b, c⟩; exact ⟨h1, h2, by omega, b, c⟩
      · rintro ⟨_, _, a, b, c⟩; exact ⟨by omega, b, c⟩
    · obtain ⟨b, h3, h4⟩ := go false
      refine ⟨b, Ev.ifp h1 (Ev.ifn h2 h3), ?_⟩
      rw [h4]
      simp [h2]
  · obtain ⟨b, h3, h4⟩ := go false
    refine ⟨b, Ev.ifn h1 h3, ?_⟩
    rw [h4]
    simp [h1]
theorem dCheck_ok {s : Int} {bl wl : List Bk} (h : okDev s bl wl) (d : Bool) (f : Int) : Ev (fun k => dev_Check.f k s bl wl d f) 0 := by
  obtain ⟨b, h1, h2⟩ := dCheck s bl wl d f (fun x hx => (h.2.2.2.1.2 x hx).1.1) (fun x hx => (h.2.2.2.2 x hx).1) (by
    have := okBl_len h.2.2.2.1 (by have := h.1; omega) h.2.1
    unfold maxLen; omega)
  rw [h2.2 h] at h1
  exact h1
theorem dCheck_bad {s : Int} {bl wl : List Bk} (h : ¬ okDev s bl wl) (d : Bool) (f : Int) (hb : Num0 bl) (hw : Num0 wl) (hl : bl.length ≤ maxLen) : Ev (fun k => dev_Check.f k s bl wl d f) 7 := by
  obtain ⟨b, h1, h2⟩ := dCheck s bl wl d f hb hw hl
  cases b with
  | false => exact h1
  | true => exact absurd (h2.1 rfl) h
-- where a block is
theorem u64w {i : Int} (h0 : 0 ≤ i) (h1 : i ≤ 9223372036854775807) : IntKind.u64.wrap i = i := by
  simp [IntKind.wrap, IntKind.bits, IntKind.signed]; omega
def cmpN (a b : Int) : Int := if a < b then -1 else if a > b then 1 else 0
theorem place1_f (a : Int) (c : ByteArray) (b : Int) : dev_drive_place_1.f a c b = some (cmpN a b) := by
  unfold dev_drive_place_1.f cmp_Compare_uint32.f cmp_isNaN_uint32.f cmpN
  simp only [bne_self_eq_false, Option.bind_some, Bool.false_eq_true, if_false]
  split
  · rfl
  · split <;> rfl
theorem cmpN_lt (a b : Int) : cmpN a b < 0 ↔ a < b := by unfold cmpN; split <;> (try split) <;> omega
theorem cmpN_eq (a b : Int) : (cmpN a b == 0) = decide (a = b) := by
  unfold cmpN
  rw [Bool.eq_iff_iff, beq_iff_eq, decide_eq_true_eq]
  split <;> (try split) <;> omega
theorem search_l0 (bl : List Bk) (num : Int) (m : Nat) (hm : m ≤ bl.length) (hl : bl.length ≤ 4398046511104) (h1 : ∀ i (h : i < bl.length), bl[i].f0 < num ↔ i < m) (r : Bool) (hr : r = match bl[m]? with | some y => decide (y.f0 = num) | none => false) : ∀ d i j : Nat, j - i ≤ d → i ≤ m → m ≤ j → j ≤ bl.length →
    Ev (fun k => slices_BinarySearchFunc_api_Block_api_Block_uint32_fn53.l0 k bl num (bl.length : Int) (i : Int) (j : Int)) ((m : Int), r) := by
  have endd : ∀ i : Nat, i = m → ∀ j : Nat, ¬ ((i : Int) < (j : Int)) → Ev (fun k => slices_BinarySearchFunc_api_Block_api_Block_uint32_fn53.l0 k bl num (bl.length : Int) (i : Int) (j : Int)) ((m : Int), r) := by
    intro i hi j hj
    subst hi
    refine Ev.step (fun k => by rw [slices_BinarySearchFunc_api_Block_api_Block_uint32_fn53.l0]) ?_
    refine Ev.ifn hj ?_
    rcases Nat.lt_or_ge i bl.length with hlt | hge
    · refine Ev.ifp (by omega) (Ev.ifp (by omega) (Ev.ifp (by omega) ?_))
      refine Ev.bindc (place1_f _ _ _) (Ev.const ?_)
      rw [rd_get bl i hlt, cmpN_eq, hr, List.getElem?_eq_getElem hlt]
    · refine Ev.ifn (by omega) (Ev.const ?_)
      rw [hr, List.getElem?_eq_none hge]
  intro d
  induction d with
  | zero => intro i j hd hi hj _; exact endd i (by omega) j (by omega)
  | succ d ih =>
    intro i j hd hi hj hjl
    by_cases hij : (i : Int) < (j : Int)
    · have e1 : wrap64 ((IntKind.u64.wrap (wrap64 ((i : Int) + (j : Int)))) / 2) = (((i + j) / 2 : Nat) : Int) := by
        rw [w64 (i := (i : Int) + j) (by omega) (by omega), u64w (by omega) (by omega), w64 (by omega) (by omega)]; omega
      have hmid : (i + j) / 2 < bl.length := by omega
      refine Ev.step (fun k => by rw [slices_BinarySearchFunc_api_Block_api_Block_uint32_fn53.l0]) ?_
      refine Ev.ifp hij (Ev.ifp (by rw [e1]; omega) (Ev.ifp (by rw [e1]; omega) (Ev.bindc (place1_f _ _ _) ?_)))
      rw [e1, rd_get bl _ hmid]
      have hb := h1 _ hmid
      refine Ev.ite (fun hc => ?_) (fun hc => ?_)
      · rw [cmpN_lt, hb] at hc
        rw [show wrap64 ((((i + j) / 2 : Nat) : Int) + 1) = (((i + j) / 2 + 1 : Nat) : Int) by rw [w64 (by omega) (by omega)]; omega]
        exact ih ((i + j) / 2 + 1) j (by omega) (by omega) hj hjl
      · rw [cmpN_lt, hb] at hc
        exact ih i ((i + j) / 2) (by omega) hi (by omega) (by omega)
    · exact endd i (by omega) j hij
/-- Where a block is, or would be. -/
theorem place_ev {bl : List Bk} (h : Asc bl) (hl : bl.length ≤ 4398046511104) (num : Int) :
    Ev (fun k => slices_BinarySearchFunc_api_Block_api_Block_uint32_fn53.f k bl num) (((bl.filter (fun y => decide (y.f0 < num))).length : Int), bl.any (fun y => decide (y.f0 = num))) := by
  obtain ⟨m, he, hm⟩ := asc_split h num
  have hlo : ∀ y ∈ bl.filter (fun y => decide (y.f0 < num)), y.f0 < num := fun y hy => by rw [List.mem_filter, decide_eq_true_eq] at hy; exact hy.2
  have hup : ∀ y ∈ bl.filter (fun y => decide (num < y.f0)), num < y.f0 := fun y hy => by rw [List.mem_filter, decide_eq_true_eq] at hy; exact hy.2
  have hm2 : ∀ y ∈ m, y.f0 = num := by
    rcases hm with ⟨rfl, _⟩ | ⟨y, rfl, h2⟩
    · simp
    · simpa using h2
  generalize hA : bl.filter (fun y => decide (y.f0 < num)) = A at *
  generalize hB : bl.filter (fun y => decide (num < y.f0)) = B at *
  subst he
  refine search_l0 _ num A.length (by simp) hl (fun i hi => ?_) _ ?_ _ 0 _ (Nat.le_refl _) (Nat.zero_le _) (by simp) (Nat.le_refl _)
  · constructor
    · intro hh
      rcases Nat.lt_or_ge i A.length with h3 | h3
      · exact h3
      · have : (A ++ m ++ B)[i] ∈ m ++ B := by
          have e : (A ++ m ++ B)[i] = (A ++ (m ++ B))[i]'(by simpa using hi) := by simp only [List.append_assoc]
          rw [e, List.getElem_append_right h3]
          exact List.getElem_mem _
        rcases List.mem_append.1 this with h4 | h4
        · have := hm2 _ h4; omega
        · have := hup _ h4; omega
    · intro h3
      have e : (A ++ m ++ B)[i] = A[i] := by
        rw [List.getElem_append_left (by simp; omega), List.getElem_append_left h3]
      rw [e]
      exact hlo _ (List.getElem_mem _)
  · rcases hm with ⟨rfl, h2⟩ | ⟨y, rfl, h2⟩
    · have hn : (A ++ [] ++ B).any (fun y => decide (y.f0 = num)) = false := by
        rw [List.any_eq_false]
        intro x hx; simpa using h2 x hx
      rw [hn]
      simp only [List.append_nil]
      rw [List.getElem?_append_right (Nat.le_refl _), Nat.sub_self]
      cases B with
      | nil => rfl
      | cons b B => have := hup b (by simp); simp; omega
    · have hn : (A ++ [y] ++ B).any (fun y => decide (y.f0 = num)) = true := by
        rw [List.any_eq_true]
        exact ⟨y, by simp, by simpa using h2⟩
      rw [hn, List.append_assoc, List.getElem?_append_right (Nat.le_refl _), Nat.sub_self]
      simp [h2]
theorem put_ev {s : Int} {bl : List Bk} (h : Asc bl) (hl : bl.length ≤ 65536) (x : Bk) : Ev (fun k => putF k bl x) (putL bl x) := by
  unfold putF
  refine Ev.bind (place_ev h (by omega) x.f0) ?_
  obtain ⟨m, he, hm⟩ := asc_split h x.f0
  have hlen : (bl.filter (fun y => decide (y.f0 < x.f0))).length + m.length + (bl.filter (fun y => decide (x.f0 < y.f0))).length = bl.length := by
    have := congrArg List.length he
    rw [List.length_append, List.length_append] at this; omega
  have hany : bl.any (fun y => decide (y.f0 = x.f0)) = decide (m ≠ []) := by
    rcases hm with ⟨rfl, h2⟩ | ⟨y, rfl, h2⟩
    · simp only [ne_eq, not_true_eq_false, decide_false, List.any_eq_false]
      intro z hz; simpa using h2 z hz
    · simp only [ne_eq, List.cons_ne_self, not_false_eq_true, decide_true, List.any_eq_true]
      exact ⟨y, by rw [he]; simp, by simpa using h2⟩
  dsimp only
  rw [hany]
  unfold putL cell
  generalize hA : bl.filter (fun y => decide (y.f0 < x.f0)) = A at *
  generalize hB : bl.filter (fun y => decide (x.f0 < y.f0)) = B at *
  rcases hm with ⟨rfl, h2⟩ | ⟨y, rfl, h2⟩
  · refine Ev.ifn (by simp) ?_
    by_cases hz : x.f1.size = 0
    · refine Ev.ifp (toList_nil.2 hz) (Ev.const ?_)
      rw [if_pos hz, he]
    · refine Ev.ifn (fun e => hz (toList_nil.1 e)) (Ev.const ?_)
      unfold slices_Insert_api_Block_api_Block.f
      rw [if_pos ⟨by omega, by simp at hlen; omega, rfl, by omega⟩, if_neg hz, Int.toNat_natCast, he]
      simp
  · refine Ev.ifp (by simp) ?_
    by_cases hz : x.f1.size = 0
    · refine Ev.ifp (toList_nil.2 hz) (Ev.const ?_)
      unfold slices_Delete_api_Block_api_Block.f
      rw [if_pos ⟨by omega, by simp at hlen; omega, rfl⟩, if_pos hz, Int.toNat_natCast, he]
      simp
    · refine Ev.ifn (fun e => hz (toList_nil.1 e)) (Ev.ifp ⟨by omega, by simp at hlen; omega⟩ (Ev.const ?_))
      rw [if_neg hz, Int.toNat_natCast, he]
      simp
end Go.Proofs.YtcphflfjhkeooaaDoor.Z
end

section
/- What the calls on a device come to. -/
namespace Go.Proofs.YtcphflfjhkeooaaDoor.Z
open Go.RowKit Go.Proofs.YtcphflfjhkeooaaDoorW.PrintWords Go.Proofs.YtcphflfjhkeooaaDoorW.PrintLast
set_option linter.unusedVariables false
abbrev Dv := Int × List Bk × List Bk × Bool × Int × Int
def badV : Dv := (0, [], [], false, 0, 7)
theorem clone_f (l : List Bk) (h : l.length ≤ 5864062014805) : slices_Clone_api_Block_api_Block.f l = some l := if_pos (by omega)
theorem okDev_len {s : Int} {bl wl : List Bk} (h : okDev s bl wl) : bl.length ≤ 65536 := okBl_len h.2.2.2.1 (by have := h.1; omega) h.2.1
theorem own_f {s : Int} {bl wl : List Bk} (h : okDev s bl wl) (d : Bool) (f : Int) : dev_Own.f s bl wl d f = some (s, bl, wl, d, f) := by
  have h1 := okDev_len h
  have h2 := h.2.2.1
  unfold dev_Own.f
  rw [clone_f bl (by omega), clone_f wl (by omega)]
  rfl
theorem find_back (p : Int → Blk → Bool) (wl : List Bk) (hp : ∀ i x, p i x = p 0 x) : ((uptoB (backAt wl) wl.length).find? (fun q => p q.1 q.2)).map (fun q => q.2.f1) = (wl.reverse.find? (fun x => p 0 x)).map (fun x => x.f1) := by
  have e : (uptoB (backAt wl) wl.length).map (fun q => q.2) = wl.reverse := by
    unfold uptoB
    apply List.ext_getElem (by simp)
    intro i h1 h2
    simp only [List.length_map, List.length_range] at h1
    rw [List.getElem_map, List.getElem_map, List.getElem_range, List.getElem_reverse]
    unfold backAt
    dsimp only
    have e2 : ((wl.length : Int) - 1 - (i : Int)) = ((wl.length - 1 - i : Nat) : Int) := by omega
    rw [e2, rd_get wl _ (by omega)]
  rw [← e, List.find?_map, Option.map_map]
  congr 1
  congr 1
  funext q
  exact hp _ _
theorem lastOf_f (wl : List Bk) (n : Int) : lastOf wl n = (wl.reverse.find? (fun x => x.f0 == n)).map (fun x => x.f1) := find_back (fun _ x => x.f0 == n) wl (fun _ _ => rfl)
theorem read_ev {bl : List Bk} (h : Asc bl) (hl : bl.length ≤ 65536) (wl : List Bk) (n : Int) : Ev (fun k => readF k bl wl n) (readL bl wl n) := by
  unfold readF readL
  rw [lastOf_f]
  cases wl.reverse.find? (fun x => x.f0 == n) with
  | some y => exact Ev.const rfl
  | none =>
    simp only [Option.map_none]
    refine Ev.bind (place_ev h (by omega) n) ?_
    dsimp only
    obtain ⟨m, he, hm⟩ := asc_split h n
    rcases hm with ⟨rfl, h2⟩ | ⟨y, rfl, h2⟩
    · have hn : bl.any (fun y => decide (y.f0 = n)) = false := by
        rw [List.any_eq_false]
        intro x hx; simpa using h2 x hx
      rw [hn]
      refine Ev.ifn (by simp) (Ev.const ?_)
      rw [has_none h2]
    · have hy : y ∈ bl := by rw [he]; simp
      have hn : bl.any (fun y => decide (y.f0 = n)) = true := by
        rw [List.any_eq_true]
        exact ⟨y, hy, by simpa using h2⟩
      have hlen : (bl.filter (fun y => decide (y.f0 < n))).length < bl.length := by
        have := congrArg List.length he
        rw [List.length_append, List.length_append, List.length_singleton] at this; omega
      rw [hn]
      refine Ev.ifp rfl (Ev.ifp ⟨by omega, by omega⟩ (Ev.const ?_))
      have hv : has bl n = y.f1 := by rw [← h2]; exact has_mem h hy
      have hg : bl[(bl.filter (fun y => decide (y.f0 < n))).length]? = some y := by
        generalize bl.filter (fun y => decide (y.f0 < n)) = A at *
        rw [he]
        simp
      rw [List.getElem?_eq_getElem hlen] at hg
      rw [rd_get bl _ hlen, hv, Option.some.inj hg]
theorem puts_ev {s : Int} (h0 : 0 ≤ s) (h1 : s ≤ 65536) : ∀ (wl : List Bk) {bl : List Bk}, okBl s bl → (∀ x ∈ wl, okB s x) → Ev (fun k => putsF k bl wl) (putsL bl wl)
  | [], bl, h, _ => Ev.const rfl
  | x :: wl, bl, h, hw => by
    unfold putsF
    exact Ev.bind (put_ev (s := s) h.1 (okBl_len h h0 h1) x) (puts_ev h0 h1 wl (okBl_put h (hw x (by simp))) (fun y hy => hw y (by simp [hy])))
theorem keep_ev {s : Int} (h0 : 0 ≤ s) (h1 : s ≤ 65536) : ∀ (wl : List Bk) (l : List Bool) {bl : List Bk}, okBl s bl → (∀ x ∈ wl, okB s x) → Ev (fun k => keepF k bl wl l) (putsL bl (kept wl l))
  | [], l, bl, h, _ => by unfold keepF; exact Ev.const rfl
  | x :: wl, [], bl, h, _ => by unfold keepF; exact Ev.const rfl
  | x :: wl, t :: l, bl, h, hw => by
    unfold keepF kept
    refine Ev.ite (fun ht => ?_) (fun ht => ?_)
    · rw [if_pos ht]
      exact Ev.bind (put_ev (s := s) h.1 (okBl_len h h0 h1) x) (keep_ev h0 h1 wl l (okBl_put h (hw x (by simp))) (fun y hy => hw y (by simp [hy])))
    · rw [if_neg ht]
      exact keep_ev h0 h1 wl l h (fun y hy => hw y (by simp [hy]))
def readS (s : Int) (bl wl : List Bk) (d : Bool) (n : Int) : ByteArray × Int := if d = true then (⟨#[]⟩, 17) else if n ≥ s then (⟨#[]⟩, 1) else (readL bl wl n, 0)
def writeS (s : Int) (bl wl : List Bk) (d : Bool) (f n : Int) (data : ByteArray) : Dv :=
  if d = true then (s, bl, wl, d, f, 17) else if n ≥ s then (s, bl, wl, d, f, 1) else if (data.size : Int) > 512 then (s, bl, wl, d, f, 2) else if (wl.length : Int) ≥ 16384 then (s, bl, wl, d, f, 8)
  else (s, bl, wl ++ [⟨n, trimB data⟩], downOf d f, fuseOf f, if downOf d f = true then 17 else 0)
def flushS (s : Int) (bl wl : List Bk) (d : Bool) (f : Int) : Dv :=
  if d = true then (s, bl, wl, d, f, 17) else if downOf d f = true then (s, bl, wl, true, fuseOf f, 17) else (s, putsL bl wl, [], false, fuseOf f, 0)
def crashS (s : Int) (bl wl : List Bk) (l : List Bool) : Dv := (s, putsL bl (kept wl l), [], false, -1, 0)
def spoilS (s : Int) (bl wl : List Bk) (d : Bool) (f n : Int) (data : ByteArray) : Dv :=
  if n ≥ s then (s, bl, wl, d, f, 1) else if (data.size : Int) > 512 then (s, bl, wl, d, f, 2) else (s, putL bl ⟨n, trimB data⟩, wl, d, f, 0)
variable {s : Int} {bl wl : List Bk}
theorem read_ok (h : okDev s bl wl) (d : Bool) (f n : Int) : Ev (fun k => dev_Read.f k s bl wl d f n) (readS s bl wl d n) := by
  unfold dev_Read.f readS
  refine Ev.bind (dCheck_ok h d f) (Ev.ifp rfl (Ev.ite (fun hd => ?_) (fun hd => ?_)))
  · rw [if_pos hd]; exact Ev.const rfl
  · rw [if_neg hd]
    refine Ev.ite (fun hn => ?_) (fun hn => ?_)
    · rw [if_pos hn]; exact Ev.const rfl
    · rw [if_neg hn]
      exact Ev.bind (read_ev h.2.2.2.1.1 (okDev_len h) wl n) (Ev.const rfl)
theorem write_ok (h : okDev s bl wl) (d : Bool) (f n : Int) (data : ByteArray) : Ev (fun k => dev_Write.f k s bl wl d f n data) (writeS s bl wl d f n data) := by
  unfold dev_Write.f writeS
  have hwl := h.2.2.1
  refine Ev.bind (dCheck_ok h d f) (Ev.ifp rfl (Ev.bindc (own_f h d f) ?_))
  dsimp only
  refine Ev.ite (fun hd => ?_) (fun hd => ?_)
  · rw [if_pos hd]; exact Ev.const rfl
  · rw [if_neg hd]
    refine Ev.ite (fun hn => ?_) (fun hn => ?_)
    · rw [if_pos hn]; exact Ev.const rfl
    · rw [if_neg hn]
      refine Ev.ite (fun hq => ?_) (fun hq => ?_)
      · rw [if_pos hq]; exact Ev.const rfl
      · rw [if_neg hq]
        refine Ev.ite (fun hw => ?_) (fun hw => ?_)
        · rw [if_pos hw]; exact Ev.const rfl
        · rw [if_neg hw]
          exact Ev.bindc (cut_f data (by omega)) (Ev.ifp (by omega) (Ev.const rfl))
theorem flush_ok (h : okDev s bl wl) (d : Bool) (f : Int) : Ev (fun k => dev_Flush.f k s bl wl d f) (flushS s bl wl d f) := by
  unfold dev_Flush.f flushS
  have hwl := h.2.2.1
  refine Ev.bind (dCheck_ok h d f) (Ev.ifp rfl (Ev.bindc (own_f h d f) ?_))
  dsimp only
  refine Ev.ite (fun hd => ?_) (fun hd => ?_)
  · rw [if_pos hd]; exact Ev.const rfl
  · rw [if_neg hd]
    refine Ev.ite (fun hn => ?_) (fun hn => ?_)
    · rw [if_pos hn]; exact Ev.const rfl
    · rw [if_neg hn]
      exact Ev.bind (puts_ev (by have := h.1; omega) h.2.1 wl h.2.2.2.1 h.2.2.2.2) (Ev.const rfl)
theorem crash_ok (h : okDev s bl wl) (d : Bool) (f : Int) (l : List Bool) : Ev (fun k => dev_Crash.f k s bl wl d f l) (crashS s bl wl l) := by
  unfold dev_Crash.f crashS
  refine Ev.bind (dCheck_ok h d f) (Ev.ifp rfl (Ev.bindc (own_f h d f) ?_))
  dsimp only
  exact Ev.bind (keep_ev (by have := h.1; omega) h.2.1 wl l h.2.2.2.1 h.2.2.2.2) (Ev.const rfl)
theorem spoil_ok (h : okDev s bl wl) (d : Bool) (f n : Int) (data : ByteArray) : Ev (fun k => dev_Spoil.f k s bl wl d f n data) (spoilS s bl wl d f n data) := by
  unfold dev_Spoil.f spoilS
  refine Ev.bind (dCheck_ok h d f) (Ev.ifp rfl (Ev.bindc (own_f h d f) ?_))
  dsimp only
  refine Ev.ite (fun hd => ?_) (fun hd => ?_)
  · rw [if_pos hd]; exact Ev.const rfl
  · rw [if_neg hd]
    refine Ev.ite (fun hn => ?_) (fun hn => ?_)
    · rw [if_pos hn]; exact Ev.const rfl
    · rw [if_neg hn]
      exact Ev.bindc (cut_f data (by omega)) (Ev.bind (put_ev (s := s) h.2.2.2.1.1 (okDev_len h) _) (Ev.const rfl))
/-- What the arguments bring. -/
structure Inp (s : Int) (bl wl : List Bk) : Prop where
  n1 : Num0 bl
  n2 : Num0 wl
  l1 : bl.length ≤ maxLen
theorem read_bad (h : ¬ okDev s bl wl) (hi : Inp s bl wl) (d : Bool) (f n : Int) : Ev (fun k => dev_Read.f k s bl wl d f n) (⟨#[]⟩, 7) :=
  Ev.bind (dCheck_bad h d f hi.n1 hi.n2 hi.l1) (Ev.ifn (by decide) (Ev.const rfl))
theorem write_bad (h : ¬ okDev s bl wl) (hi : Inp s bl wl) (d : Bool) (f n : Int) (data : ByteArray) : Ev (fun k => dev_Write.f k s bl wl d f n data) badV :=
  Ev.bind (dCheck_bad h d f hi.n1 hi.n2 hi.l1) (Ev.ifn (by decide) (Ev.const rfl))
theorem flush_bad (h : ¬ okDev s bl wl) (hi : Inp s bl wl) (d : Bool) (f : Int) : Ev (fun k => dev_Flush.f k s bl wl d f) badV :=
  Ev.bind (dCheck_bad h d f hi.n1 hi.n2 hi.l1) (Ev.ifn (by decide) (Ev.const rfl))
theorem crash_bad (h : ¬ okDev s bl wl) (hi : Inp s bl wl) (d : Bool) (f : Int) (l : List Bool) : Ev (fun k => dev_Crash.f k s bl wl d f l) badV :=
  Ev.bind (dCheck_bad h d f hi.n1 hi.n2 hi.l1) (Ev.ifn (by decide) (Ev.const rfl))
theorem spoil_bad (h : ¬ okDev s bl wl) (hi : Inp s bl wl) (d : Bool) (f n : Int) (data : ByteArray) : Ev (fun k => dev_Spoil.f k s bl wl d f n data) badV :=
  Ev.bind (dCheck_bad h d f hi.n1 hi.n2 hi.l1) (Ev.ifn (by decide) (Ev.const rfl))
-- a right device stays right
theorem okDev_puts (h : okDev s bl wl) {ws : List Bk} (hw : ∀ x ∈ ws, okB s x) : okDev s (putsL bl ws) [] :=
  ⟨h.1, h.2.1, by simp, okBl_puts h.2.2.2.1 hw, by simp⟩
theorem okB_new {n : Int} {data : ByteArray} (h0 : 0 ≤ n) (hn : ¬ n ≥ s) (hd : ¬ (data.size : Int) > 512) : okB s ⟨n, trimB data⟩ := by
  have := trimB_size data
  exact ⟨h0, by simpa using hn, by simp only; omega, trimB_idem data⟩
theorem okDev_write (h : okDev s bl wl) {n : Int} (hn : 0 ≤ n) (d : Bool) (f : Int) (data : ByteArray) : okDev (writeS s bl wl d f n data).1 (writeS s bl wl d f n data).2.1 (writeS s bl wl d f n data).2.2.1 := by
  unfold writeS
  split
  · exact h
  · split
    · exact h
    · split
      · exact h
      · split
        · exact h
        · refine ⟨h.1, h.2.1, by simp only [List.length_append, List.length_singleton]; omega, h.2.2.2.1, fun x hx => ?_⟩
          rcases List.mem_append.1 hx with hx | hx
          · exact h.2.2.2.2 x hx
          · rw [List.mem_singleton] at hx
            subst hx
            exact okB_new hn ‹_› ‹_›
theorem okDev_spoil (h : okDev s bl wl) {n : Int} (hn : 0 ≤ n) (d : Bool) (f : Int) (data : ByteArray) : okDev (spoilS s bl wl d f n data).1 (spoilS s bl wl d f n data).2.1 (spoilS s bl wl d f n data).2.2.1 := by
  unfold spoilS
  split
  · exact h
  · split
    · exact h
    · exact ⟨h.1, h.2.1, h.2.2.1, okBl_put h.2.2.2.1 (okB_new hn ‹_› ‹_›), h.2.2.2.2⟩
theorem okDev_flush (h : okDev s bl wl) (d : Bool) (f : Int) : okDev (flushS s bl wl d f).1 (flushS s bl wl d f).2.1 (flushS s bl wl d f).2.2.1 := by
  unfold flushS
  split
  · exact h
  · split
    · exact h
    · exact okDev_puts h h.2.2.2.2
theorem okDev_crash (h : okDev s bl wl) (l : List Bool) : okDev (crashS s bl wl l).1 (crashS s bl wl l).2.1 (crashS s bl wl l).2.2.1 :=
  okDev_puts h (fun x hx => h.2.2.2.2 x (kept_mem hx))
end Go.Proofs.YtcphflfjhkeooaaDoor.Z
end
