/- This session's own texts, laid together (a part that several claims share). -/
import Derived.Test.YtcphflfjhkeooaaDoorMB1
import Derived.Test.YtcphflfjhkeooaaDoorRows
import Derived.Lib.SmallJoins
import Derived.Deep.Strs
import Derived.SizedLaws
import Derived.ChangeArms
import Derived.DataShut
section
/- dev.Read, dev.Write, dev.Spoil, dev.Flush, dev.Crash: printed by gendev.py. -/
namespace Go.Proofs.YtcphflfjhkeooaaDoor.Z
open Go.RowKit Go.Proofs.YtcphflfjhkeooaaDoorW.PrintWords Go.Proofs.YtcphflfjhkeooaaDoorW.PrintLast Go.Proofs.YtcphflfjhkeooaaDoorW.PrintMore
set_option linter.unusedVariables false
set_option linter.unusedSimpArgs false
attribute [local go_sem ↓] Go.wp_at_zero Go.wp_at_succ
def dev_Read.f (k : Nat) (a0_0 : Int) (l0_1 : List (S39)) (l0_2 : List (S39)) (a0_3 : Bool) (a0_4 : Int) (a1 : Int) : Option (ByteArray × Int) :=
  (dev_Check.f k a0_0 l0_1 l0_2 a0_3 a0_4).bind fun y => if y = 0 then (if a0_3 = true then some (⟨#[]⟩, 17) else if a1 ≥ a0_0 then some (⟨#[]⟩, 1) else (readF k l0_1 l0_2 a1).bind fun s => some (s, 0)) else some (⟨#[]⟩, y)
theorem dev_Read.mono : ∀ a0 a1 a2 a3 a4 a5 k, LeO (dev_Read.f k a0 a1 a2 a3 a4 a5) (dev_Read.f (k + 1) a0 a1 a2 a3 a4 a5) := by
  intro a0 a1 a2 a3 a4 a5 k
  unfold dev_Read.f
  exact LeO.bind (dev_Check.mono _ _ _ _ _ _) (fun _ => LeO.ite (LeO.ite (LeO.refl _) (LeO.ite (LeO.refl _) (LeO.bind (readF_mono _ _ _ _) (fun _ => LeO.refl _)))) (LeO.refl _))
set_option maxRecDepth 100000 in
set_option maxHeartbeats 3200000 in
theorem dev_Read.calls (k : Nat) (a0_0 : Int) (A0_1 : Option Addr) (c0_1 : Nat) (l0_1 : List (S39)) (A0_2 : Option Addr) (c0_2 : Nat) (l0_2 : List (S39)) (a0_3 : Bool) (a0_4 : Int) (a1 : Int) (r1 : ByteArray) (r2 : Int) (w : World) (hr0_1 : Kd.C k39 w A0_1 l0_1.length l0_1) (hc0_1 : l0_1.length ≤ c0_1) (hr0_2 : Kd.C k39 w A0_2 l0_2.length l0_2) (hc0_2 : l0_2.length ≤ c0_2) (h : dev_Read.f k a0_0 l0_1 l0_2 a0_3 a0_4 a1 = some (r1, r2)) :
    Calls Tryd.prog 17 #[.agg #[.int .u32 a0_0, .slice A0_1 l0_1.length c0_1, .slice A0_2 l0_2.length c0_2, .bool a0_3, .int .i64 a0_4], .int .u32 a1] w fun e w' => e = .returned (.tuple #[.string r1, .int .i64 r2]) ∧ Below w.heap.size w w' := by
  have HR1 := Aside0.mk hr0_1
  have HR2 := Aside0.mk hr0_2
  have HC1 := Aside0.mk hc0_1
  have HC2 := Aside0.mk hc0_2
  clear hr0_1 hr0_2 hc0_1 hc0_2
  unfold dev_Read.f at h
  replace h := Option.bind_eq_some_iff.mp h
  obtain ⟨y, hy, h⟩ := h
  have HY := Aside0.mk hy
  clear hy
  by_cases h0 : y = 0
  · rw [if_pos h0] at h
    subst h0
    by_cases h1 : a0_3 = true
    · rw [if_pos h1] at h
      subst h1
      cases h
      go_enter Tryd.func17, Tryd.ntmps17
      go_wp2_with (first | ((with_reducible refine gate_dst (N := 2) rfl ?_); refine bx_ (N := 2) (cs := #[.int .u32 a0_0, .slice A0_1 l0_1.length c0_1, .slice A0_2 l0_2.length c0_2, .bool true, .int .i64 a0_4]) (t := 25) ?_; intro gd hgd w1 hx hbx; have BD1 := Aside0.mk hx; have K1 := Aside0.mk hbx; have GD := Aside0.mk (show w.heap.size ≤ gd by omega); obtain ⟨z0, z1, z2, z3, z4⟩ := cl5_ BD1; clear hx hbx hgd) | (go_at_call 21; refine (dev_Check.calls k a0_0 A0_1 c0_1 l0_1 A0_2 c0_2 l0_2 true a0_4 _ _ (Kd.C_below HR1.out K1.out) HC1.out (Kd.C_below HR2.out K1.out) HC2.out HY.out).mono ?_; rintro e w3 ⟨rfl, h3⟩; have BD3 := Aside0.mk (blk_below BD1.out h3); have K3 := Aside0.mk (below_step K1.out h3); clear z0 z1 z2 z3 z4; obtain ⟨z0, z1, z2, z3, z4⟩ := cl5_ BD3;   clear h3 BD1 K1))
      go_ret2
      exact ⟨rfl, K3.out⟩
    · rw [if_neg h1] at h
      replace h1 := Bool.eq_false_iff.mpr h1
      subst h1
      by_cases h2 : a1 ≥ a0_0
      · rw [if_pos h2] at h
        cases h
        have h2b : decide (a0_0 ≤ a1) = true := decide_eq_true h2
        go_enter Tryd.func17, Tryd.ntmps17
        go_wp2_with (first | ((with_reducible refine gate_dst (N := 2) rfl ?_); refine bx_ (N := 2) (cs := #[.int .u32 a0_0, .slice A0_1 l0_1.length c0_1, .slice A0_2 l0_2.length c0_2, .bool false, .int .i64 a0_4]) (t := 25) ?_; intro gd hgd w1 hx hbx; have BD1 := Aside0.mk hx; have K1 := Aside0.mk hbx; have GD := Aside0.mk (show w.heap.size ≤ gd by omega); obtain ⟨z0, z1, z2, z3, z4⟩ := cl5_ BD1; clear hx hbx hgd) | (go_at_call 21; refine (dev_Check.calls k a0_0 A0_1 c0_1 l0_1 A0_2 c0_2 l0_2 false a0_4 _ _ (Kd.C_below HR1.out K1.out) HC1.out (Kd.C_below HR2.out K1.out) HC2.out HY.out).mono ?_; rintro e w3 ⟨rfl, h3⟩; have BD3 := Aside0.mk (blk_below BD1.out h3); have K3 := Aside0.mk (below_step K1.out h3); clear z0 z1 z2 z3 z4; obtain ⟨z0, z1, z2, z3, z4⟩ := cl5_ BD3;   clear h3 BD1 K1))
        go_ret2
        exact ⟨rfl, K3.out⟩
      · rw [if_neg h2] at h
        have h2b : decide (a0_0 ≤ a1) = false := decide_eq_false h2
        replace h := Option.bind_eq_some_iff.mp h
        obtain ⟨s, hs, h⟩ := h
        cases h
        have HS := Aside0.mk hs
        clear hs
        replace h2 := Int.lt_of_not_ge h2
        go_enter Tryd.func17, Tryd.ntmps17
        go_wp2_with (first | ((with_reducible refine gate_dst (N := 2) rfl ?_); refine bx_ (N := 2) (cs := #[.int .u32 a0_0, .slice A0_1 l0_1.length c0_1, .slice A0_2 l0_2.length c0_2, .bool false, .int .i64 a0_4]) (t := 25) ?_; intro gd hgd w1 hx hbx; have BD1 := Aside0.mk hx; have K1 := Aside0.mk hbx; have GD := Aside0.mk (show w.heap.size ≤ gd by omega); obtain ⟨z0, z1, z2, z3, z4⟩ := cl5_ BD1; clear hx hbx hgd) | (go_at_call 21; refine (dev_Check.calls k a0_0 A0_1 c0_1 l0_1 A0_2 c0_2 l0_2 false a0_4 _ _ (Kd.C_below HR1.out K1.out) HC1.out (Kd.C_below HR2.out K1.out) HC2.out HY.out).mono ?_; rintro e w3 ⟨rfl, h3⟩; have BD3 := Aside0.mk (blk_below BD1.out h3); have K3 := Aside0.mk (below_step K1.out h3); clear z0 z1 z2 z3 z4; obtain ⟨z0, z1, z2, z3, z4⟩ := cl5_ BD3;   clear h3 BD1 K1) | ((with_reducible refine gate_dst (N := 22) rfl ?_); refine bx_ (N := 22) (cs := #[.int .u32 a0_0, .slice A0_1 l0_1.length c0_1, .slice A0_2 l0_2.length c0_2, .bool false, .int .i64 a0_4, .int .u64 0]) (t := 60) ?_; intro g hg w4 hx hbx; have BG := Aside0.mk hx; have K4 := Aside0.mk (below_step K3.out hbx); have NG := Aside0.mk (show w.heap.size ≤ g by rw [hg]; exact K3.out.size); clear hx hbx hg) | (go_at_call 33; refine (read_calls k g a0_0 A0_1 c0_1 l0_1 A0_2 c0_2 l0_2 false a0_4 0 a1 r1 w _ K4.out NG.out BG.out HR1.out HC1.out HR2.out HC2.out HS.out).mono ?_; rintro e w5 ⟨rfl, h5⟩; have K5 := Aside0.mk h5; clear h5))
        go_ret2
        exact ⟨rfl, K5.out⟩
  · rw [if_neg h0] at h
    cases h
    have h0b : (r2 == 0) = false := beq_eq_false_iff_ne.mpr h0
    have h0c : (r2 != 0) = true := bne_iff_ne.mpr h0
    go_enter Tryd.func17, Tryd.ntmps17
    go_wp2_with (first | ((with_reducible refine gate_dst (N := 2) rfl ?_); refine bx_ (N := 2) (cs := #[.int .u32 a0_0, .slice A0_1 l0_1.length c0_1, .slice A0_2 l0_2.length c0_2, .bool a0_3, .int .i64 a0_4]) (t := 25) ?_; intro gd hgd w1 hx hbx; have BD1 := Aside0.mk hx; have K1 := Aside0.mk hbx; have GD := Aside0.mk (show w.heap.size ≤ gd by omega); obtain ⟨z0, z1, z2, z3, z4⟩ := cl5_ BD1; clear hx hbx hgd) | (go_at_call 21; refine (dev_Check.calls k a0_0 A0_1 c0_1 l0_1 A0_2 c0_2 l0_2 a0_3 a0_4 _ _ (Kd.C_below HR1.out K1.out) HC1.out (Kd.C_below HR2.out K1.out) HC2.out HY.out).mono ?_; rintro e w3 ⟨rfl, h3⟩; have BD3 := Aside0.mk (blk_below BD1.out h3); have K3 := Aside0.mk (below_step K1.out h3); clear z0 z1 z2 z3 z4; obtain ⟨z0, z1, z2, z3, z4⟩ := cl5_ BD3;   clear h3 BD1 K1))
    go_ret2
    exact ⟨rfl, K3.out⟩
theorem res_dev {w0 w : World} {g gr : Nat} {s : Int} {vB vW : Value} {bl wl : List Blk} {d : Bool} {f n : Int} {z0 z1 z2 z3 z4 : Value} (h : Drv w0 w g s vB vW bl wl d f n) (hr : w.heap[gr]? = some (.cells #[z0, z1, z2, z3, z4] 25 (0, 0))) (hgr : w0.heap.size ≤ gr) :
    (((((w.setCell ⟨gr, 0, none⟩ (.int .u32 s)).setCell ⟨gr, 1, none⟩ vB).setCell ⟨gr, 2, none⟩ vW).setCell ⟨gr, 3, none⟩ (.bool d)).setCell ⟨gr, 4, none⟩ (.int .i64 f)).heap[gr]? = some (.cells #[.int .u32 s, vB, vW, .bool d, .int .i64 f] 25 (0, 0)) ∧
    Own (((((w.setCell ⟨gr, 0, none⟩ (.int .u32 s)).setCell ⟨gr, 1, none⟩ vB).setCell ⟨gr, 2, none⟩ vW).setCell ⟨gr, 3, none⟩ (.bool d)).setCell ⟨gr, 4, none⟩ (.int .i64 f)) w0.heap.size (fun k_ => some k_ ≠ vW.ownBlock) vB bl ∧
    Own (((((w.setCell ⟨gr, 0, none⟩ (.int .u32 s)).setCell ⟨gr, 1, none⟩ vB).setCell ⟨gr, 2, none⟩ vW).setCell ⟨gr, 3, none⟩ (.bool d)).setCell ⟨gr, 4, none⟩ (.int .i64 f)) w0.heap.size (fun k_ => some k_ ≠ vB.ownBlock) vW wl ∧
    Below w0.heap.size w0 (((((w.setCell ⟨gr, 0, none⟩ (.int .u32 s)).setCell ⟨gr, 1, none⟩ vB).setCell ⟨gr, 2, none⟩ vW).setCell ⟨gr, 3, none⟩ (.bool d)).setCell ⟨gr, 4, none⟩ (.int .i64 f)) := by
  have hs := (((((Step.refl hr).set 0 (.int .u32 s) rfl).set 1 vB rfl).set 2 vW rfl).set 3 (.bool d) rfl).set 4 (.int .i64 f) rfl
  obtain ⟨h1, h2, h3, h4, h5⟩ := h
  exact ⟨hs.1, Kd.R_mono (Kd.R_keep (Kd.R_types h3 hr (by decide)) hs.2.1 (fun _ hk => hk.2)) (fun _ hk => hk.1), Kd.R_mono (Kd.R_keep (Kd.R_types h4 hr (by decide)) hs.2.1 (fun _ hk => hk.2)) (fun _ hk => hk.1), h5.trans (hs.2.2 _ hgr)⟩
theorem res_zero {w0 w : World} {gr : Nat} {z0 z1 z2 z3 z4 : Value} (h5 : Below w0.heap.size w0 w) (hr : w.heap[gr]? = some (.cells #[z0, z1, z2, z3, z4] 25 (0, 0))) (hgr : w0.heap.size ≤ gr) :
    (((((w.setCell ⟨gr, 0, none⟩ (.int .u32 0)).setCell ⟨gr, 1, none⟩ (.slice none 0 0)).setCell ⟨gr, 2, none⟩ (.slice none 0 0)).setCell ⟨gr, 3, none⟩ (.bool false)).setCell ⟨gr, 4, none⟩ (.int .i64 0)).heap[gr]? = some (.cells #[.int .u32 0, .slice none 0 0, .slice none 0 0, .bool false, .int .i64 0] 25 (0, 0)) ∧
    Below w0.heap.size w0 (((((w.setCell ⟨gr, 0, none⟩ (.int .u32 0)).setCell ⟨gr, 1, none⟩ (.slice none 0 0)).setCell ⟨gr, 2, none⟩ (.slice none 0 0)).setCell ⟨gr, 3, none⟩ (.bool false)).setCell ⟨gr, 4, none⟩ (.int .i64 0)) := by
  have hs := (((((Step.refl hr).set 0 (.int .u32 0) rfl).set 1 (.slice none 0 0) rfl).set 2 (.slice none 0 0) rfl).set 3 (.bool false) rfl).set 4 (.int .i64 0) rfl
  exact ⟨hs.1, h5.trans (hs.2.2 _ hgr)⟩
theorem own_mono (a : Int) (b c : List Blk) (d : Bool) (e : Int) : LeO (dev_Own.f a b c d e) (dev_Own.f a b c d e) := LeO.refl _
def dev_Spoil.f (k : Nat) (a0_0 : Int) (l0_1 : List (S39)) (l0_2 : List (S39)) (a0_3 : Bool) (a0_4 : Int) (a1 : Int) (a2 : ByteArray) : Option (Int × (List (S39)) × (List (S39)) × Bool × Int × Int) :=
  (dev_Check.f k a0_0 l0_1 l0_2 a0_3 a0_4).bind fun y => if y = 0 then ((dev_Own.f a0_0 l0_1 l0_2 a0_3 a0_4).bind fun q => if a1 ≥ a0_0 then some (q.1, q.2.1, q.2.2.1, q.2.2.2.1, q.2.2.2.2, 1) else if (a2.size : Int) > 512 then some (q.1, q.2.1, q.2.2.1, q.2.2.2.1, q.2.2.2.2, 2) else (dev_cut.f a2).bind fun t => (putF k q.2.1 ⟨a1, t⟩).bind fun b => some (q.1, b, q.2.2.1, q.2.2.2.1, q.2.2.2.2, 0)) else some (0, ([] : List (S39)), ([] : List (S39)), false, 0, y)
theorem dev_Spoil.mono : ∀ a0 a1 a2 a3 a4 a5 a6 k, LeO (dev_Spoil.f k a0 a1 a2 a3 a4 a5 a6) (dev_Spoil.f (k + 1) a0 a1 a2 a3 a4 a5 a6) := by
  intro a0 a1 a2 a3 a4 a5 a6 k
  unfold dev_Spoil.f
  exact LeO.bind (dev_Check.mono _ _ _ _ _ _) (fun _ => LeO.ite (LeO.bind (LeO.refl _) (fun _ => LeO.ite (LeO.refl _) (LeO.ite (LeO.refl _) (LeO.bind (LeO.refl _) (fun _ => LeO.bind (putF_mono _ _ _) (fun _ => LeO.refl _)))))) (LeO.refl _))
set_option maxRecDepth 100000 in
set_option maxHeartbeats 6400000 in
theorem dev_Spoil.calls (k : Nat) (a0_0 : Int) (A0_1 : Option Addr) (c0_1 : Nat) (l0_1 : List (S39)) (A0_2 : Option Addr) (c0_2 : Nat) (l0_2 : List (S39)) (a0_3 : Bool) (a0_4 : Int) (a1 : Int) (a2 : ByteArray) (r1 : Int) (r2 : List (S39)) (r3 : List (S39)) (r4 : Bool) (r5 : Int) (r6 : Int) (w : World) (hr0_1 : Kd.C k39 w A0_1 l0_1.length l0_1) (hc0_1 : l0_1.length ≤ c0_1) (hr0_2 : Kd.C k39 w A0_2 l0_2.length l0_2) (hc0_2 : l0_2.length ≤ c0_2) (h : dev_Spoil.f k a0_0 l0_1 l0_2 a0_3 a0_4 a1 a2 = some (r1, r2, r3, r4, r5, r6)) :
    Calls Tryd.prog 26 #[.agg #[.int .u32 a0_0, .slice A0_1 l0_1.length c0_1, .slice A0_2 l0_2.length c0_2, .bool a0_3, .int .i64 a0_4], .int .u32 a1, .string a2] w fun e w' => ∃ v1_ v2_ : Value, e = .returned (.tuple #[.agg #[.int .u32 r1, v1_, v2_, .bool r4, .int .i64 r5], .int .i64 r6]) ∧ Kd.R k39 39 w' w.heap.size (fun k_ => some k_ ≠ (v2_ : Value).ownBlock) v1_ r2 ∧ Kd.R k39 39 w' w.heap.size (fun k_ => some k_ ≠ (v1_ : Value).ownBlock) v2_ r3 ∧ Below w.heap.size w w' := by
  have HR1 := Aside0.mk hr0_1
  have HR2 := Aside0.mk hr0_2
  have HC1 := Aside0.mk hc0_1
  have HC2 := Aside0.mk hc0_2
  clear hr0_1 hr0_2 hc0_1 hc0_2
  unfold dev_Spoil.f at h
  replace h := Option.bind_eq_some_iff.mp h
  obtain ⟨y, hy, h⟩ := h
  have HY := Aside0.mk hy
  clear hy
  by_cases h0 : y = 0
  · rw [if_pos h0] at h
    subst h0
    replace h := Option.bind_eq_some_iff.mp h
    obtain ⟨⟨q1, q2, q3, q4, q5⟩, hq, h⟩ := h
    have HO := Aside0.mk hq
    clear hq
    replace h : (if a1 ≥ a0_0 then some (q1, q2, q3, q4, q5, 1) else if (a2.size : Int) > 512 then some (q1, q2, q3, q4, q5, 2) else (dev_cut.f a2).bind fun t => (putF k q2 ⟨a1, t⟩).bind fun b => some (q1, b, q3, q4, q5, 0)) = some (r1, r2, r3, r4, r5, r6) := h
    by_cases h2 : a1 ≥ a0_0
    · rw [if_pos h2] at h
      simp only [Option.some.injEq, Prod.mk.injEq] at h
      obtain ⟨rfl, rfl, rfl, rfl, rfl, rfl⟩ := h
      have h2b : decide (a0_0 ≤ a1) = true := decide_eq_true h2
      go_enter Tryd.func26, Tryd.ntmps26
      go_wp2_with (first | ((with_reducible refine gate_dst (N := 3) rfl ?_); refine bx_ (N := 3) (cs := #[.int .u32 a0_0, .slice A0_1 l0_1.length c0_1, .slice A0_2 l0_2.length c0_2, .bool a0_3, .int .i64 a0_4]) (t := 25) ?_; intro gd hgd w1 hx hbx; have BD1 := Aside0.mk hx; have K1 := Aside0.mk hbx; have GD := Aside0.mk (show w.heap.size ≤ gd by omega); obtain ⟨z0, z1, z2, z3, z4⟩ := cl5_ BD1; clear hx hbx hgd) | ((with_reducible refine gate_dst (N := 6) rfl ?_); refine bx_ (N := 6) (cs := #[.int .u32 0, .slice none 0 0, .slice none 0 0, .bool false, .int .i64 0]) (t := 25) ?_; intro gr hgr w2 hx hbx; have BR2 := Aside0.mk hx; have BD2 := Aside0.mk (blk_below BD1.out hbx); have K2 := Aside0.mk (below_step K1.out hbx); have NE := Aside0.mk (show gr ≠ gd by rw [hgr]; exact fun e => Nat.lt_irrefl _ (e ▸ blk_lt BD1.out)); have GR := Aside0.mk (show w.heap.size ≤ gr by rw [hgr]; exact K1.out.size); clear z0 z1 z2 z3 z4; obtain ⟨z0, z1, z2, z3, z4⟩ := cl5_ BD2; clear hx hbx hgr K1 BD1) | (go_at_call 21; refine (dev_Check.calls k a0_0 A0_1 c0_1 l0_1 A0_2 c0_2 l0_2 a0_3 a0_4 _ _ (Kd.C_below HR1.out K2.out) HC1.out (Kd.C_below HR2.out K2.out) HC2.out HY.out).mono ?_; rintro e w3 ⟨rfl, h3⟩; have BR3 := Aside0.mk (blk_below BR2.out h3); have BD3 := Aside0.mk (blk_below BD2.out h3); have K3 := Aside0.mk (below_step K2.out h3); clear z0 z1 z2 z3 z4; obtain ⟨z0, z1, z2, z3, z4⟩ := cl5_ BD3; obtain ⟨r0, r1, r2, r3, r4⟩ := cl5_ BR3; obtain ⟨rf0, rf1, rf2, rf3, rf4⟩ := fz5_ BR3; clear h3 BR2 BD2 K2) | (go_at_call 28; refine (open_calls a0_0 A0_1 c0_1 l0_1 A0_2 c0_2 l0_2 a0_3 a0_4 q1 q2 q3 q4 q5 w _ K3.out (Kd.C_below HR1.out K3.out) HC1.out (Kd.C_below HR2.out K3.out) HC2.out HO.out).mono ?_; rintro e w4 ⟨g, a1_, b1_, a2_, b2_, rfl, hg4, h4, hd4⟩; have D4 := Aside0.mk hd4; have BR4 := Aside0.mk (blk_below BR3.out h4); have BD4 := Aside0.mk (blk_below BD3.out h4); have NG := Aside0.mk (show g ≠ gr from fun e => by have := blk_lt BR3.out; omega); have ND := Aside0.mk (show g ≠ gd from fun e => by have := blk_lt BD3.out; omega); clear z0 z1 z2 z3 z4 r0 r1 r2 r3 r4 rf0 rf1 rf2 rf3 rf4; obtain ⟨z0, z1, z2, z3, z4⟩ := cl5_ BD4; obtain ⟨r0, r1, r2, r3, r4⟩ := cl5_ BR4; obtain ⟨rf0, rf1, rf2, rf3, rf4⟩ := fz5_ BR4; have g0 : w4.cell? ⟨g, 0, none⟩ = some (.int .u32 q1) := (blk_cell D4.out.1 0).trans rfl; have g1 : w4.cell? ⟨g, 1, none⟩ = some (.slice a1_ q2.length b1_) := (blk_cell D4.out.1 1).trans rfl; have g2 : w4.cell? ⟨g, 2, none⟩ = some (.slice a2_ q3.length b2_) := (blk_cell D4.out.1 2).trans rfl; have g3 : w4.cell? ⟨g, 3, none⟩ = some (.bool q4) := (blk_cell D4.out.1 3).trans rfl; have g4 : w4.cell? ⟨g, 4, none⟩ = some (.int .i64 q5) := (blk_cell D4.out.1 4).trans rfl; clear h4 hd4 hg4 BR3 BD3 K3))
      have hs := res_dev D4.out BR4.out GR.out
      refine bodyPost_ret (results_ct rfl _ _ gr 25 #[.int .u32 q1, .slice a1_ q2.length b1_, .slice a2_ q3.length b2_, .bool q4, .int .i64 q5] (0, 0) _ rfl hs.1 Tryd.underlying25 rfl (by kernel_rfl)) rfl ?_
      exact ⟨_, _, rfl, hs.2⟩
    · rw [if_neg h2] at h
      have h2b : decide (a0_0 ≤ a1) = false := decide_eq_false h2
      replace h2 := Int.lt_of_not_ge h2
      by_cases h3 : (a2.size : Int) > 512
      · rw [if_pos h3] at h
        simp only [Option.some.injEq, Prod.mk.injEq] at h
        obtain ⟨rfl, rfl, rfl, rfl, rfl, rfl⟩ := h
        have h3b : decide (512 < (a2.size : Int)) = true := decide_eq_true h3
        go_enter Tryd.func26, Tryd.ntmps26
        go_wp2_with (first | ((with_reducible refine gate_dst (N := 3) rfl ?_); refine bx_ (N := 3) (cs := #[.int .u32 a0_0, .slice A0_1 l0_1.length c0_1, .slice A0_2 l0_2.length c0_2, .bool a0_3, .int .i64 a0_4]) (t := 25) ?_; intro gd hgd w1 hx hbx; have BD1 := Aside0.mk hx; have K1 := Aside0.mk hbx; have GD := Aside0.mk (show w.heap.size ≤ gd by omega); obtain ⟨z0, z1, z2, z3, z4⟩ := cl5_ BD1; clear hx hbx hgd) | ((with_reducible refine gate_dst (N := 6) rfl ?_); refine bx_ (N := 6) (cs := #[.int .u32 0, .slice none 0 0, .slice none 0 0, .bool false, .int .i64 0]) (t := 25) ?_; intro gr hgr w2 hx hbx; have BR2 := Aside0.mk hx; have BD2 := Aside0.mk (blk_below BD1.out hbx); have K2 := Aside0.mk (below_step K1.out hbx); have NE := Aside0.mk (show gr ≠ gd by rw [hgr]; exact fun e => Nat.lt_irrefl _ (e ▸ blk_lt BD1.out)); have GR := Aside0.mk (show w.heap.size ≤ gr by rw [hgr]; exact K1.out.size); clear z0 z1 z2 z3 z4; obtain ⟨z0, z1, z2, z3, z4⟩ := cl5_ BD2; clear hx hbx hgr K1 BD1) | (go_at_call 21; refine (dev_Check.calls k a0_0 A0_1 c0_1 l0_1 A0_2 c0_2 l0_2 a0_3 a0_4 _ _ (Kd.C_below HR1.out K2.out) HC1.out (Kd.C_below HR2.out K2.out) HC2.out HY.out).mono ?_; rintro e w3 ⟨rfl, h3⟩; have BR3 := Aside0.mk (blk_below BR2.out h3); have BD3 := Aside0.mk (blk_below BD2.out h3); have K3 := Aside0.mk (below_step K2.out h3); clear z0 z1 z2 z3 z4; obtain ⟨z0, z1, z2, z3, z4⟩ := cl5_ BD3; obtain ⟨r0, r1, r2, r3, r4⟩ := cl5_ BR3; obtain ⟨rf0, rf1, rf2, rf3, rf4⟩ := fz5_ BR3; clear h3 BR2 BD2 K2) | (go_at_call 28; refine (open_calls a0_0 A0_1 c0_1 l0_1 A0_2 c0_2 l0_2 a0_3 a0_4 q1 q2 q3 q4 q5 w _ K3.out (Kd.C_below HR1.out K3.out) HC1.out (Kd.C_below HR2.out K3.out) HC2.out HO.out).mono ?_; rintro e w4 ⟨g, a1_, b1_, a2_, b2_, rfl, hg4, h4, hd4⟩; have D4 := Aside0.mk hd4; have BR4 := Aside0.mk (blk_below BR3.out h4); have BD4 := Aside0.mk (blk_below BD3.out h4); have NG := Aside0.mk (show g ≠ gr from fun e => by have := blk_lt BR3.out; omega); have ND := Aside0.mk (show g ≠ gd from fun e => by have := blk_lt BD3.out; omega); clear z0 z1 z2 z3 z4 r0 r1 r2 r3 r4 rf0 rf1 rf2 rf3 rf4; obtain ⟨z0, z1, z2, z3, z4⟩ := cl5_ BD4; obtain ⟨r0, r1, r2, r3, r4⟩ := cl5_ BR4; obtain ⟨rf0, rf1, rf2, rf3, rf4⟩ := fz5_ BR4; have g0 : w4.cell? ⟨g, 0, none⟩ = some (.int .u32 q1) := (blk_cell D4.out.1 0).trans rfl; have g1 : w4.cell? ⟨g, 1, none⟩ = some (.slice a1_ q2.length b1_) := (blk_cell D4.out.1 1).trans rfl; have g2 : w4.cell? ⟨g, 2, none⟩ = some (.slice a2_ q3.length b2_) := (blk_cell D4.out.1 2).trans rfl; have g3 : w4.cell? ⟨g, 3, none⟩ = some (.bool q4) := (blk_cell D4.out.1 3).trans rfl; have g4 : w4.cell? ⟨g, 4, none⟩ = some (.int .i64 q5) := (blk_cell D4.out.1 4).trans rfl; clear h4 hd4 hg4 BR3 BD3 K3))
        have hs := res_dev D4.out BR4.out GR.out
        refine bodyPost_ret (results_ct rfl _ _ gr 25 #[.int .u32 q1, .slice a1_ q2.length b1_, .slice a2_ q3.length b2_, .bool q4, .int .i64 q5] (0, 0) _ rfl hs.1 Tryd.underlying25 rfl (by kernel_rfl)) rfl ?_
        exact ⟨_, _, rfl, hs.2⟩
      · rw [if_neg h3] at h
        have h3b : decide (512 < (a2.size : Int)) = false := decide_eq_false h3
        replace h3 := Int.le_of_not_gt h3
        replace h := Option.bind_eq_some_iff.mp h
        obtain ⟨t, ht, h⟩ := h
        replace h := Option.bind_eq_some_iff.mp h
        obtain ⟨b, hb, h⟩ := h
        simp only [Option.some.injEq, Prod.mk.injEq] at h
        obtain ⟨rfl, rfl, rfl, rfl, rfl, rfl⟩ := h
        have HT := Aside0.mk ht
        have HP := Aside0.mk hb
        clear ht hb
        go_enter Tryd.func26, Tryd.ntmps26
        go_wp2_with (first | ((with_reducible refine gate_dst (N := 3) rfl ?_); refine bx_ (N := 3) (cs := #[.int .u32 a0_0, .slice A0_1 l0_1.length c0_1, .slice A0_2 l0_2.length c0_2, .bool a0_3, .int .i64 a0_4]) (t := 25) ?_; intro gd hgd w1 hx hbx; have BD1 := Aside0.mk hx; have K1 := Aside0.mk hbx; have GD := Aside0.mk (show w.heap.size ≤ gd by omega); obtain ⟨z0, z1, z2, z3, z4⟩ := cl5_ BD1; clear hx hbx hgd) | ((with_reducible refine gate_dst (N := 6) rfl ?_); refine bx_ (N := 6) (cs := #[.int .u32 0, .slice none 0 0, .slice none 0 0, .bool false, .int .i64 0]) (t := 25) ?_; intro gr hgr w2 hx hbx; have BR2 := Aside0.mk hx; have BD2 := Aside0.mk (blk_below BD1.out hbx); have K2 := Aside0.mk (below_step K1.out hbx); have NE := Aside0.mk (show gr ≠ gd by rw [hgr]; exact fun e => Nat.lt_irrefl _ (e ▸ blk_lt BD1.out)); have GR := Aside0.mk (show w.heap.size ≤ gr by rw [hgr]; exact K1.out.size); clear z0 z1 z2 z3 z4; obtain ⟨z0, z1, z2, z3, z4⟩ := cl5_ BD2; clear hx hbx hgr K1 BD1) | (go_at_call 21; refine (dev_Check.calls k a0_0 A0_1 c0_1 l0_1 A0_2 c0_2 l0_2 a0_3 a0_4 _ _ (Kd.C_below HR1.out K2.out) HC1.out (Kd.C_below HR2.out K2.out) HC2.out HY.out).mono ?_; rintro e w3 ⟨rfl, h3⟩; have BR3 := Aside0.mk (blk_below BR2.out h3); have BD3 := Aside0.mk (blk_below BD2.out h3); have K3 := Aside0.mk (below_step K2.out h3); clear z0 z1 z2 z3 z4; obtain ⟨z0, z1, z2, z3, z4⟩ := cl5_ BD3; obtain ⟨r0, r1, r2, r3, r4⟩ := cl5_ BR3; obtain ⟨rf0, rf1, rf2, rf3, rf4⟩ := fz5_ BR3; clear h3 BR2 BD2 K2) | (go_at_call 28; refine (open_calls a0_0 A0_1 c0_1 l0_1 A0_2 c0_2 l0_2 a0_3 a0_4 q1 q2 q3 q4 q5 w _ K3.out (Kd.C_below HR1.out K3.out) HC1.out (Kd.C_below HR2.out K3.out) HC2.out HO.out).mono ?_; rintro e w4 ⟨g, a1_, b1_, a2_, b2_, rfl, hg4, h4, hd4⟩; have D4 := Aside0.mk hd4; have BR4 := Aside0.mk (blk_below BR3.out h4); have BD4 := Aside0.mk (blk_below BD3.out h4); have NG := Aside0.mk (show g ≠ gr from fun e => by have := blk_lt BR3.out; omega); have ND := Aside0.mk (show g ≠ gd from fun e => by have := blk_lt BD3.out; omega); clear z0 z1 z2 z3 z4 r0 r1 r2 r3 r4 rf0 rf1 rf2 rf3 rf4; obtain ⟨z0, z1, z2, z3, z4⟩ := cl5_ BD4; obtain ⟨r0, r1, r2, r3, r4⟩ := cl5_ BR4; obtain ⟨rf0, rf1, rf2, rf3, rf4⟩ := fz5_ BR4; have g0 : w4.cell? ⟨g, 0, none⟩ = some (.int .u32 q1) := (blk_cell D4.out.1 0).trans rfl; have g1 : w4.cell? ⟨g, 1, none⟩ = some (.slice a1_ q2.length b1_) := (blk_cell D4.out.1 1).trans rfl; have g2 : w4.cell? ⟨g, 2, none⟩ = some (.slice a2_ q3.length b2_) := (blk_cell D4.out.1 2).trans rfl; have g3 : w4.cell? ⟨g, 3, none⟩ = some (.bool q4) := (blk_cell D4.out.1 3).trans rfl; have g4 : w4.cell? ⟨g, 4, none⟩ = some (.int .i64 q5) := (blk_cell D4.out.1 4).trans rfl; clear h4 hd4 hg4 BR3 BD3 K3) | (go_at_call 29; refine (dev_cut.calls a2 t _ HT.out).mono ?_; rintro e w5 ⟨rfl, h5d⟩; obtain ⟨nd, hnd⟩ := h5d; have h5 : Below w4.heap.size w4 w5 := (by rw [hnd]; exact pw_below_drewN (Below.refl _ _) nd); clear hnd; have D5 := Aside0.mk (D4.out.below h5); have BR5 := Aside0.mk (blk_below BR4.out h5); have N5 := Aside0.mk h5.size; clear g0 g1 g2 g3 g4 r0 r1 r2 r3 r4 rf0 rf1 rf2 rf3 rf4 z0 z1 z2 z3 z4 h5 D4 BR4) | (go_at_call 31; refine (put_calls k g q1 _ _ q4 q5 0 q2 ⟨a1, t⟩ b w _ D5.out.2.2.2.2 D5.out.1 D5.out.2.1 (Kd.R_mono D5.out.2.2.1 (fun _ _ => trivial)) HP.out).mono ?_; rintro e w6 ⟨rfl, vn, hb6, hO6, hB6, hK6⟩; obtain ⟨an_, bn_, rfl⟩ := Kd.R_slice hO6; have D6 := Aside0.mk (D5.out.put hb6 hO6 hB6 hK6); have BR6 := Aside0.mk (blk_kept BR5.out hK6 (fun e => e.elim (fun q => NG.out q.symm) (own_ne D5.out.2.2.1 BR5.out (by decide)))); have g0 : w6.cell? ⟨g, 0, none⟩ = some (.int .u32 q1) := (blk_cell D6.out.1 0).trans rfl; have g1 : w6.cell? ⟨g, 1, none⟩ = some (.slice an_ b.length bn_) := (blk_cell D6.out.1 1).trans rfl; have g2 : w6.cell? ⟨g, 2, none⟩ = some (.slice a2_ q3.length b2_) := (blk_cell D6.out.1 2).trans rfl; have g3 : w6.cell? ⟨g, 3, none⟩ = some (.bool q4) := (blk_cell D6.out.1 3).trans rfl; have g4 : w6.cell? ⟨g, 4, none⟩ = some (.int .i64 q5) := (blk_cell D6.out.1 4).trans rfl; obtain ⟨r0, r1, r2, r3, r4⟩ := cl5_ BR6; obtain ⟨rf0, rf1, rf2, rf3, rf4⟩ := fz5_ BR6; clear hb6 hO6 hB6 hK6 D5 BR5))
        have hs := res_dev D6.out BR6.out GR.out
        refine bodyPost_ret (results_ct rfl _ _ gr 25 #[.int .u32 q1, .slice an_ b.length bn_, .slice a2_ q3.length b2_, .bool q4, .int .i64 q5] (0, 0) _ rfl hs.1 Tryd.underlying25 rfl (by kernel_rfl)) rfl ?_
        exact ⟨_, _, rfl, hs.2⟩
  · rw [if_neg h0] at h
    cases h
    have h0b : (r6 == 0) = false := beq_eq_false_iff_ne.mpr h0
    have h0c : (r6 != 0) = true := bne_iff_ne.mpr h0
    go_enter Tryd.func26, Tryd.ntmps26
    go_wp2_with (first | ((with_reducible refine gate_dst (N := 3) rfl ?_); refine bx_ (N := 3) (cs := #[.int .u32 a0_0, .slice A0_1 l0_1.length c0_1, .slice A0_2 l0_2.length c0_2, .bool a0_3, .int .i64 a0_4]) (t := 25) ?_; intro gd hgd w1 hx hbx; have BD1 := Aside0.mk hx; have K1 := Aside0.mk hbx; have GD := Aside0.mk (show w.heap.size ≤ gd by omega); obtain ⟨z0, z1, z2, z3, z4⟩ := cl5_ BD1; clear hx hbx hgd) | ((with_reducible refine gate_dst (N := 6) rfl ?_); refine bx_ (N := 6) (cs := #[.int .u32 0, .slice none 0 0, .slice none 0 0, .bool false, .int .i64 0]) (t := 25) ?_; intro gr hgr w2 hx hbx; have BR2 := Aside0.mk hx; have BD2 := Aside0.mk (blk_below BD1.out hbx); have K2 := Aside0.mk (below_step K1.out hbx); have NE := Aside0.mk (show gr ≠ gd by rw [hgr]; exact fun e => Nat.lt_irrefl _ (e ▸ blk_lt BD1.out)); have GR := Aside0.mk (show w.heap.size ≤ gr by rw [hgr]; exact K1.out.size); clear z0 z1 z2 z3 z4; obtain ⟨z0, z1, z2, z3, z4⟩ := cl5_ BD2; clear hx hbx hgr K1 BD1) | (go_at_call 21; refine (dev_Check.calls k a0_0 A0_1 c0_1 l0_1 A0_2 c0_2 l0_2 a0_3 a0_4 _ _ (Kd.C_below HR1.out K2.out) HC1.out (Kd.C_below HR2.out K2.out) HC2.out HY.out).mono ?_; rintro e w3 ⟨rfl, h3⟩; have BR3 := Aside0.mk (blk_below BR2.out h3); have BD3 := Aside0.mk (blk_below BD2.out h3); have K3 := Aside0.mk (below_step K2.out h3); clear z0 z1 z2 z3 z4; obtain ⟨z0, z1, z2, z3, z4⟩ := cl5_ BD3; obtain ⟨r0, r1, r2, r3, r4⟩ := cl5_ BR3; obtain ⟨rf0, rf1, rf2, rf3, rf4⟩ := fz5_ BR3; clear h3 BR2 BD2 K2))
    have hs := res_zero K3.out BR3.out GR.out
    refine bodyPost_ret (results_ct rfl _ _ gr 25 #[.int .u32 0, .slice none 0 0, .slice none 0 0, .bool false, .int .i64 0] (0, 0) _ rfl hs.1 Tryd.underlying25 rfl (by kernel_rfl)) rfl ?_
    exact ⟨_, _, rfl, Kd.R_nil _ _ _ _ _, Kd.R_nil _ _ _ _ _, hs.2⟩
theorem Drv.drew {w0 w : World} {g : Nat} {s : Int} {vB vW : Value} {bl wl : List Blk} {d : Bool} {f n : Int} (h : Drv w0 w g s vB vW bl wl d f n) : Drv w0 w.drew g s vB vW bl wl d f n :=
  ⟨blk_drew h.1, h.2.1, Kd.R_drew h.2.2.1, Kd.R_drew h.2.2.2.1, below_drew1 h.2.2.2.2⟩
theorem burn_at (x : Bool) {g : Nat} {s : Int} {vB vW : Value} {d : Bool} {f n : Int} {w : World} (hb : w.heap[g]? = some (drv s vB vW d f n)) (hx : downOf d f = x) :
    Calls Tryd.prog 30 #[.pointer (some ⟨g, 0, none⟩)] w fun e w' => e = .returned (.bool (!x)) ∧ Step g w w' (drv s vB vW x (fuseOf f) n) := hx ▸ burn_calls g s vB vW d f n w hb
/-- A write more waits. -/
theorem Drv.wait {w0 w w1 : World} {g : Nat} {s : Int} {vB vW v : Value} {bl wl wl' : List Blk} {d : Bool} {f n : Int} (h : Drv w0 w g s vB vW bl wl d f n) (hg : w.grownBy w1 vW.ownBlock) (hat : v.ownBlock = vW.ownBlock ∨ ∃ b, v.ownBlock = some b ∧ w.heap.size ≤ b)
    (hB : Below w0.heap.size w0 w1) (hO : Own w1 w0.heap.size (fun k => some k ≠ vB.ownBlock) v wl') : Drv w0 (w1.setCell ⟨g, 2, none⟩ v) g s vB v bl wl' d f n := by
  obtain ⟨h1, h2, h3, h4, h5⟩ := h
  have B1 := blk_grown h1 hg (own_ne h4 h1 (by decide))
  have R1 : Own w1 w0.heap.size (fun k => some k ≠ v.ownBlock) vB bl := Kd.R_mono (Kd.R_after (ok := fun _ => True) (Kd.R_mono h3 (fun _ hk => ⟨trivial, hk⟩)) hg hat) (fun _ hk => hk.2)
  exact ⟨blk_set B1 2 v, h2, Kd.R_mono (Kd.R_far (p := ⟨g, 2, none⟩) (Kd.R_types R1 B1 (by decide)) (fun _ hk => hk.2) v) (fun _ hk => hk.1), Kd.R_mono (Kd.R_far (p := ⟨g, 2, none⟩) (Kd.R_types hO B1 (by decide)) (fun _ hk => hk.2) v) (fun _ hk => hk.1), hB.setCell (p := ⟨g, 2, none⟩) h2 v⟩
def dev_Write.f (k : Nat) (a0_0 : Int) (l0_1 : List (S39)) (l0_2 : List (S39)) (a0_3 : Bool) (a0_4 : Int) (a1 : Int) (a2 : ByteArray) : Option (Int × (List (S39)) × (List (S39)) × Bool × Int × Int) :=
  (dev_Check.f k a0_0 l0_1 l0_2 a0_3 a0_4).bind fun y => if y = 0 then ((dev_Own.f a0_0 l0_1 l0_2 a0_3 a0_4).bind fun q => if a0_3 = true then some (q.1, q.2.1, q.2.2.1, q.2.2.2.1, q.2.2.2.2, 17) else if a1 ≥ a0_0 then some (q.1, q.2.1, q.2.2.1, q.2.2.2.1, q.2.2.2.2, 1) else if (a2.size : Int) > 512 then some (q.1, q.2.1, q.2.2.1, q.2.2.2.1, q.2.2.2.2, 2) else if (l0_2.length : Int) ≥ 16384 then some (q.1, q.2.1, q.2.2.1, q.2.2.2.1, q.2.2.2.2, 8) else (dev_cut.f a2).bind fun t => if q.2.2.1.length < 5864062014805 then some (q.1, q.2.1, q.2.2.1 ++ [⟨a1, t⟩], downOf q.2.2.2.1 q.2.2.2.2, fuseOf q.2.2.2.2, if downOf q.2.2.2.1 q.2.2.2.2 = true then 17 else 0) else none) else some (0, ([] : List (S39)), ([] : List (S39)), false, 0, y)
theorem dev_Write.mono : ∀ a0 a1 a2 a3 a4 a5 a6 k, LeO (dev_Write.f k a0 a1 a2 a3 a4 a5 a6) (dev_Write.f (k + 1) a0 a1 a2 a3 a4 a5 a6) := by
  intro a0 a1 a2 a3 a4 a5 a6 k
  unfold dev_Write.f
  exact LeO.bind (dev_Check.mono _ _ _ _ _ _) (fun _ => LeO.refl _)
set_option maxRecDepth 100000 in
set_option maxHeartbeats 6400000 in
theorem dev_Write.calls (k : Nat) (a0_0 : Int) (A0_1 : Option Addr) (c0_1 : Nat) (l0_1 : List (S39)) (A0_2 : Option Addr) (c0_2 : Nat) (l0_2 : List (S39)) (a0_3 : Bool) (a0_4 : Int) (a1 : Int) (a2 : ByteArray) (r1 : Int) (r2 : List (S39)) (r3 : List (S39)) (r4 : Bool) (r5 : Int) (r6 : Int) (w : World) (hr0_1 : Kd.C k39 w A0_1 l0_1.length l0_1) (hc0_1 : l0_1.length ≤ c0_1) (hr0_2 : Kd.C k39 w A0_2 l0_2.length l0_2) (hc0_2 : l0_2.length ≤ c0_2) (h : dev_Write.f k a0_0 l0_1 l0_2 a0_3 a0_4 a1 a2 = some (r1, r2, r3, r4, r5, r6)) :
    Calls Tryd.prog 13 #[.agg #[.int .u32 a0_0, .slice A0_1 l0_1.length c0_1, .slice A0_2 l0_2.length c0_2, .bool a0_3, .int .i64 a0_4], .int .u32 a1, .string a2] w fun e w' => ∃ v1_ v2_ : Value, e = .returned (.tuple #[.agg #[.int .u32 r1, v1_, v2_, .bool r4, .int .i64 r5], .int .i64 r6]) ∧ Kd.R k39 39 w' w.heap.size (fun k_ => some k_ ≠ (v2_ : Value).ownBlock) v1_ r2 ∧ Kd.R k39 39 w' w.heap.size (fun k_ => some k_ ≠ (v1_ : Value).ownBlock) v2_ r3 ∧ Below w.heap.size w w' := by
  have HR1 := Aside0.mk hr0_1
  have HR2 := Aside0.mk hr0_2
  have HC1 := Aside0.mk hc0_1
  have HC2 := Aside0.mk hc0_2
  clear hr0_1 hr0_2 hc0_1 hc0_2
  unfold dev_Write.f at h
  replace h := Option.bind_eq_some_iff.mp h
  obtain ⟨y, hy, h⟩ := h
  have HY := Aside0.mk hy
  clear hy
  by_cases h0 : y = 0
  · rw [if_pos h0] at h
    subst h0
    replace h := Option.bind_eq_some_iff.mp h
    obtain ⟨⟨q1, q2, q3, q4, q5⟩, hq, h⟩ := h
    have HO := Aside0.mk hq
    clear hq
    replace h : (if a0_3 = true then some (q1, q2, q3, q4, q5, 17) else if a1 ≥ a0_0 then some (q1, q2, q3, q4, q5, 1) else if (a2.size : Int) > 512 then some (q1, q2, q3, q4, q5, 2) else if (l0_2.length : Int) ≥ 16384 then some (q1, q2, q3, q4, q5, 8) else (dev_cut.f a2).bind fun t => if q3.length < 5864062014805 then some (q1, q2, q3 ++ [⟨a1, t⟩], downOf q4 q5, fuseOf q5, if downOf q4 q5 = true then 17 else 0) else none) = some (r1, r2, r3, r4, r5, r6) := h
    by_cases h1 : a0_3 = true
    · rw [if_pos h1] at h
      subst h1
      simp only [Option.some.injEq, Prod.mk.injEq] at h
      obtain ⟨rfl, rfl, rfl, rfl, rfl, rfl⟩ := h
      go_enter Tryd.func13, Tryd.ntmps13
      go_wp2_with (first | ((with_reducible refine gate_dst (N := 3) rfl ?_); refine bx_ (N := 3) (cs := #[.int .u32 a0_0, .slice A0_1 l0_1.length c0_1, .slice A0_2 l0_2.length c0_2, .bool true, .int .i64 a0_4]) (t := 25) ?_; intro gd hgd w1 hx hbx; have BD1 := Aside0.mk hx; have K1 := Aside0.mk hbx; have GD := Aside0.mk (show w.heap.size ≤ gd by omega); obtain ⟨z0, z1, z2, z3, z4⟩ := cl5_ BD1; clear hx hbx hgd) | ((with_reducible refine gate_dst (N := 6) rfl ?_); refine bx_ (N := 6) (cs := #[.int .u32 0, .slice none 0 0, .slice none 0 0, .bool false, .int .i64 0]) (t := 25) ?_; intro gr hgr w2 hx hbx; have BR2 := Aside0.mk hx; have BD2 := Aside0.mk (blk_below BD1.out hbx); have K2 := Aside0.mk (below_step K1.out hbx); have NE := Aside0.mk (show gr ≠ gd by rw [hgr]; exact fun e => Nat.lt_irrefl _ (e ▸ blk_lt BD1.out)); have GR := Aside0.mk (show w.heap.size ≤ gr by rw [hgr]; exact K1.out.size); clear z0 z1 z2 z3 z4; obtain ⟨z0, z1, z2, z3, z4⟩ := cl5_ BD2; clear hx hbx hgr K1 BD1) | (go_at_call 21; refine (dev_Check.calls k a0_0 A0_1 c0_1 l0_1 A0_2 c0_2 l0_2 true a0_4 _ _ (Kd.C_below HR1.out K2.out) HC1.out (Kd.C_below HR2.out K2.out) HC2.out HY.out).mono ?_; rintro e w3 ⟨rfl, h3⟩; have BR3 := Aside0.mk (blk_below BR2.out h3); have BD3 := Aside0.mk (blk_below BD2.out h3); have K3 := Aside0.mk (below_step K2.out h3); clear z0 z1 z2 z3 z4; obtain ⟨z0, z1, z2, z3, z4⟩ := cl5_ BD3; obtain ⟨r0, r1, r2, r3, r4⟩ := cl5_ BR3; obtain ⟨rf0, rf1, rf2, rf3, rf4⟩ := fz5_ BR3; clear h3 BR2 BD2 K2) | (go_at_call 28; refine (open_calls a0_0 A0_1 c0_1 l0_1 A0_2 c0_2 l0_2 true a0_4 q1 q2 q3 q4 q5 w _ K3.out (Kd.C_below HR1.out K3.out) HC1.out (Kd.C_below HR2.out K3.out) HC2.out HO.out).mono ?_; rintro e w4 ⟨g, a1_, b1_, a2_, b2_, rfl, hg4, h4, hd4⟩; have D4 := Aside0.mk hd4; have BR4 := Aside0.mk (blk_below BR3.out h4); have BD4 := Aside0.mk (blk_below BD3.out h4); have NG := Aside0.mk (show g ≠ gr from fun e => by have := blk_lt BR3.out; omega); have ND := Aside0.mk (show g ≠ gd from fun e => by have := blk_lt BD3.out; omega); clear z0 z1 z2 z3 z4 r0 r1 r2 r3 r4 rf0 rf1 rf2 rf3 rf4; obtain ⟨z0, z1, z2, z3, z4⟩ := cl5_ BD4; obtain ⟨r0, r1, r2, r3, r4⟩ := cl5_ BR4; obtain ⟨rf0, rf1, rf2, rf3, rf4⟩ := fz5_ BR4; have g0 : w4.cell? ⟨g, 0, none⟩ = some (.int .u32 q1) := (blk_cell D4.out.1 0).trans rfl; have g1 : w4.cell? ⟨g, 1, none⟩ = some (.slice a1_ q2.length b1_) := (blk_cell D4.out.1 1).trans rfl; have g2 : w4.cell? ⟨g, 2, none⟩ = some (.slice a2_ q3.length b2_) := (blk_cell D4.out.1 2).trans rfl; have g3 : w4.cell? ⟨g, 3, none⟩ = some (.bool q4) := (blk_cell D4.out.1 3).trans rfl; have g4 : w4.cell? ⟨g, 4, none⟩ = some (.int .i64 q5) := (blk_cell D4.out.1 4).trans rfl; clear h4 hd4 hg4 BR3 BD3 K3))
      have hs := res_dev D4.out BR4.out GR.out
      refine bodyPost_ret (results_ct rfl _ _ gr 25 #[.int .u32 q1, .slice a1_ q2.length b1_, .slice a2_ q3.length b2_, .bool q4, .int .i64 q5] (0, 0) _ rfl hs.1 Tryd.underlying25 rfl (by kernel_rfl)) rfl ?_
      exact ⟨_, _, rfl, hs.2⟩
    · rw [if_neg h1] at h
      replace h1 := Bool.eq_false_iff.mpr h1
      subst h1
      by_cases h2 : a1 ≥ a0_0
      · rw [if_pos h2] at h
        simp only [Option.some.injEq, Prod.mk.injEq] at h
        obtain ⟨rfl, rfl, rfl, rfl, rfl, rfl⟩ := h
        have h2b : decide (a0_0 ≤ a1) = true := decide_eq_true h2
        go_enter Tryd.func13, Tryd.ntmps13
        go_wp2_with (first | ((with_reducible refine gate_dst (N := 3) rfl ?_); refine bx_ (N := 3) (cs := #[.int .u32 a0_0, .slice A0_1 l0_1.length c0_1, .slice A0_2 l0_2.length c0_2, .bool false, .int .i64 a0_4]) (t := 25) ?_; intro gd hgd w1 hx hbx; have BD1 := Aside0.mk hx; have K1 := Aside0.mk hbx; have GD := Aside0.mk (show w.heap.size ≤ gd by omega); obtain ⟨z0, z1, z2, z3, z4⟩ := cl5_ BD1; clear hx hbx hgd) | ((with_reducible refine gate_dst (N := 6) rfl ?_); refine bx_ (N := 6) (cs := #[.int .u32 0, .slice none 0 0, .slice none 0 0, .bool false, .int .i64 0]) (t := 25) ?_; intro gr hgr w2 hx hbx; have BR2 := Aside0.mk hx; have BD2 := Aside0.mk (blk_below BD1.out hbx); have K2 := Aside0.mk (below_step K1.out hbx); have NE := Aside0.mk (show gr ≠ gd by rw [hgr]; exact fun e => Nat.lt_irrefl _ (e ▸ blk_lt BD1.out)); have GR := Aside0.mk (show w.heap.size ≤ gr by rw [hgr]; exact K1.out.size); clear z0 z1 z2 z3 z4; obtain ⟨z0, z1, z2, z3, z4⟩ := cl5_ BD2; clear hx hbx hgr K1 BD1) | (go_at_call 21; refine (dev_Check.calls k a0_0 A0_1 c0_1 l0_1 A0_2 c0_2 l0_2 false a0_4 _ _ (Kd.C_below HR1.out K2.out) HC1.out (Kd.C_below HR2.out K2.out) HC2.out HY.out).mono ?_; rintro e w3 ⟨rfl, h3⟩; have BR3 := Aside0.mk (blk_below BR2.out h3); have BD3 := Aside0.mk (blk_below BD2.out h3); have K3 := Aside0.mk (below_step K2.out h3); clear z0 z1 z2 z3 z4; obtain ⟨z0, z1, z2, z3, z4⟩ := cl5_ BD3; obtain ⟨r0, r1, r2, r3, r4⟩ := cl5_ BR3; obtain ⟨rf0, rf1, rf2, rf3, rf4⟩ := fz5_ BR3; clear h3 BR2 BD2 K2) | (go_at_call 28; refine (open_calls a0_0 A0_1 c0_1 l0_1 A0_2 c0_2 l0_2 false a0_4 q1 q2 q3 q4 q5 w _ K3.out (Kd.C_below HR1.out K3.out) HC1.out (Kd.C_below HR2.out K3.out) HC2.out HO.out).mono ?_; rintro e w4 ⟨g, a1_, b1_, a2_, b2_, rfl, hg4, h4, hd4⟩; have D4 := Aside0.mk hd4; have BR4 := Aside0.mk (blk_below BR3.out h4); have BD4 := Aside0.mk (blk_below BD3.out h4); have NG := Aside0.mk (show g ≠ gr from fun e => by have := blk_lt BR3.out; omega); have ND := Aside0.mk (show g ≠ gd from fun e => by have := blk_lt BD3.out; omega); clear z0 z1 z2 z3 z4 r0 r1 r2 r3 r4 rf0 rf1 rf2 rf3 rf4; obtain ⟨z0, z1, z2, z3, z4⟩ := cl5_ BD4; obtain ⟨r0, r1, r2, r3, r4⟩ := cl5_ BR4; obtain ⟨rf0, rf1, rf2, rf3, rf4⟩ := fz5_ BR4; have g0 : w4.cell? ⟨g, 0, none⟩ = some (.int .u32 q1) := (blk_cell D4.out.1 0).trans rfl; have g1 : w4.cell? ⟨g, 1, none⟩ = some (.slice a1_ q2.length b1_) := (blk_cell D4.out.1 1).trans rfl; have g2 : w4.cell? ⟨g, 2, none⟩ = some (.slice a2_ q3.length b2_) := (blk_cell D4.out.1 2).trans rfl; have g3 : w4.cell? ⟨g, 3, none⟩ = some (.bool q4) := (blk_cell D4.out.1 3).trans rfl; have g4 : w4.cell? ⟨g, 4, none⟩ = some (.int .i64 q5) := (blk_cell D4.out.1 4).trans rfl; clear h4 hd4 hg4 BR3 BD3 K3))
        have hs := res_dev D4.out BR4.out GR.out
        refine bodyPost_ret (results_ct rfl _ _ gr 25 #[.int .u32 q1, .slice a1_ q2.length b1_, .slice a2_ q3.length b2_, .bool q4, .int .i64 q5] (0, 0) _ rfl hs.1 Tryd.underlying25 rfl (by kernel_rfl)) rfl ?_
        exact ⟨_, _, rfl, hs.2⟩
      · rw [if_neg h2] at h
        have h2b : decide (a0_0 ≤ a1) = false := decide_eq_false h2
        replace h2 := Int.lt_of_not_ge h2
        by_cases h3 : (a2.size : Int) > 512
        · rw [if_pos h3] at h
          simp only [Option.some.injEq, Prod.mk.injEq] at h
          obtain ⟨rfl, rfl, rfl, rfl, rfl, rfl⟩ := h
          have h3b : decide (512 < (a2.size : Int)) = true := decide_eq_true h3
          go_enter Tryd.func13, Tryd.ntmps13
          go_wp2_with (first | ((with_reducible refine gate_dst (N := 3) rfl ?_); refine bx_ (N := 3) (cs := #[.int .u32 a0_0, .slice A0_1 l0_1.length c0_1, .slice A0_2 l0_2.length c0_2, .bool false, .int .i64 a0_4]) (t := 25) ?_; intro gd hgd w1 hx hbx; have BD1 := Aside0.mk hx; have K1 := Aside0.mk hbx; have GD := Aside0.mk (show w.heap.size ≤ gd by omega); obtain ⟨z0, z1, z2, z3, z4⟩ := cl5_ BD1; clear hx hbx hgd) | ((with_reducible refine gate_dst (N := 6) rfl ?_); refine bx_ (N := 6) (cs := #[.int .u32 0, .slice none 0 0, .slice none 0 0, .bool false, .int .i64 0]) (t := 25) ?_; intro gr hgr w2 hx hbx; have BR2 := Aside0.mk hx; have BD2 := Aside0.mk (blk_below BD1.out hbx); have K2 := Aside0.mk (below_step K1.out hbx); have NE := Aside0.mk (show gr ≠ gd by rw [hgr]; exact fun e => Nat.lt_irrefl _ (e ▸ blk_lt BD1.out)); have GR := Aside0.mk (show w.heap.size ≤ gr by rw [hgr]; exact K1.out.size); clear z0 z1 z2 z3 z4; obtain ⟨z0, z1, z2, z3, z4⟩ := cl5_ BD2; clear hx hbx hgr K1 BD1) | (go_at_call 21; refine (dev_Check.calls k a0_0 A0_1 c0_1 l0_1 A0_2 c0_2 l0_2 false a0_4 _ _ (Kd.C_below HR1.out K2.out) HC1.out (Kd.C_below HR2.out K2.out) HC2.out HY.out).mono ?_; rintro e w3 ⟨rfl, h3⟩; have BR3 := Aside0.mk (blk_below BR2.out h3); have BD3 := Aside0.mk (blk_below BD2.out h3); have K3 := Aside0.mk (below_step K2.out h3); clear z0 z1 z2 z3 z4; obtain ⟨z0, z1, z2, z3, z4⟩ := cl5_ BD3; obtain ⟨r0, r1, r2, r3, r4⟩ := cl5_ BR3; obtain ⟨rf0, rf1, rf2, rf3, rf4⟩ := fz5_ BR3; clear h3 BR2 BD2 K2) | (go_at_call 28; refine (open_calls a0_0 A0_1 c0_1 l0_1 A0_2 c0_2 l0_2 false a0_4 q1 q2 q3 q4 q5 w _ K3.out (Kd.C_below HR1.out K3.out) HC1.out (Kd.C_below HR2.out K3.out) HC2.out HO.out).mono ?_; rintro e w4 ⟨g, a1_, b1_, a2_, b2_, rfl, hg4, h4, hd4⟩; have D4 := Aside0.mk hd4; have BR4 := Aside0.mk (blk_below BR3.out h4); have BD4 := Aside0.mk (blk_below BD3.out h4); have NG := Aside0.mk (show g ≠ gr from fun e => by have := blk_lt BR3.out; omega); have ND := Aside0.mk (show g ≠ gd from fun e => by have := blk_lt BD3.out; omega); clear z0 z1 z2 z3 z4 r0 r1 r2 r3 r4 rf0 rf1 rf2 rf3 rf4; obtain ⟨z0, z1, z2, z3, z4⟩ := cl5_ BD4; obtain ⟨r0, r1, r2, r3, r4⟩ := cl5_ BR4; obtain ⟨rf0, rf1, rf2, rf3, rf4⟩ := fz5_ BR4; have g0 : w4.cell? ⟨g, 0, none⟩ = some (.int .u32 q1) := (blk_cell D4.out.1 0).trans rfl; have g1 : w4.cell? ⟨g, 1, none⟩ = some (.slice a1_ q2.length b1_) := (blk_cell D4.out.1 1).trans rfl; have g2 : w4.cell? ⟨g, 2, none⟩ = some (.slice a2_ q3.length b2_) := (blk_cell D4.out.1 2).trans rfl; have g3 : w4.cell? ⟨g, 3, none⟩ = some (.bool q4) := (blk_cell D4.out.1 3).trans rfl; have g4 : w4.cell? ⟨g, 4, none⟩ = some (.int .i64 q5) := (blk_cell D4.out.1 4).trans rfl; clear h4 hd4 hg4 BR3 BD3 K3))
          have hs := res_dev D4.out BR4.out GR.out
          refine bodyPost_ret (results_ct rfl _ _ gr 25 #[.int .u32 q1, .slice a1_ q2.length b1_, .slice a2_ q3.length b2_, .bool q4, .int .i64 q5] (0, 0) _ rfl hs.1 Tryd.underlying25 rfl (by kernel_rfl)) rfl ?_
          exact ⟨_, _, rfl, hs.2⟩
        · rw [if_neg h3] at h
          have h3b : decide (512 < (a2.size : Int)) = false := decide_eq_false h3
          replace h3 := Int.le_of_not_gt h3
          by_cases h4 : (l0_2.length : Int) ≥ 16384
          · rw [if_pos h4] at h
            simp only [Option.some.injEq, Prod.mk.injEq] at h
            obtain ⟨rfl, rfl, rfl, rfl, rfl, rfl⟩ := h
            have h4b : decide (16384 ≤ (l0_2.length : Int)) = true := decide_eq_true h4
            go_enter Tryd.func13, Tryd.ntmps13
            go_wp2_with (first | ((with_reducible refine gate_dst (N := 3) rfl ?_); refine bx_ (N := 3) (cs := #[.int .u32 a0_0, .slice A0_1 l0_1.length c0_1, .slice A0_2 l0_2.length c0_2, .bool false, .int .i64 a0_4]) (t := 25) ?_; intro gd hgd w1 hx hbx; have BD1 := Aside0.mk hx; have K1 := Aside0.mk hbx; have GD := Aside0.mk (show w.heap.size ≤ gd by omega); obtain ⟨z0, z1, z2, z3, z4⟩ := cl5_ BD1; clear hx hbx hgd) | ((with_reducible refine gate_dst (N := 6) rfl ?_); refine bx_ (N := 6) (cs := #[.int .u32 0, .slice none 0 0, .slice none 0 0, .bool false, .int .i64 0]) (t := 25) ?_; intro gr hgr w2 hx hbx; have BR2 := Aside0.mk hx; have BD2 := Aside0.mk (blk_below BD1.out hbx); have K2 := Aside0.mk (below_step K1.out hbx); have NE := Aside0.mk (show gr ≠ gd by rw [hgr]; exact fun e => Nat.lt_irrefl _ (e ▸ blk_lt BD1.out)); have GR := Aside0.mk (show w.heap.size ≤ gr by rw [hgr]; exact K1.out.size); clear z0 z1 z2 z3 z4; obtain ⟨z0, z1, z2, z3, z4⟩ := cl5_ BD2; clear hx hbx hgr K1 BD1) | (go_at_call 21; refine (dev_Check.calls k a0_0 A0_1 c0_1 l0_1 A0_2 c0_2 l0_2 false a0_4 _ _ (Kd.C_below HR1.out K2.out) HC1.out (Kd.C_below HR2.out K2.out) HC2.out HY.out).mono ?_; rintro e w3 ⟨rfl, h3⟩; have BR3 := Aside0.mk (blk_below BR2.out h3); have BD3 := Aside0.mk (blk_below BD2.out h3); have K3 := Aside0.mk (below_step K2.out h3); clear z0 z1 z2 z3 z4; obtain ⟨z0, z1, z2, z3, z4⟩ := cl5_ BD3; obtain ⟨r0, r1, r2, r3, r4⟩ := cl5_ BR3; obtain ⟨rf0, rf1, rf2, rf3, rf4⟩ := fz5_ BR3; clear h3 BR2 BD2 K2) | (go_at_call 28; refine (open_calls a0_0 A0_1 c0_1 l0_1 A0_2 c0_2 l0_2 false a0_4 q1 q2 q3 q4 q5 w _ K3.out (Kd.C_below HR1.out K3.out) HC1.out (Kd.C_below HR2.out K3.out) HC2.out HO.out).mono ?_; rintro e w4 ⟨g, a1_, b1_, a2_, b2_, rfl, hg4, h4, hd4⟩; have D4 := Aside0.mk hd4; have BR4 := Aside0.mk (blk_below BR3.out h4); have BD4 := Aside0.mk (blk_below BD3.out h4); have NG := Aside0.mk (show g ≠ gr from fun e => by have := blk_lt BR3.out; omega); have ND := Aside0.mk (show g ≠ gd from fun e => by have := blk_lt BD3.out; omega); clear z0 z1 z2 z3 z4 r0 r1 r2 r3 r4 rf0 rf1 rf2 rf3 rf4; obtain ⟨z0, z1, z2, z3, z4⟩ := cl5_ BD4; obtain ⟨r0, r1, r2, r3, r4⟩ := cl5_ BR4; obtain ⟨rf0, rf1, rf2, rf3, rf4⟩ := fz5_ BR4; have g0 : w4.cell? ⟨g, 0, none⟩ = some (.int .u32 q1) := (blk_cell D4.out.1 0).trans rfl; have g1 : w4.cell? ⟨g, 1, none⟩ = some (.slice a1_ q2.length b1_) := (blk_cell D4.out.1 1).trans rfl; have g2 : w4.cell? ⟨g, 2, none⟩ = some (.slice a2_ q3.length b2_) := (blk_cell D4.out.1 2).trans rfl; have g3 : w4.cell? ⟨g, 3, none⟩ = some (.bool q4) := (blk_cell D4.out.1 3).trans rfl; have g4 : w4.cell? ⟨g, 4, none⟩ = some (.int .i64 q5) := (blk_cell D4.out.1 4).trans rfl; clear h4 hd4 hg4 BR3 BD3 K3))
            have hs := res_dev D4.out BR4.out GR.out
            refine bodyPost_ret (results_ct rfl _ _ gr 25 #[.int .u32 q1, .slice a1_ q2.length b1_, .slice a2_ q3.length b2_, .bool q4, .int .i64 q5] (0, 0) _ rfl hs.1 Tryd.underlying25 rfl (by kernel_rfl)) rfl ?_
            exact ⟨_, _, rfl, hs.2⟩
          · rw [if_neg h4] at h
            have h4b : decide (16384 ≤ (l0_2.length : Int)) = false := decide_eq_false h4
            replace h4 := Int.lt_of_not_ge h4
            replace h := Option.bind_eq_some_iff.mp h
            obtain ⟨t, ht, h⟩ := h
            have HT := Aside0.mk ht
            clear ht
            split at h
            case isFalse => cases h
            case isTrue h5 =>
            simp only [Option.some.injEq, Prod.mk.injEq] at h
            obtain ⟨rfl, rfl, rfl, rfl, rfl, rfl⟩ := h
            have H5 := Aside0.mk h5
            clear h5
            obtain ⟨wn, hwn⟩ : ∃ wn, q3 ++ [(⟨a1, t⟩ : S39)] = wn := ⟨_, rfl⟩
            rw [hwn]
            have HW := Aside0.mk hwn
            clear hwn
            cases hdn : downOf q4 q5 with
            | true =>
              go_enter Tryd.func13, Tryd.ntmps13
              go_wp2_with (first | ((with_reducible refine gate_dst (N := 3) rfl ?_); refine bx_ (N := 3) (cs := #[.int .u32 a0_0, .slice A0_1 l0_1.length c0_1, .slice A0_2 l0_2.length c0_2, .bool false, .int .i64 a0_4]) (t := 25) ?_; intro gd hgd w1 hx hbx; have BD1 := Aside0.mk hx; have K1 := Aside0.mk hbx; have GD := Aside0.mk (show w.heap.size ≤ gd by omega); obtain ⟨z0, z1, z2, z3, z4⟩ := cl5_ BD1; clear hx hbx hgd) | ((with_reducible refine gate_dst (N := 6) rfl ?_); refine bx_ (N := 6) (cs := #[.int .u32 0, .slice none 0 0, .slice none 0 0, .bool false, .int .i64 0]) (t := 25) ?_; intro gr hgr w2 hx hbx; have BR2 := Aside0.mk hx; have BD2 := Aside0.mk (blk_below BD1.out hbx); have K2 := Aside0.mk (below_step K1.out hbx); have NE := Aside0.mk (show gr ≠ gd by rw [hgr]; exact fun e => Nat.lt_irrefl _ (e ▸ blk_lt BD1.out)); have GR := Aside0.mk (show w.heap.size ≤ gr by rw [hgr]; exact K1.out.size); clear z0 z1 z2 z3 z4; obtain ⟨z0, z1, z2, z3, z4⟩ := cl5_ BD2; clear hx hbx hgr K1 BD1) | (go_at_call 21; refine (dev_Check.calls k a0_0 A0_1 c0_1 l0_1 A0_2 c0_2 l0_2 false a0_4 _ _ (Kd.C_below HR1.out K2.out) HC1.out (Kd.C_below HR2.out K2.out) HC2.out HY.out).mono ?_; rintro e w3 ⟨rfl, h3⟩; have BR3 := Aside0.mk (blk_below BR2.out h3); have BD3 := Aside0.mk (blk_below BD2.out h3); have K3 := Aside0.mk (below_step K2.out h3); clear z0 z1 z2 z3 z4; obtain ⟨z0, z1, z2, z3, z4⟩ := cl5_ BD3; obtain ⟨r0, r1, r2, r3, r4⟩ := cl5_ BR3; obtain ⟨rf0, rf1, rf2, rf3, rf4⟩ := fz5_ BR3; clear h3 BR2 BD2 K2) | (go_at_call 28; refine (open_calls a0_0 A0_1 c0_1 l0_1 A0_2 c0_2 l0_2 false a0_4 q1 q2 q3 q4 q5 w _ K3.out (Kd.C_below HR1.out K3.out) HC1.out (Kd.C_below HR2.out K3.out) HC2.out HO.out).mono ?_; rintro e w4 ⟨g, a1_, b1_, a2_, b2_, rfl, hg4, h4, hd4⟩; have D4 := Aside0.mk hd4; have BR4 := Aside0.mk (blk_below BR3.out h4); have BD4 := Aside0.mk (blk_below BD3.out h4); have NG := Aside0.mk (show g ≠ gr from fun e => by have := blk_lt BR3.out; omega); have ND := Aside0.mk (show g ≠ gd from fun e => by have := blk_lt BD3.out; omega); clear z0 z1 z2 z3 z4 r0 r1 r2 r3 r4 rf0 rf1 rf2 rf3 rf4; obtain ⟨z0, z1, z2, z3, z4⟩ := cl5_ BD4; obtain ⟨r0, r1, r2, r3, r4⟩ := cl5_ BR4; obtain ⟨rf0, rf1, rf2, rf3, rf4⟩ := fz5_ BR4; have g0 : w4.cell? ⟨g, 0, none⟩ = some (.int .u32 q1) := (blk_cell D4.out.1 0).trans rfl; have g1 : w4.cell? ⟨g, 1, none⟩ = some (.slice a1_ q2.length b1_) := (blk_cell D4.out.1 1).trans rfl; have g2 : w4.cell? ⟨g, 2, none⟩ = some (.slice a2_ q3.length b2_) := (blk_cell D4.out.1 2).trans rfl; have g3 : w4.cell? ⟨g, 3, none⟩ = some (.bool q4) := (blk_cell D4.out.1 3).trans rfl; have g4 : w4.cell? ⟨g, 4, none⟩ = some (.int .i64 q5) := (blk_cell D4.out.1 4).trans rfl; clear h4 hd4 hg4 BR3 BD3 K3))
              have hDd := Aside0.mk D4.out.drew
              have hRd := Aside0.mk (blk_drew BR4.out)
              refine start_ (n := 16) (S := fun w' => w'.cell? ⟨g, 2, none⟩ = some (.slice a2_ q3.length b2_) ∧ w'.cell? ⟨g, 0, none⟩ = some (.int .u32 q1)) (ds := [15]) #[false, false, false, false, false, false, false, false, false, false, false, false, false, false, false, false] (by kernel_rfl) rfl rfl ⟨g2, g0⟩ (fun hHeld => ?_)
              clear g0 g1 g2 g3 g4 r0 r1 r2 r3 r4 rf0 rf1 rf2 rf3 rf4 z0 z1 z2 z3 z4 D4 BR4 BD4
              generalize w4.drew = wd at hDd hRd hHeld ⊢
              refine pu_ 0 43 ?_
              refine pu_ 1 44 ?_
              refine pu_ 2 45 ?_
              refine pu_ 3 46 ?_
              refine pu_ 4 47 ?_
              refine tk2_ 5 48 ?_
              refine pu_ 6 49 ?_
              refine pu_ 7 50 ?_
              refine on_ 8 51 (fun K hK => ?_)
              refine goes_ Tryd.func29 (by kernel_rfl) rfl #[.string a2] (by rfl) rfl rfl (by (try simp only [List.map_toArray, List.map_cons, List.map_nil]); first | done | rfl) ?_
              with_reducible refine (dev_cut.calls a2 t _ HT.out).mono ?_
              rintro e w' ⟨rfl, ⟨nd, hnd⟩⟩
              have hDe := Aside0.mk (hDd.out.below (w' := w') (by rw [hnd]; exact pw_below_drewN (Below.refl _ _) nd))
              have hRe := Aside0.mk (show w'.heap[gr]? = some (.cells #[.int .u32 0, .slice none 0 0, .slice none 0 0, .bool false, .int .i64 0] 25 (0, 0)) by rw [hnd]; exact blk_drewN hRd.out nd)
              clear hnd hDd hRd
              refine ⟨_, rfl, ?_⟩
              refine hK.out _ _ ⟨(blk_cell hDe.out.1 2).trans rfl, (blk_cell hDe.out.1 0).trans rfl⟩ (fun hHeld => ?_)
              clear hK K
              refine nm_ 51 ?_
              refine pu_ 9 52 ?_
              refine on_ 10 53 (fun K hK => ?_)
              refine value_ (w1 := ?_) (v := ?_) (by rfl) rfl ?_ ?_
              rotate_left 2
              · go_simp
                constructor
                · rfl
                · rfl
              refine hK.out _ _ ⟨(blk_cell (blk_alloc hDe.out.1 _) 2).trans rfl, (blk_cell (blk_alloc hDe.out.1 _) 0).trans rfl⟩ (fun hHeld => ?_)
              clear hK K
              refine nm_ 53 ?_
              refine on_ 11 54 (fun K hK => ?_)
              refine Kd.R_append_step k39 (w0 := w) w.heap.size (by rfl) (.tmp 48) (.tmp 53) 23 39 (.agg #[(.int .u32 0), (.string ⟨#[]⟩)]) 24 rfl Tryd.underlying23 info39 rfl (by decide) (by omega) (.slice a2_ q3.length b2_) q3 (⟨a1, t⟩ : S39) [.int .u32 a1, .string t] (fun k_ => some k_ ≠ (.slice a1_ q2.length b1_ : Value).ownBlock) (fun _ => False) rfl rfl ?aP (fun _ hk => hk.elim) ?aF ?aO ?aB ?aS ?aL ?_
              (case aP => exact k39_mkM _ _ _ (⟨a1, t⟩ : S39))
              (case aB => exact hDe.out.2.2.2.2)
              (case aF => exact (fun k_ hk => Kd.fresh' (Kd.R_lt hDe.out.2.2.1) k_ hk))
              (case aO => exact hDe.out.2.2.2.1)
              (case aS => exact hDe.out.2.2.2.2.size)
              (case aL => have := H5.out; omega)
              intro v7 w7 ho hb hg hat
              rw [HW.out] at ho
              obtain ⟨A7, c7, rfl⟩ := Kd.R_slice ho
              have B7 := Aside0.mk (blk_grown hDe.out.1 hg (own_ne hDe.out.2.2.2.1 hDe.out.1 (by decide)))
              have R7 := Aside0.mk (blk_grown hRe.out hg (own_ne hDe.out.2.2.2.1 hRe.out (by decide)))
              have D8 := Aside0.mk (hDe.out.wait hg hat hb ho)
              clear hDe hRe ho hb hg hat
              refine hK.out _ _ ⟨(blk_cell B7.out 2).trans rfl, (blk_cell B7.out 0).trans rfl⟩ (fun hHeld => ?_)
              clear hK K
              refine nm_ 54 ?_
              refine pu_ 12 55 ?_
              refine pu_ 13 56 ?_
              refine pu_ 14 57 ?_
              have p2 : w7.cell? ⟨g, 2, none⟩ = some (.slice a2_ q3.length b2_) := (blk_cell B7.out 2).trans rfl
              have pf2 : w7.frozen? ⟨g, 2, none⟩ = false := blk_frozen B7.out 2
              refine last_ (i := 15) (N := none) #[true, true, true, true, true, true, true, true, true, true, true, true, true, true, true, true] rfl rfl (by kernel_rfl) (by decide) (fun K hK => ?_)
              refine skip_ (w1 := ?_) (by rfl) rfl ?_ ?_
              rotate_left
              · go_simp
                rfl
              refine hK.out _ _ ?_
              clear hK K
              refine done_ (by kernel_rfl) ?_
              have R8 := Aside0.mk (show (w7.setCell ⟨g, 2, none⟩ (.slice A7 wn.length c7)).heap[gr]? = _ from (Below.heap_setCell w7 ⟨g, 2, none⟩ _ gr (fun e => NG.out e.symm)).trans R7.out)
              generalize w7.setCell ⟨g, 2, none⟩ (.slice A7 wn.length c7) = w8 at D8 R8 ⊢
              clear p2 pf2 B7 R7 hHeld
              have HD := Aside0.mk hdn
              clear hdn
              go_wp2_with (go_at_call 30; refine (burn_at true D8.out.1 HD.out).mono ?_; rintro e w9 ⟨rfl, hs9⟩; have D9 := Aside0.mk (D8.out.step hs9); have R9 := Aside0.mk ((hs9.2.1.2 gr (blk_lt R8.out) (fun e => NG.out e.symm) (by simp)).trans R8.out); have g0 : w9.cell? ⟨g, 0, none⟩ = some (.int .u32 q1) := (blk_cell D9.out.1 0).trans rfl; have g1 : w9.cell? ⟨g, 1, none⟩ = some (.slice a1_ q2.length b1_) := (blk_cell D9.out.1 1).trans rfl; have g2 : w9.cell? ⟨g, 2, none⟩ = some (.slice A7 wn.length c7) := (blk_cell D9.out.1 2).trans rfl; have g3 : w9.cell? ⟨g, 3, none⟩ = some (.bool true) := (blk_cell D9.out.1 3).trans rfl; have g4 : w9.cell? ⟨g, 4, none⟩ = some (.int .i64 (fuseOf q5)) := (blk_cell D9.out.1 4).trans rfl; have r0 : w9.cell? ⟨gr, 0, none⟩ = some (.int .u32 0) := (blk_cell R9.out 0).trans rfl; have r1 : w9.cell? ⟨gr, 1, none⟩ = some (.slice none 0 0) := (blk_cell R9.out 1).trans rfl; have r2 : w9.cell? ⟨gr, 2, none⟩ = some (.slice none 0 0) := (blk_cell R9.out 2).trans rfl; have r3 : w9.cell? ⟨gr, 3, none⟩ = some (.bool false) := (blk_cell R9.out 3).trans rfl; have r4 : w9.cell? ⟨gr, 4, none⟩ = some (.int .i64 0) := (blk_cell R9.out 4).trans rfl; have rf0 : w9.frozen? ⟨gr, 0, none⟩ = false := blk_frozen R9.out 0; have rf1 : w9.frozen? ⟨gr, 1, none⟩ = false := blk_frozen R9.out 1; have rf2 : w9.frozen? ⟨gr, 2, none⟩ = false := blk_frozen R9.out 2; have rf3 : w9.frozen? ⟨gr, 3, none⟩ = false := blk_frozen R9.out 3; have rf4 : w9.frozen? ⟨gr, 4, none⟩ = false := blk_frozen R9.out 4; clear hs9 D8 R8)
              
              have hs := res_dev D9.out R9.out GR.out
              refine bodyPost_ret (results_ct rfl _ _ gr 25 #[.int .u32 q1, .slice a1_ q2.length b1_, .slice A7 wn.length c7, .bool true, .int .i64 (fuseOf q5)] (0, 0) _ rfl hs.1 Tryd.underlying25 rfl (by kernel_rfl)) rfl ?_
              exact ⟨_, _, rfl, hs.2⟩
            | false =>
              go_enter Tryd.func13, Tryd.ntmps13
              go_wp2_with (first | ((with_reducible refine gate_dst (N := 3) rfl ?_); refine bx_ (N := 3) (cs := #[.int .u32 a0_0, .slice A0_1 l0_1.length c0_1, .slice A0_2 l0_2.length c0_2, .bool false, .int .i64 a0_4]) (t := 25) ?_; intro gd hgd w1 hx hbx; have BD1 := Aside0.mk hx; have K1 := Aside0.mk hbx; have GD := Aside0.mk (show w.heap.size ≤ gd by omega); obtain ⟨z0, z1, z2, z3, z4⟩ := cl5_ BD1; clear hx hbx hgd) | ((with_reducible refine gate_dst (N := 6) rfl ?_); refine bx_ (N := 6) (cs := #[.int .u32 0, .slice none 0 0, .slice none 0 0, .bool false, .int .i64 0]) (t := 25) ?_; intro gr hgr w2 hx hbx; have BR2 := Aside0.mk hx; have BD2 := Aside0.mk (blk_below BD1.out hbx); have K2 := Aside0.mk (below_step K1.out hbx); have NE := Aside0.mk (show gr ≠ gd by rw [hgr]; exact fun e => Nat.lt_irrefl _ (e ▸ blk_lt BD1.out)); have GR := Aside0.mk (show w.heap.size ≤ gr by rw [hgr]; exact K1.out.size); clear z0 z1 z2 z3 z4; obtain ⟨z0, z1, z2, z3, z4⟩ := cl5_ BD2; clear hx hbx hgr K1 BD1) | (go_at_call 21; refine (dev_Check.calls k a0_0 A0_1 c0_1 l0_1 A0_2 c0_2 l0_2 false a0_4 _ _ (Kd.C_below HR1.out K2.out) HC1.out (Kd.C_below HR2.out K2.out) HC2.out HY.out).mono ?_; rintro e w3 ⟨rfl, h3⟩; have BR3 := Aside0.mk (blk_below BR2.out h3); have BD3 := Aside0.mk (blk_below BD2.out h3); have K3 := Aside0.mk (below_step K2.out h3); clear z0 z1 z2 z3 z4; obtain ⟨z0, z1, z2, z3, z4⟩ := cl5_ BD3; obtain ⟨r0, r1, r2, r3, r4⟩ := cl5_ BR3; obtain ⟨rf0, rf1, rf2, rf3, rf4⟩ := fz5_ BR3; clear h3 BR2 BD2 K2) | (go_at_call 28; refine (open_calls a0_0 A0_1 c0_1 l0_1 A0_2 c0_2 l0_2 false a0_4 q1 q2 q3 q4 q5 w _ K3.out (Kd.C_below HR1.out K3.out) HC1.out (Kd.C_below HR2.out K3.out) HC2.out HO.out).mono ?_; rintro e w4 ⟨g, a1_, b1_, a2_, b2_, rfl, hg4, h4, hd4⟩; have D4 := Aside0.mk hd4; have BR4 := Aside0.mk (blk_below BR3.out h4); have BD4 := Aside0.mk (blk_below BD3.out h4); have NG := Aside0.mk (show g ≠ gr from fun e => by have := blk_lt BR3.out; omega); have ND := Aside0.mk (show g ≠ gd from fun e => by have := blk_lt BD3.out; omega); clear z0 z1 z2 z3 z4 r0 r1 r2 r3 r4 rf0 rf1 rf2 rf3 rf4; obtain ⟨z0, z1, z2, z3, z4⟩ := cl5_ BD4; obtain ⟨r0, r1, r2, r3, r4⟩ := cl5_ BR4; obtain ⟨rf0, rf1, rf2, rf3, rf4⟩ := fz5_ BR4; have g0 : w4.cell? ⟨g, 0, none⟩ = some (.int .u32 q1) := (blk_cell D4.out.1 0).trans rfl; have g1 : w4.cell? ⟨g, 1, none⟩ = some (.slice a1_ q2.length b1_) := (blk_cell D4.out.1 1).trans rfl; have g2 : w4.cell? ⟨g, 2, none⟩ = some (.slice a2_ q3.length b2_) := (blk_cell D4.out.1 2).trans rfl; have g3 : w4.cell? ⟨g, 3, none⟩ = some (.bool q4) := (blk_cell D4.out.1 3).trans rfl; have g4 : w4.cell? ⟨g, 4, none⟩ = some (.int .i64 q5) := (blk_cell D4.out.1 4).trans rfl; clear h4 hd4 hg4 BR3 BD3 K3))
              have hDd := Aside0.mk D4.out.drew
              have hRd := Aside0.mk (blk_drew BR4.out)
              refine start_ (n := 16) (S := fun w' => w'.cell? ⟨g, 2, none⟩ = some (.slice a2_ q3.length b2_) ∧ w'.cell? ⟨g, 0, none⟩ = some (.int .u32 q1)) (ds := [15]) #[false, false, false, false, false, false, false, false, false, false, false, false, false, false, false, false] (by kernel_rfl) rfl rfl ⟨g2, g0⟩ (fun hHeld => ?_)
              clear g0 g1 g2 g3 g4 r0 r1 r2 r3 r4 rf0 rf1 rf2 rf3 rf4 z0 z1 z2 z3 z4 D4 BR4 BD4
              generalize w4.drew = wd at hDd hRd hHeld ⊢
              refine pu_ 0 43 ?_
              refine pu_ 1 44 ?_
              refine pu_ 2 45 ?_
              refine pu_ 3 46 ?_
              refine pu_ 4 47 ?_
              refine tk2_ 5 48 ?_
              refine pu_ 6 49 ?_
              refine pu_ 7 50 ?_
              refine on_ 8 51 (fun K hK => ?_)
              refine goes_ Tryd.func29 (by kernel_rfl) rfl #[.string a2] (by rfl) rfl rfl (by (try simp only [List.map_toArray, List.map_cons, List.map_nil]); first | done | rfl) ?_
              with_reducible refine (dev_cut.calls a2 t _ HT.out).mono ?_
              rintro e w' ⟨rfl, ⟨nd, hnd⟩⟩
              have hDe := Aside0.mk (hDd.out.below (w' := w') (by rw [hnd]; exact pw_below_drewN (Below.refl _ _) nd))
              have hRe := Aside0.mk (show w'.heap[gr]? = some (.cells #[.int .u32 0, .slice none 0 0, .slice none 0 0, .bool false, .int .i64 0] 25 (0, 0)) by rw [hnd]; exact blk_drewN hRd.out nd)
              clear hnd hDd hRd
              refine ⟨_, rfl, ?_⟩
              refine hK.out _ _ ⟨(blk_cell hDe.out.1 2).trans rfl, (blk_cell hDe.out.1 0).trans rfl⟩ (fun hHeld => ?_)
              clear hK K
              refine nm_ 51 ?_
              refine pu_ 9 52 ?_
              refine on_ 10 53 (fun K hK => ?_)
              refine value_ (w1 := ?_) (v := ?_) (by rfl) rfl ?_ ?_
              rotate_left 2
              · go_simp
                constructor
                · rfl
                · rfl
              refine hK.out _ _ ⟨(blk_cell (blk_alloc hDe.out.1 _) 2).trans rfl, (blk_cell (blk_alloc hDe.out.1 _) 0).trans rfl⟩ (fun hHeld => ?_)
              clear hK K
              refine nm_ 53 ?_
              refine on_ 11 54 (fun K hK => ?_)
              refine Kd.R_append_step k39 (w0 := w) w.heap.size (by rfl) (.tmp 48) (.tmp 53) 23 39 (.agg #[(.int .u32 0), (.string ⟨#[]⟩)]) 24 rfl Tryd.underlying23 info39 rfl (by decide) (by omega) (.slice a2_ q3.length b2_) q3 (⟨a1, t⟩ : S39) [.int .u32 a1, .string t] (fun k_ => some k_ ≠ (.slice a1_ q2.length b1_ : Value).ownBlock) (fun _ => False) rfl rfl ?aP (fun _ hk => hk.elim) ?aF ?aO ?aB ?aS ?aL ?_
              (case aP => exact k39_mkM _ _ _ (⟨a1, t⟩ : S39))
              (case aB => exact hDe.out.2.2.2.2)
              (case aF => exact (fun k_ hk => Kd.fresh' (Kd.R_lt hDe.out.2.2.1) k_ hk))
              (case aO => exact hDe.out.2.2.2.1)
              (case aS => exact hDe.out.2.2.2.2.size)
              (case aL => have := H5.out; omega)
              intro v7 w7 ho hb hg hat
              rw [HW.out] at ho
              obtain ⟨A7, c7, rfl⟩ := Kd.R_slice ho
              have B7 := Aside0.mk (blk_grown hDe.out.1 hg (own_ne hDe.out.2.2.2.1 hDe.out.1 (by decide)))
              have R7 := Aside0.mk (blk_grown hRe.out hg (own_ne hDe.out.2.2.2.1 hRe.out (by decide)))
              have D8 := Aside0.mk (hDe.out.wait hg hat hb ho)
              clear hDe hRe ho hb hg hat
              refine hK.out _ _ ⟨(blk_cell B7.out 2).trans rfl, (blk_cell B7.out 0).trans rfl⟩ (fun hHeld => ?_)
              clear hK K
              refine nm_ 54 ?_
              refine pu_ 12 55 ?_
              refine pu_ 13 56 ?_
              refine pu_ 14 57 ?_
              have p2 : w7.cell? ⟨g, 2, none⟩ = some (.slice a2_ q3.length b2_) := (blk_cell B7.out 2).trans rfl
              have pf2 : w7.frozen? ⟨g, 2, none⟩ = false := blk_frozen B7.out 2
              refine last_ (i := 15) (N := none) #[true, true, true, true, true, true, true, true, true, true, true, true, true, true, true, true] rfl rfl (by kernel_rfl) (by decide) (fun K hK => ?_)
              refine skip_ (w1 := ?_) (by rfl) rfl ?_ ?_
              rotate_left
              · go_simp
                rfl
              refine hK.out _ _ ?_
              clear hK K
              refine done_ (by kernel_rfl) ?_
              have R8 := Aside0.mk (show (w7.setCell ⟨g, 2, none⟩ (.slice A7 wn.length c7)).heap[gr]? = _ from (Below.heap_setCell w7 ⟨g, 2, none⟩ _ gr (fun e => NG.out e.symm)).trans R7.out)
              generalize w7.setCell ⟨g, 2, none⟩ (.slice A7 wn.length c7) = w8 at D8 R8 ⊢
              clear p2 pf2 B7 R7 hHeld
              have HD := Aside0.mk hdn
              clear hdn
              go_wp2_with (go_at_call 30; refine (burn_at false D8.out.1 HD.out).mono ?_; rintro e w9 ⟨rfl, hs9⟩; have D9 := Aside0.mk (D8.out.step hs9); have R9 := Aside0.mk ((hs9.2.1.2 gr (blk_lt R8.out) (fun e => NG.out e.symm) (by simp)).trans R8.out); have g0 : w9.cell? ⟨g, 0, none⟩ = some (.int .u32 q1) := (blk_cell D9.out.1 0).trans rfl; have g1 : w9.cell? ⟨g, 1, none⟩ = some (.slice a1_ q2.length b1_) := (blk_cell D9.out.1 1).trans rfl; have g2 : w9.cell? ⟨g, 2, none⟩ = some (.slice A7 wn.length c7) := (blk_cell D9.out.1 2).trans rfl; have g3 : w9.cell? ⟨g, 3, none⟩ = some (.bool false) := (blk_cell D9.out.1 3).trans rfl; have g4 : w9.cell? ⟨g, 4, none⟩ = some (.int .i64 (fuseOf q5)) := (blk_cell D9.out.1 4).trans rfl; have r0 : w9.cell? ⟨gr, 0, none⟩ = some (.int .u32 0) := (blk_cell R9.out 0).trans rfl; have r1 : w9.cell? ⟨gr, 1, none⟩ = some (.slice none 0 0) := (blk_cell R9.out 1).trans rfl; have r2 : w9.cell? ⟨gr, 2, none⟩ = some (.slice none 0 0) := (blk_cell R9.out 2).trans rfl; have r3 : w9.cell? ⟨gr, 3, none⟩ = some (.bool false) := (blk_cell R9.out 3).trans rfl; have r4 : w9.cell? ⟨gr, 4, none⟩ = some (.int .i64 0) := (blk_cell R9.out 4).trans rfl; have rf0 : w9.frozen? ⟨gr, 0, none⟩ = false := blk_frozen R9.out 0; have rf1 : w9.frozen? ⟨gr, 1, none⟩ = false := blk_frozen R9.out 1; have rf2 : w9.frozen? ⟨gr, 2, none⟩ = false := blk_frozen R9.out 2; have rf3 : w9.frozen? ⟨gr, 3, none⟩ = false := blk_frozen R9.out 3; have rf4 : w9.frozen? ⟨gr, 4, none⟩ = false := blk_frozen R9.out 4; clear hs9 D8 R8)
              
              have hs := res_dev D9.out R9.out GR.out
              refine bodyPost_ret (results_ct rfl _ _ gr 25 #[.int .u32 q1, .slice a1_ q2.length b1_, .slice A7 wn.length c7, .bool false, .int .i64 (fuseOf q5)] (0, 0) _ rfl hs.1 Tryd.underlying25 rfl (by kernel_rfl)) rfl ?_
              exact ⟨_, _, rfl, hs.2⟩
  · rw [if_neg h0] at h
    cases h
    have h0b : (r6 == 0) = false := beq_eq_false_iff_ne.mpr h0
    have h0c : (r6 != 0) = true := bne_iff_ne.mpr h0
    go_enter Tryd.func13, Tryd.ntmps13
    go_wp2_with (first | ((with_reducible refine gate_dst (N := 3) rfl ?_); refine bx_ (N := 3) (cs := #[.int .u32 a0_0, .slice A0_1 l0_1.length c0_1, .slice A0_2 l0_2.length c0_2, .bool a0_3, .int .i64 a0_4]) (t := 25) ?_; intro gd hgd w1 hx hbx; have BD1 := Aside0.mk hx; have K1 := Aside0.mk hbx; have GD := Aside0.mk (show w.heap.size ≤ gd by omega); obtain ⟨z0, z1, z2, z3, z4⟩ := cl5_ BD1; clear hx hbx hgd) | ((with_reducible refine gate_dst (N := 6) rfl ?_); refine bx_ (N := 6) (cs := #[.int .u32 0, .slice none 0 0, .slice none 0 0, .bool false, .int .i64 0]) (t := 25) ?_; intro gr hgr w2 hx hbx; have BR2 := Aside0.mk hx; have BD2 := Aside0.mk (blk_below BD1.out hbx); have K2 := Aside0.mk (below_step K1.out hbx); have NE := Aside0.mk (show gr ≠ gd by rw [hgr]; exact fun e => Nat.lt_irrefl _ (e ▸ blk_lt BD1.out)); have GR := Aside0.mk (show w.heap.size ≤ gr by rw [hgr]; exact K1.out.size); clear z0 z1 z2 z3 z4; obtain ⟨z0, z1, z2, z3, z4⟩ := cl5_ BD2; clear hx hbx hgr K1 BD1) | (go_at_call 21; refine (dev_Check.calls k a0_0 A0_1 c0_1 l0_1 A0_2 c0_2 l0_2 a0_3 a0_4 _ _ (Kd.C_below HR1.out K2.out) HC1.out (Kd.C_below HR2.out K2.out) HC2.out HY.out).mono ?_; rintro e w3 ⟨rfl, h3⟩; have BR3 := Aside0.mk (blk_below BR2.out h3); have BD3 := Aside0.mk (blk_below BD2.out h3); have K3 := Aside0.mk (below_step K2.out h3); clear z0 z1 z2 z3 z4; obtain ⟨z0, z1, z2, z3, z4⟩ := cl5_ BD3; obtain ⟨r0, r1, r2, r3, r4⟩ := cl5_ BR3; obtain ⟨rf0, rf1, rf2, rf3, rf4⟩ := fz5_ BR3; clear h3 BR2 BD2 K2))
    have hs := res_zero K3.out BR3.out GR.out
    refine bodyPost_ret (results_ct rfl _ _ gr 25 #[.int .u32 0, .slice none 0 0, .slice none 0 0, .bool false, .int .i64 0] (0, 0) _ rfl hs.1 Tryd.underlying25 rfl (by kernel_rfl)) rfl ?_
    exact ⟨_, _, rfl, Kd.R_nil _ _ _ _ _, Kd.R_nil _ _ _ _ _, hs.2⟩
end Go.Proofs.YtcphflfjhkeooaaDoor.Z
end

section
/- dev.Flush: printed by gendev.py. -/
namespace Go.Proofs.YtcphflfjhkeooaaDoor.Z
open Go.RowKit Go.Proofs.YtcphflfjhkeooaaDoorW.PrintWords Go.Proofs.YtcphflfjhkeooaaDoorW.PrintLast Go.Proofs.YtcphflfjhkeooaaDoorW.PrintMore
set_option linter.unusedVariables false
set_option linter.unusedSimpArgs false
attribute [local go_sem ↓] Go.wp_at_zero Go.wp_at_succ
def putsF (k : Nat) : List Blk → List Blk → Option (List Blk)
  | bl, [] => some bl
  | bl, x :: wl => (putF k bl x).bind fun b => putsF k b wl
theorem putsF_mono : ∀ a1 a0 k, LeO (putsF k a0 a1) (putsF (k + 1) a0 a1) := by
  intro a1
  induction a1 with
  | nil => exact fun _ _ => LeO.refl _
  | cons x wl ih => exact fun a0 k => LeO.bind (putF_mono _ _ _) (fun _ => ih _ _)
theorem Drv.empty {w0 w : World} {g : Nat} {s : Int} {vB vW : Value} {bl wl : List Blk} {d : Bool} {f n : Int} (h : Drv w0 w g s vB vW bl wl d f n) : Drv w0 (w.setCell ⟨g, 2, none⟩ (.slice none 0 0)) g s vB (.slice none 0 0) bl [] d f n :=
  ⟨blk_set h.1 2 _, h.2.1, Kd.R_mono (Kd.R_far (p := ⟨g, 2, none⟩) (Kd.R_types h.2.2.1 h.1 (by decide)) (fun _ hk => hk.2) _) (fun _ _ e => by cases e), Kd.R_nil _ _ _ _ _, h.2.2.2.2.setCell (p := ⟨g, 2, none⟩) h.2.1 _⟩
def dev_Flush.f (k : Nat) (a0_0 : Int) (l0_1 : List (S39)) (l0_2 : List (S39)) (a0_3 : Bool) (a0_4 : Int) : Option (Int × (List (S39)) × (List (S39)) × Bool × Int × Int) :=
  (dev_Check.f k a0_0 l0_1 l0_2 a0_3 a0_4).bind fun y => if y = 0 then ((dev_Own.f a0_0 l0_1 l0_2 a0_3 a0_4).bind fun q => if a0_3 = true then some (q.1, q.2.1, q.2.2.1, q.2.2.2.1, q.2.2.2.2, 17) else if downOf q.2.2.2.1 q.2.2.2.2 = true then some (q.1, q.2.1, q.2.2.1, true, fuseOf q.2.2.2.2, 17) else (putsF k q.2.1 q.2.2.1).bind fun b => some (q.1, b, ([] : List (S39)), false, fuseOf q.2.2.2.2, 0)) else some (0, ([] : List (S39)), ([] : List (S39)), false, 0, y)
theorem dev_Flush.mono : ∀ a0 a1 a2 a3 a4 k, LeO (dev_Flush.f k a0 a1 a2 a3 a4) (dev_Flush.f (k + 1) a0 a1 a2 a3 a4) := by
  intro a0 a1 a2 a3 a4 k
  unfold dev_Flush.f
  exact LeO.bind (dev_Check.mono _ _ _ _ _ _) (fun _ => LeO.ite (LeO.bind (LeO.refl _) (fun _ => LeO.ite (LeO.refl _) (LeO.ite (LeO.refl _) (LeO.bind (putsF_mono _ _ _) (fun _ => LeO.refl _))))) (LeO.refl _))
set_option maxRecDepth 100000 in
set_option maxHeartbeats 6400000 in
theorem dev_Flush.calls (k : Nat) (a0_0 : Int) (A0_1 : Option Addr) (c0_1 : Nat) (l0_1 : List (S39)) (A0_2 : Option Addr) (c0_2 : Nat) (l0_2 : List (S39)) (a0_3 : Bool) (a0_4 : Int) (r1 : Int) (r2 : List (S39)) (r3 : List (S39)) (r4 : Bool) (r5 : Int) (r6 : Int) (w : World) (hr0_1 : Kd.C k39 w A0_1 l0_1.length l0_1) (hc0_1 : l0_1.length ≤ c0_1) (hr0_2 : Kd.C k39 w A0_2 l0_2.length l0_2) (hc0_2 : l0_2.length ≤ c0_2) (h : dev_Flush.f k a0_0 l0_1 l0_2 a0_3 a0_4 = some (r1, r2, r3, r4, r5, r6)) :
    Calls Tryd.prog 15 #[.agg #[.int .u32 a0_0, .slice A0_1 l0_1.length c0_1, .slice A0_2 l0_2.length c0_2, .bool a0_3, .int .i64 a0_4]] w fun e w' => ∃ v1_ v2_ : Value, e = .returned (.tuple #[.agg #[.int .u32 r1, v1_, v2_, .bool r4, .int .i64 r5], .int .i64 r6]) ∧ Kd.R k39 39 w' w.heap.size (fun k_ => some k_ ≠ (v2_ : Value).ownBlock) v1_ r2 ∧ Kd.R k39 39 w' w.heap.size (fun k_ => some k_ ≠ (v1_ : Value).ownBlock) v2_ r3 ∧ Below w.heap.size w w' := by
  have HR1 := Aside0.mk hr0_1
  have HR2 := Aside0.mk hr0_2
  have HC1 := Aside0.mk hc0_1
  have HC2 := Aside0.mk hc0_2
  clear hr0_1 hr0_2 hc0_1 hc0_2
  unfold dev_Flush.f at h
  replace h := Option.bind_eq_some_iff.mp h
  obtain ⟨y, hy, h⟩ := h
  have HY := Aside0.mk hy
  clear hy
  by_cases h0 : y = 0
  · rw [if_pos h0] at h
    subst h0
    replace h := Option.bind_eq_some_iff.mp h
    obtain ⟨⟨q1, q2, q3, q4, q5⟩, hq, h⟩ := h
    have HO := Aside0.mk hq
    clear hq
    replace h : (if a0_3 = true then some (q1, q2, q3, q4, q5, 17) else if downOf q4 q5 = true then some (q1, q2, q3, true, fuseOf q5, 17) else (putsF k q2 q3).bind fun b => some (q1, b, ([] : List (S39)), false, fuseOf q5, 0)) = some (r1, r2, r3, r4, r5, r6) := h
    by_cases h1 : a0_3 = true
    · rw [if_pos h1] at h
      subst h1
      simp only [Option.some.injEq, Prod.mk.injEq] at h
      obtain ⟨rfl, rfl, rfl, rfl, rfl, rfl⟩ := h
      go_enter Tryd.func15, Tryd.ntmps15
      go_wp2_with (first | ((with_reducible refine gate_dst (N := 1) rfl ?_); refine bx_ (N := 1) (cs := #[.int .u32 a0_0, .slice A0_1 l0_1.length c0_1, .slice A0_2 l0_2.length c0_2, .bool true, .int .i64 a0_4]) (t := 25) ?_; intro gd hgd w1 hx hbx; have BD1 := Aside0.mk hx; have K1 := Aside0.mk hbx; have GD := Aside0.mk (show w.heap.size ≤ gd by omega); obtain ⟨z0, z1, z2, z3, z4⟩ := cl5_ BD1; clear hx hbx hgd) | ((with_reducible refine gate_dst (N := 2) rfl ?_); refine bx_ (N := 2) (cs := #[.int .u32 0, .slice none 0 0, .slice none 0 0, .bool false, .int .i64 0]) (t := 25) ?_; intro gr hgr w2 hx hbx; have BR2 := Aside0.mk hx; have BD2 := Aside0.mk (blk_below BD1.out hbx); have K2 := Aside0.mk (below_step K1.out hbx); have NE := Aside0.mk (show gr ≠ gd by rw [hgr]; exact fun e => Nat.lt_irrefl _ (e ▸ blk_lt BD1.out)); have GR := Aside0.mk (show w.heap.size ≤ gr by rw [hgr]; exact K1.out.size); clear z0 z1 z2 z3 z4; obtain ⟨z0, z1, z2, z3, z4⟩ := cl5_ BD2; clear hx hbx hgr K1 BD1) | (go_at_call 21; refine (dev_Check.calls k a0_0 A0_1 c0_1 l0_1 A0_2 c0_2 l0_2 true a0_4 _ _ (Kd.C_below HR1.out K2.out) HC1.out (Kd.C_below HR2.out K2.out) HC2.out HY.out).mono ?_; rintro e w3 ⟨rfl, h3⟩; have BR3 := Aside0.mk (blk_below BR2.out h3); have BD3 := Aside0.mk (blk_below BD2.out h3); have K3 := Aside0.mk (below_step K2.out h3); clear z0 z1 z2 z3 z4; obtain ⟨z0, z1, z2, z3, z4⟩ := cl5_ BD3; obtain ⟨r0, r1, r2, r3, r4⟩ := cl5_ BR3; obtain ⟨rf0, rf1, rf2, rf3, rf4⟩ := fz5_ BR3; clear h3 BR2 BD2 K2) | (go_at_call 28; refine (open_calls a0_0 A0_1 c0_1 l0_1 A0_2 c0_2 l0_2 true a0_4 q1 q2 q3 q4 q5 w _ K3.out (Kd.C_below HR1.out K3.out) HC1.out (Kd.C_below HR2.out K3.out) HC2.out HO.out).mono ?_; rintro e w4 ⟨g, a1_, b1_, a2_, b2_, rfl, hg4, h4, hd4⟩; have D4 := Aside0.mk hd4; have BR4 := Aside0.mk (blk_below BR3.out h4); have BD4 := Aside0.mk (blk_below BD3.out h4); have NG := Aside0.mk (show g ≠ gr from fun e => by have := blk_lt BR3.out; omega); have ND := Aside0.mk (show g ≠ gd from fun e => by have := blk_lt BD3.out; omega); clear z0 z1 z2 z3 z4 r0 r1 r2 r3 r4 rf0 rf1 rf2 rf3 rf4; obtain ⟨z0, z1, z2, z3, z4⟩ := cl5_ BD4; obtain ⟨r0, r1, r2, r3, r4⟩ := cl5_ BR4; obtain ⟨rf0, rf1, rf2, rf3, rf4⟩ := fz5_ BR4; have g0 : w4.cell? ⟨g, 0, none⟩ = some (.int .u32 q1) := (blk_cell D4.out.1 0).trans rfl; have g1 : w4.cell? ⟨g, 1, none⟩ = some (.slice a1_ q2.length b1_) := (blk_cell D4.out.1 1).trans rfl; have g2 : w4.cell? ⟨g, 2, none⟩ = some (.slice a2_ q3.length b2_) := (blk_cell D4.out.1 2).trans rfl; have g3 : w4.cell? ⟨g, 3, none⟩ = some (.bool q4) := (blk_cell D4.out.1 3).trans rfl; have g4 : w4.cell? ⟨g, 4, none⟩ = some (.int .i64 q5) := (blk_cell D4.out.1 4).trans rfl; clear h4 hd4 hg4 BR3 BD3 K3))
      have hs := res_dev D4.out BR4.out GR.out
      refine bodyPost_ret (results_ct rfl _ _ gr 25 #[.int .u32 q1, .slice a1_ q2.length b1_, .slice a2_ q3.length b2_, .bool q4, .int .i64 q5] (0, 0) _ rfl hs.1 Tryd.underlying25 rfl (by kernel_rfl)) rfl ?_
      exact ⟨_, _, rfl, hs.2⟩
    · rw [if_neg h1] at h
      replace h1 := Bool.eq_false_iff.mpr h1
      subst h1
      by_cases hdn : downOf q4 q5 = true
      · rw [if_pos hdn] at h
        simp only [Option.some.injEq, Prod.mk.injEq] at h
        obtain ⟨rfl, rfl, rfl, rfl, rfl, rfl⟩ := h
        have HDN := Aside0.mk hdn
        clear hdn
        go_enter Tryd.func15, Tryd.ntmps15
        go_wp2_with (first | ((with_reducible refine gate_dst (N := 1) rfl ?_); refine bx_ (N := 1) (cs := #[.int .u32 a0_0, .slice A0_1 l0_1.length c0_1, .slice A0_2 l0_2.length c0_2, .bool false, .int .i64 a0_4]) (t := 25) ?_; intro gd hgd w1 hx hbx; have BD1 := Aside0.mk hx; have K1 := Aside0.mk hbx; have GD := Aside0.mk (show w.heap.size ≤ gd by omega); obtain ⟨z0, z1, z2, z3, z4⟩ := cl5_ BD1; clear hx hbx hgd) | ((with_reducible refine gate_dst (N := 2) rfl ?_); refine bx_ (N := 2) (cs := #[.int .u32 0, .slice none 0 0, .slice none 0 0, .bool false, .int .i64 0]) (t := 25) ?_; intro gr hgr w2 hx hbx; have BR2 := Aside0.mk hx; have BD2 := Aside0.mk (blk_below BD1.out hbx); have K2 := Aside0.mk (below_step K1.out hbx); have NE := Aside0.mk (show gr ≠ gd by rw [hgr]; exact fun e => Nat.lt_irrefl _ (e ▸ blk_lt BD1.out)); have GR := Aside0.mk (show w.heap.size ≤ gr by rw [hgr]; exact K1.out.size); clear z0 z1 z2 z3 z4; obtain ⟨z0, z1, z2, z3, z4⟩ := cl5_ BD2; clear hx hbx hgr K1 BD1) | (go_at_call 21; refine (dev_Check.calls k a0_0 A0_1 c0_1 l0_1 A0_2 c0_2 l0_2 false a0_4 _ _ (Kd.C_below HR1.out K2.out) HC1.out (Kd.C_below HR2.out K2.out) HC2.out HY.out).mono ?_; rintro e w3 ⟨rfl, h3⟩; have BR3 := Aside0.mk (blk_below BR2.out h3); have BD3 := Aside0.mk (blk_below BD2.out h3); have K3 := Aside0.mk (below_step K2.out h3); clear z0 z1 z2 z3 z4; obtain ⟨z0, z1, z2, z3, z4⟩ := cl5_ BD3; obtain ⟨r0, r1, r2, r3, r4⟩ := cl5_ BR3; obtain ⟨rf0, rf1, rf2, rf3, rf4⟩ := fz5_ BR3; clear h3 BR2 BD2 K2) | (go_at_call 28; refine (open_calls a0_0 A0_1 c0_1 l0_1 A0_2 c0_2 l0_2 false a0_4 q1 q2 q3 q4 q5 w _ K3.out (Kd.C_below HR1.out K3.out) HC1.out (Kd.C_below HR2.out K3.out) HC2.out HO.out).mono ?_; rintro e w4 ⟨g, a1_, b1_, a2_, b2_, rfl, hg4, h4, hd4⟩; have D4 := Aside0.mk hd4; have BR4 := Aside0.mk (blk_below BR3.out h4); have BD4 := Aside0.mk (blk_below BD3.out h4); have NG := Aside0.mk (show g ≠ gr from fun e => by have := blk_lt BR3.out; omega); have ND := Aside0.mk (show g ≠ gd from fun e => by have := blk_lt BD3.out; omega); clear z0 z1 z2 z3 z4 r0 r1 r2 r3 r4 rf0 rf1 rf2 rf3 rf4; obtain ⟨z0, z1, z2, z3, z4⟩ := cl5_ BD4; obtain ⟨r0, r1, r2, r3, r4⟩ := cl5_ BR4; obtain ⟨rf0, rf1, rf2, rf3, rf4⟩ := fz5_ BR4; have g0 : w4.cell? ⟨g, 0, none⟩ = some (.int .u32 q1) := (blk_cell D4.out.1 0).trans rfl; have g1 : w4.cell? ⟨g, 1, none⟩ = some (.slice a1_ q2.length b1_) := (blk_cell D4.out.1 1).trans rfl; have g2 : w4.cell? ⟨g, 2, none⟩ = some (.slice a2_ q3.length b2_) := (blk_cell D4.out.1 2).trans rfl; have g3 : w4.cell? ⟨g, 3, none⟩ = some (.bool q4) := (blk_cell D4.out.1 3).trans rfl; have g4 : w4.cell? ⟨g, 4, none⟩ = some (.int .i64 q5) := (blk_cell D4.out.1 4).trans rfl; clear h4 hd4 hg4 BR3 BD3 K3) | (go_at_call 30; refine (burn_at true D4.out.1 HDN.out).mono ?_; rintro e w5 ⟨rfl, hs5⟩; have D5 := Aside0.mk (D4.out.step hs5); have R5 := Aside0.mk ((hs5.2.1.2 gr (blk_lt BR4.out) (fun e => NG.out e.symm) (by simp)).trans BR4.out); clear g0 g1 g2 g3 g4 r0 r1 r2 r3 r4 rf0 rf1 rf2 rf3 rf4 z0 z1 z2 z3 z4; have g0 : w5.cell? ⟨g, 0, none⟩ = some (.int .u32 q1) := (blk_cell D5.out.1 0).trans rfl; have g1 : w5.cell? ⟨g, 1, none⟩ = some (.slice a1_ q2.length b1_) := (blk_cell D5.out.1 1).trans rfl; have g2 : w5.cell? ⟨g, 2, none⟩ = some (.slice a2_ q3.length b2_) := (blk_cell D5.out.1 2).trans rfl; have g3 : w5.cell? ⟨g, 3, none⟩ = some (.bool true) := (blk_cell D5.out.1 3).trans rfl; have g4 : w5.cell? ⟨g, 4, none⟩ = some (.int .i64 (fuseOf q5)) := (blk_cell D5.out.1 4).trans rfl; have r0 : w5.cell? ⟨gr, 0, none⟩ = some (.int .u32 0) := (blk_cell R5.out 0).trans rfl; have r1 : w5.cell? ⟨gr, 1, none⟩ = some (.slice none 0 0) := (blk_cell R5.out 1).trans rfl; have r2 : w5.cell? ⟨gr, 2, none⟩ = some (.slice none 0 0) := (blk_cell R5.out 2).trans rfl; have r3 : w5.cell? ⟨gr, 3, none⟩ = some (.bool false) := (blk_cell R5.out 3).trans rfl; have r4 : w5.cell? ⟨gr, 4, none⟩ = some (.int .i64 0) := (blk_cell R5.out 4).trans rfl; have rf0 : w5.frozen? ⟨gr, 0, none⟩ = false := blk_frozen R5.out 0; have rf1 : w5.frozen? ⟨gr, 1, none⟩ = false := blk_frozen R5.out 1; have rf2 : w5.frozen? ⟨gr, 2, none⟩ = false := blk_frozen R5.out 2; have rf3 : w5.frozen? ⟨gr, 3, none⟩ = false := blk_frozen R5.out 3; have rf4 : w5.frozen? ⟨gr, 4, none⟩ = false := blk_frozen R5.out 4; clear hs5 D4 BR4))
        have hs := res_dev D5.out R5.out GR.out
        refine bodyPost_ret (results_ct rfl _ _ gr 25 #[.int .u32 q1, .slice a1_ q2.length b1_, .slice a2_ q3.length b2_, .bool true, .int .i64 (fuseOf q5)] (0, 0) _ rfl hs.1 Tryd.underlying25 rfl (by kernel_rfl)) rfl ?_
        exact ⟨_, _, rfl, hs.2⟩
      · rw [if_neg hdn] at h
        replace hdn := Bool.eq_false_iff.mpr hdn
        have HDN := Aside0.mk hdn
        clear hdn
        replace h := Option.bind_eq_some_iff.mp h
        obtain ⟨b, hb, h⟩ := h
        simp only [Option.some.injEq, Prod.mk.injEq] at h
        obtain ⟨rfl, rfl, rfl, rfl, rfl, rfl⟩ := h
        have HP := Aside0.mk hb
        clear hb
        go_enter Tryd.func15, Tryd.ntmps15
        go_wp2_with (first | ((with_reducible refine gate_dst (N := 1) rfl ?_); refine bx_ (N := 1) (cs := #[.int .u32 a0_0, .slice A0_1 l0_1.length c0_1, .slice A0_2 l0_2.length c0_2, .bool false, .int .i64 a0_4]) (t := 25) ?_; intro gd hgd w1 hx hbx; have BD1 := Aside0.mk hx; have K1 := Aside0.mk hbx; have GD := Aside0.mk (show w.heap.size ≤ gd by omega); obtain ⟨z0, z1, z2, z3, z4⟩ := cl5_ BD1; clear hx hbx hgd) | ((with_reducible refine gate_dst (N := 2) rfl ?_); refine bx_ (N := 2) (cs := #[.int .u32 0, .slice none 0 0, .slice none 0 0, .bool false, .int .i64 0]) (t := 25) ?_; intro gr hgr w2 hx hbx; have BR2 := Aside0.mk hx; have BD2 := Aside0.mk (blk_below BD1.out hbx); have K2 := Aside0.mk (below_step K1.out hbx); have NE := Aside0.mk (show gr ≠ gd by rw [hgr]; exact fun e => Nat.lt_irrefl _ (e ▸ blk_lt BD1.out)); have GR := Aside0.mk (show w.heap.size ≤ gr by rw [hgr]; exact K1.out.size); clear z0 z1 z2 z3 z4; obtain ⟨z0, z1, z2, z3, z4⟩ := cl5_ BD2; clear hx hbx hgr K1 BD1) | (go_at_call 21; refine (dev_Check.calls k a0_0 A0_1 c0_1 l0_1 A0_2 c0_2 l0_2 false a0_4 _ _ (Kd.C_below HR1.out K2.out) HC1.out (Kd.C_below HR2.out K2.out) HC2.out HY.out).mono ?_; rintro e w3 ⟨rfl, h3⟩; have BR3 := Aside0.mk (blk_below BR2.out h3); have BD3 := Aside0.mk (blk_below BD2.out h3); have K3 := Aside0.mk (below_step K2.out h3); clear z0 z1 z2 z3 z4; obtain ⟨z0, z1, z2, z3, z4⟩ := cl5_ BD3; obtain ⟨r0, r1, r2, r3, r4⟩ := cl5_ BR3; obtain ⟨rf0, rf1, rf2, rf3, rf4⟩ := fz5_ BR3; clear h3 BR2 BD2 K2) | (go_at_call 28; refine (open_calls a0_0 A0_1 c0_1 l0_1 A0_2 c0_2 l0_2 false a0_4 q1 q2 q3 q4 q5 w _ K3.out (Kd.C_below HR1.out K3.out) HC1.out (Kd.C_below HR2.out K3.out) HC2.out HO.out).mono ?_; rintro e w4 ⟨g, a1_, b1_, a2_, b2_, rfl, hg4, h4, hd4⟩; have D4 := Aside0.mk hd4; have BR4 := Aside0.mk (blk_below BR3.out h4); have BD4 := Aside0.mk (blk_below BD3.out h4); have NG := Aside0.mk (show g ≠ gr from fun e => by have := blk_lt BR3.out; omega); have ND := Aside0.mk (show g ≠ gd from fun e => by have := blk_lt BD3.out; omega); clear z0 z1 z2 z3 z4 r0 r1 r2 r3 r4 rf0 rf1 rf2 rf3 rf4; obtain ⟨z0, z1, z2, z3, z4⟩ := cl5_ BD4; obtain ⟨r0, r1, r2, r3, r4⟩ := cl5_ BR4; obtain ⟨rf0, rf1, rf2, rf3, rf4⟩ := fz5_ BR4; have g0 : w4.cell? ⟨g, 0, none⟩ = some (.int .u32 q1) := (blk_cell D4.out.1 0).trans rfl; have g1 : w4.cell? ⟨g, 1, none⟩ = some (.slice a1_ q2.length b1_) := (blk_cell D4.out.1 1).trans rfl; have g2 : w4.cell? ⟨g, 2, none⟩ = some (.slice a2_ q3.length b2_) := (blk_cell D4.out.1 2).trans rfl; have g3 : w4.cell? ⟨g, 3, none⟩ = some (.bool q4) := (blk_cell D4.out.1 3).trans rfl; have g4 : w4.cell? ⟨g, 4, none⟩ = some (.int .i64 q5) := (blk_cell D4.out.1 4).trans rfl; clear h4 hd4 hg4 BR3 BD3 K3) | (go_at_call 30; refine (burn_at false D4.out.1 HDN.out).mono ?_; rintro e w5 ⟨rfl, hs5⟩; have D5 := Aside0.mk (D4.out.step hs5); have R5 := Aside0.mk ((hs5.2.1.2 gr (blk_lt BR4.out) (fun e => NG.out e.symm) (by simp)).trans BR4.out); clear g0 g1 g2 g3 g4 r0 r1 r2 r3 r4 rf0 rf1 rf2 rf3 rf4 z0 z1 z2 z3 z4; have g0 : w5.cell? ⟨g, 0, none⟩ = some (.int .u32 q1) := (blk_cell D5.out.1 0).trans rfl; have g1 : w5.cell? ⟨g, 1, none⟩ = some (.slice a1_ q2.length b1_) := (blk_cell D5.out.1 1).trans rfl; have g2 : w5.cell? ⟨g, 2, none⟩ = some (.slice a2_ q3.length b2_) := (blk_cell D5.out.1 2).trans rfl; have g3 : w5.cell? ⟨g, 3, none⟩ = some (.bool false) := (blk_cell D5.out.1 3).trans rfl; have g4 : w5.cell? ⟨g, 4, none⟩ = some (.int .i64 (fuseOf q5)) := (blk_cell D5.out.1 4).trans rfl; have r0 : w5.cell? ⟨gr, 0, none⟩ = some (.int .u32 0) := (blk_cell R5.out 0).trans rfl; have r1 : w5.cell? ⟨gr, 1, none⟩ = some (.slice none 0 0) := (blk_cell R5.out 1).trans rfl; have r2 : w5.cell? ⟨gr, 2, none⟩ = some (.slice none 0 0) := (blk_cell R5.out 2).trans rfl; have r3 : w5.cell? ⟨gr, 3, none⟩ = some (.bool false) := (blk_cell R5.out 3).trans rfl; have r4 : w5.cell? ⟨gr, 4, none⟩ = some (.int .i64 0) := (blk_cell R5.out 4).trans rfl; have rf0 : w5.frozen? ⟨gr, 0, none⟩ = false := blk_frozen R5.out 0; have rf1 : w5.frozen? ⟨gr, 1, none⟩ = false := blk_frozen R5.out 1; have rf2 : w5.frozen? ⟨gr, 2, none⟩ = false := blk_frozen R5.out 2; have rf3 : w5.frozen? ⟨gr, 3, none⟩ = false := blk_frozen R5.out 3; have rf4 : w5.frozen? ⟨gr, 4, none⟩ = false := blk_frozen R5.out 4; clear hs5 D4 BR4))
        have hql : (q3.length : Int) ≤ 9223372036854775807 := by
          obtain ⟨_, _, _, _, hC⟩ := Kd.R_reads D5.out.2.2.2.1
          have := Kd.C_max hC
          omega
        clear g0 g1 g2 g3 g4 r0 r1 r2 r3 r4 rf0 rf1 rf2 rf3 rf4
        go_loopw [33] (fun i wr => ∃ (x : Int) (vB : Value) (bl : List Blk), i = .int .i64 x ∧ Aside0 (0 ≤ x ∧ x ≤ q3.length) ∧ Aside0 (Drv w wr g q1 vB (.slice a2_ q3.length b2_) bl q3 false (fuseOf q5) 0) ∧ Aside0 (wr.heap[gr]? = some (.cells #[.int .u32 0, .slice none 0 0, .slice none 0 0, .bool false, .int .i64 0] 25 (0, 0))) ∧ Aside0 (putsF k bl (q3.drop x.toNat) = some b)) (fun i _ => q3.length - (intOf i).toNat)
        case atStart => exact ⟨0, _, _, rfl, ⟨by omega⟩, D5, R5, HP⟩
        case round =>
          obtain ⟨x, vB, bl, rfl, HX, HDW, HGR, HF⟩ := hrel
          obtain ⟨hx0, hx1⟩ := HX.out
          by_cases hlt : x < q3.length
          · obtain ⟨A0, c0, hA0, _, hC⟩ := Kd.R_reads HDW.out.2.2.2.1
            injection hA0 with hA1 hA2 hA3
            subst hA1
            subst hA3
            obtain ⟨ad, hA, k0, k1⟩ := at_T39 hC x hx0 hlt
            subst hA
            have hlt2 : decide (x < (q3.length : Int)) = true := decide_eq_true hlt
            have p0 := eq_true hx0
            have p1 := eq_true hlt
            obtain ⟨y, hy⟩ : ∃ y, y = rd_T39 q3 x := ⟨_, rfl⟩
            have hd : q3.drop x.toNat = y :: q3.drop (x + 1).toNat := by
              have hl : x.toNat < q3.length := by omega
              rw [List.drop_eq_getElem_cons hl, hy, show (x + 1).toNat = x.toNat + 1 by omega]
              congr 1
              unfold rd_T39
              rw [List.getD_eq_getElem?_getD, List.getElem?_eq_getElem hl]
              rfl
            have hF := HF.out
            rw [hd, putsF] at hF
            obtain ⟨b', hb', hF⟩ := Option.bind_eq_some_iff.mp hF
            rw [← hy] at k0 k1
            have HP' := Aside0.mk hb'
            have HG := Aside0.mk hF
            have DA : ∀ o, Drv w (wr.alloc o) g q1 vB (.slice (some ad) q3.length b2_) bl q3 false (fuseOf q5) 0 := fun o => HDW.out.below (below_alloc (Below.refl _ _) o)
            have DA' := Aside0.mk DA
            clear hb' hF hd hx0 hx1 hlt hy hC DA HP D5 R5
            go_wp2_with (go_at_call 31; refine (put_calls k g q1 _ _ false (fuseOf q5) 0 bl y b' w _ (DA'.out _).2.2.2.2 (DA'.out _).1 (DA'.out (.cells #[.int .u32 y.f0, .string y.f1] 39)).2.1 (Kd.R_mono (DA'.out _).2.2.1 (fun _ _ => trivial)) HP'.out).mono ?_; rintro e w6 ⟨rfl, vn, hb6, hO6, hB6, hK6⟩; have D6 := Aside0.mk ((DA'.out _).put hb6 hO6 hB6 hK6); have R6 := Aside0.mk (blk_kept (blk_alloc HGR.out _) hK6 (fun e => e.elim (fun q => NG.out q.symm) (own_ne HDW.out.2.2.1 HGR.out (by decide)))); clear hb6 hO6 hB6 hK6)
            have hx := HX.out
            have hl : x < q3.length := of_eq_true p1
            have ew : wrap64 (x + 1) = x + 1 := by unfold wrap64; omega
            go_roundw
            case rel =>
              exact ⟨x + 1, vn, b', by rw [ew], ⟨by omega⟩, D6, R6, HG⟩
            case measure =>
              simp [ew, intOf]
              omega
          · have hge : decide (x < (q3.length : Int)) = false := decide_eq_false hlt
            have hF := HF.out
            rw [List.drop_eq_nil_of_le (by omega), putsF] at hF
            obtain rfl := Option.some.inj hF
            obtain ⟨an_, bn_, rfl⟩ := Kd.R_slice HDW.out.2.2.1
            have n1 : ¬ g = gr := NG.out
            have n2 : ¬ gr = g := fun e => NG.out e.symm
            have DE := Aside0.mk HDW.out.empty
            have RE := Aside0.mk ((Below.heap_setCell wr ⟨g, 2, none⟩ (.slice none 0 0) gr n2).trans HGR.out)
            have g0 : wr.cell? ⟨g, 0, none⟩ = some (.int .u32 q1) := (blk_cell HDW.out.1 0).trans rfl; have g1 : wr.cell? ⟨g, 1, none⟩ = some (.slice an_ bl.length bn_) := (blk_cell HDW.out.1 1).trans rfl; have g2 : wr.cell? ⟨g, 2, none⟩ = some (.slice a2_ q3.length b2_) := (blk_cell HDW.out.1 2).trans rfl; have g3 : wr.cell? ⟨g, 3, none⟩ = some (.bool false) := (blk_cell HDW.out.1 3).trans rfl; have g4 : wr.cell? ⟨g, 4, none⟩ = some (.int .i64 (fuseOf q5)) := (blk_cell HDW.out.1 4).trans rfl
            have r0 : wr.cell? ⟨gr, 0, none⟩ = some (.int .u32 0) := (blk_cell HGR.out 0).trans rfl; have r1 : wr.cell? ⟨gr, 1, none⟩ = some (.slice none 0 0) := (blk_cell HGR.out 1).trans rfl; have r2 : wr.cell? ⟨gr, 2, none⟩ = some (.slice none 0 0) := (blk_cell HGR.out 2).trans rfl; have r3 : wr.cell? ⟨gr, 3, none⟩ = some (.bool false) := (blk_cell HGR.out 3).trans rfl; have r4 : wr.cell? ⟨gr, 4, none⟩ = some (.int .i64 0) := (blk_cell HGR.out 4).trans rfl; have rf0 : wr.frozen? ⟨gr, 0, none⟩ = false := blk_frozen HGR.out 0; have rf1 : wr.frozen? ⟨gr, 1, none⟩ = false := blk_frozen HGR.out 1; have rf2 : wr.frozen? ⟨gr, 2, none⟩ = false := blk_frozen HGR.out 2; have rf3 : wr.frozen? ⟨gr, 3, none⟩ = false := blk_frozen HGR.out 3; have rf4 : wr.frozen? ⟨gr, 4, none⟩ = false := blk_frozen HGR.out 4; have gf2 : wr.frozen? ⟨g, 2, none⟩ = false := blk_frozen HDW.out.1 2
            clear hF HF HP D5 R5
            go_wp2
            have hs := res_dev DE.out RE.out GR.out
            refine bodyPost_ret (results_ct rfl _ _ gr 25 #[.int .u32 q1, .slice an_ bl.length bn_, .slice none 0 0, .bool false, .int .i64 (fuseOf q5)] (0, 0) _ rfl hs.1 Tryd.underlying25 rfl (by kernel_rfl)) rfl ?_
            exact ⟨_, _, rfl, hs.2⟩
  · rw [if_neg h0] at h
    cases h
    have h0b : (r6 == 0) = false := beq_eq_false_iff_ne.mpr h0
    have h0c : (r6 != 0) = true := bne_iff_ne.mpr h0
    go_enter Tryd.func15, Tryd.ntmps15
    go_wp2_with (first | ((with_reducible refine gate_dst (N := 1) rfl ?_); refine bx_ (N := 1) (cs := #[.int .u32 a0_0, .slice A0_1 l0_1.length c0_1, .slice A0_2 l0_2.length c0_2, .bool a0_3, .int .i64 a0_4]) (t := 25) ?_; intro gd hgd w1 hx hbx; have BD1 := Aside0.mk hx; have K1 := Aside0.mk hbx; have GD := Aside0.mk (show w.heap.size ≤ gd by omega); obtain ⟨z0, z1, z2, z3, z4⟩ := cl5_ BD1; clear hx hbx hgd) | ((with_reducible refine gate_dst (N := 2) rfl ?_); refine bx_ (N := 2) (cs := #[.int .u32 0, .slice none 0 0, .slice none 0 0, .bool false, .int .i64 0]) (t := 25) ?_; intro gr hgr w2 hx hbx; have BR2 := Aside0.mk hx; have BD2 := Aside0.mk (blk_below BD1.out hbx); have K2 := Aside0.mk (below_step K1.out hbx); have NE := Aside0.mk (show gr ≠ gd by rw [hgr]; exact fun e => Nat.lt_irrefl _ (e ▸ blk_lt BD1.out)); have GR := Aside0.mk (show w.heap.size ≤ gr by rw [hgr]; exact K1.out.size); clear z0 z1 z2 z3 z4; obtain ⟨z0, z1, z2, z3, z4⟩ := cl5_ BD2; clear hx hbx hgr K1 BD1) | (go_at_call 21; refine (dev_Check.calls k a0_0 A0_1 c0_1 l0_1 A0_2 c0_2 l0_2 a0_3 a0_4 _ _ (Kd.C_below HR1.out K2.out) HC1.out (Kd.C_below HR2.out K2.out) HC2.out HY.out).mono ?_; rintro e w3 ⟨rfl, h3⟩; have BR3 := Aside0.mk (blk_below BR2.out h3); have BD3 := Aside0.mk (blk_below BD2.out h3); have K3 := Aside0.mk (below_step K2.out h3); clear z0 z1 z2 z3 z4; obtain ⟨z0, z1, z2, z3, z4⟩ := cl5_ BD3; obtain ⟨r0, r1, r2, r3, r4⟩ := cl5_ BR3; obtain ⟨rf0, rf1, rf2, rf3, rf4⟩ := fz5_ BR3; clear h3 BR2 BD2 K2))
    have hs := res_zero K3.out BR3.out GR.out
    refine bodyPost_ret (results_ct rfl _ _ gr 25 #[.int .u32 0, .slice none 0 0, .slice none 0 0, .bool false, .int .i64 0] (0, 0) _ rfl hs.1 Tryd.underlying25 rfl (by kernel_rfl)) rfl ?_
    exact ⟨_, _, rfl, Kd.R_nil _ _ _ _ _, Kd.R_nil _ _ _ _ _, hs.2⟩
end Go.Proofs.YtcphflfjhkeooaaDoor.Z
end

section
/- dev.Crash: printed by gendev.py. -/
namespace Go.Proofs.YtcphflfjhkeooaaDoor.Z
open Go.RowKit Go.Proofs.YtcphflfjhkeooaaDoorW.PrintWords Go.Proofs.YtcphflfjhkeooaaDoorW.PrintLast Go.Proofs.YtcphflfjhkeooaaDoorW.PrintMore
attribute [local go_sem] max2_int min2_int max_two min_two max_three min_three max_four min_four
set_option linter.unusedVariables false
set_option linter.unusedSimpArgs false
attribute [local go_sem ↓] Go.wp_at_zero Go.wp_at_succ
theorem res_rows {w0 w : World} {gr : Nat} {s f : Int} {d : Bool} {vB : Value} {bl : List Blk} {z0 z1 z2 z3 z4 : Value} (hO : Own w w0.heap.size (fun _ => True) vB bl) (hB : Below w0.heap.size w0 w) (hr : w.heap[gr]? = some (.cells #[z0, z1, z2, z3, z4] 25 (0, 0))) (hgr : w0.heap.size ≤ gr) :
    (((((w.setCell ⟨gr, 0, none⟩ (.int .u32 s)).setCell ⟨gr, 1, none⟩ vB).setCell ⟨gr, 2, none⟩ (.slice none 0 0)).setCell ⟨gr, 3, none⟩ (.bool d)).setCell ⟨gr, 4, none⟩ (.int .i64 f)).heap[gr]? = some (.cells #[.int .u32 s, vB, .slice none 0 0, .bool d, .int .i64 f] 25 (0, 0)) ∧
    Own (((((w.setCell ⟨gr, 0, none⟩ (.int .u32 s)).setCell ⟨gr, 1, none⟩ vB).setCell ⟨gr, 2, none⟩ (.slice none 0 0)).setCell ⟨gr, 3, none⟩ (.bool d)).setCell ⟨gr, 4, none⟩ (.int .i64 f)) w0.heap.size (fun k_ => some k_ ≠ (.slice none 0 0 : Value).ownBlock) vB bl ∧
    Below w0.heap.size w0 (((((w.setCell ⟨gr, 0, none⟩ (.int .u32 s)).setCell ⟨gr, 1, none⟩ vB).setCell ⟨gr, 2, none⟩ (.slice none 0 0)).setCell ⟨gr, 3, none⟩ (.bool d)).setCell ⟨gr, 4, none⟩ (.int .i64 f)) := by
  have hs := (((((Step.refl hr).set 0 (.int .u32 s) rfl).set 1 vB rfl).set 2 (.slice none 0 0) rfl).set 3 (.bool d) rfl).set 4 (.int .i64 f) rfl
  exact ⟨hs.1, Kd.R_mono (Kd.R_keep (Kd.R_types hO hr (by decide)) hs.2.1 (fun _ hk => hk.2)) (fun _ _ e => by cases e), hB.trans (hs.2.2 _ hgr)⟩
def keepF (k : Nat) : List Blk → List Blk → List Bool → Option (List Blk)
  | bl, x :: wl, t :: l => if t = true then (putF k bl x).bind fun b => keepF k b wl l else keepF k bl wl l
  | bl, _, _ => some bl
theorem keepF_mono : ∀ a1 a0 a2 k, LeO (keepF k a0 a1 a2) (keepF (k + 1) a0 a1 a2) := by
  intro a1
  induction a1 with
  | nil => intro a0 a2 k; cases a2 <;> exact LeO.refl _
  | cons x wl ih =>
    intro a0 a2 k
    cases a2 with
    | nil => exact LeO.refl _
    | cons t l => exact LeO.ite (LeO.bind (putF_mono _ _ _) (fun _ => ih _ _ _)) (ih _ _ _)
def dev_Crash.f (k : Nat) (a0_0 : Int) (l0_1 : List (S39)) (l0_2 : List (S39)) (a0_3 : Bool) (a0_4 : Int) (l1 : List Bool) : Option (Int × (List (S39)) × (List (S39)) × Bool × Int × Int) :=
  (dev_Check.f k a0_0 l0_1 l0_2 a0_3 a0_4).bind fun y => if y = 0 then ((dev_Own.f a0_0 l0_1 l0_2 a0_3 a0_4).bind fun q => (keepF k q.2.1 q.2.2.1 l1).bind fun b => some (q.1, b, ([] : List (S39)), false, (-1 : Int), 0)) else some (0, ([] : List (S39)), ([] : List (S39)), false, 0, y)
theorem dev_Crash.mono : ∀ a0 a1 a2 a3 a4 a5 k, LeO (dev_Crash.f k a0 a1 a2 a3 a4 a5) (dev_Crash.f (k + 1) a0 a1 a2 a3 a4 a5) := by
  intro a0 a1 a2 a3 a4 a5 k
  unfold dev_Crash.f
  exact LeO.bind (dev_Check.mono _ _ _ _ _ _) (fun _ => LeO.ite (LeO.bind (LeO.refl _) (fun _ => LeO.bind (keepF_mono _ _ _ _) (fun _ => LeO.refl _))) (LeO.refl _))
set_option maxRecDepth 100000 in
set_option maxHeartbeats 6400000 in
theorem dev_Crash.calls (k : Nat) (a0_0 : Int) (A0_1 : Option Addr) (c0_1 : Nat) (l0_1 : List (S39)) (A0_2 : Option Addr) (c0_2 : Nat) (l0_2 : List (S39)) (a0_3 : Bool) (a0_4 : Int) (A1 : Option Addr) (c1 : Nat) (l1 : List Bool) (r1 : Int) (r2 : List (S39)) (r3 : List (S39)) (r4 : Bool) (r5 : Int) (r6 : Int) (w : World) (hr0_1 : Kd.C k39 w A0_1 l0_1.length l0_1) (hc0_1 : l0_1.length ≤ c0_1) (hr0_2 : Kd.C k39 w A0_2 l0_2.length l0_2) (hc0_2 : l0_2.length ≤ c0_2) (hr1 : Kd.C Kd.bool w A1 l1.length l1) (hc1 : l1.length ≤ c1) (h : dev_Crash.f k a0_0 l0_1 l0_2 a0_3 a0_4 l1 = some (r1, r2, r3, r4, r5, r6)) :
    Calls Tryd.prog 23 #[.agg #[.int .u32 a0_0, .slice A0_1 l0_1.length c0_1, .slice A0_2 l0_2.length c0_2, .bool a0_3, .int .i64 a0_4], .slice A1 l1.length c1] w fun e w' => ∃ v1_ v2_ : Value, e = .returned (.tuple #[.agg #[.int .u32 r1, v1_, v2_, .bool r4, .int .i64 r5], .int .i64 r6]) ∧ Kd.R k39 39 w' w.heap.size (fun k_ => some k_ ≠ (v2_ : Value).ownBlock) v1_ r2 ∧ Kd.R k39 39 w' w.heap.size (fun k_ => some k_ ≠ (v1_ : Value).ownBlock) v2_ r3 ∧ Below w.heap.size w w' := by
  have HR1 := Aside0.mk hr0_1
  have HR2 := Aside0.mk hr0_2
  have HC1 := Aside0.mk hc0_1
  have HC2 := Aside0.mk hc0_2
  clear hr0_1 hr0_2 hc0_1 hc0_2
  unfold dev_Crash.f at h
  replace h := Option.bind_eq_some_iff.mp h
  obtain ⟨y, hy, h⟩ := h
  have HY := Aside0.mk hy
  clear hy
  by_cases h0 : y = 0
  · rw [if_pos h0] at h
    subst h0
    replace h := Option.bind_eq_some_iff.mp h
    obtain ⟨⟨q1, q2, q3, q4, q5⟩, hq, h⟩ := h
    have HO := Aside0.mk hq
    clear hq
    replace h : ((keepF k q2 q3 l1).bind fun b => some (q1, b, ([] : List (S39)), false, (-1 : Int), 0)) = some (r1, r2, r3, r4, r5, r6) := h
    replace h := Option.bind_eq_some_iff.mp h
    obtain ⟨b, hb, h⟩ := h
    simp only [Option.some.injEq, Prod.mk.injEq] at h
    obtain ⟨rfl, rfl, rfl, rfl, rfl, rfl⟩ := h
    have HP := Aside0.mk hb
    have HL := Aside0.mk hr1
    have HLC := Aside0.mk hc1
    clear hb hr1 hc1
    go_enter Tryd.func23, Tryd.ntmps23
    go_wp2_with (first | ((with_reducible refine gate_dst (N := 2) rfl ?_); refine bx_ (N := 2) (cs := #[.int .u32 a0_0, .slice A0_1 l0_1.length c0_1, .slice A0_2 l0_2.length c0_2, .bool a0_3, .int .i64 a0_4]) (t := 25) ?_; intro gd hgd w1 hx hbx; have BD1 := Aside0.mk hx; have K1 := Aside0.mk hbx; have GD := Aside0.mk (show w.heap.size ≤ gd by omega); obtain ⟨z0, z1, z2, z3, z4⟩ := cl5_ BD1; clear hx hbx hgd) | ((with_reducible refine gate_dst (N := 4) rfl ?_); refine bx_ (N := 4) (cs := #[.int .u32 0, .slice none 0 0, .slice none 0 0, .bool false, .int .i64 0]) (t := 25) ?_; intro gr hgr w2 hx hbx; have BR2 := Aside0.mk hx; have BD2 := Aside0.mk (blk_below BD1.out hbx); have K2 := Aside0.mk (below_step K1.out hbx); have NE := Aside0.mk (show gr ≠ gd by rw [hgr]; exact fun e => Nat.lt_irrefl _ (e ▸ blk_lt BD1.out)); have GR := Aside0.mk (show w.heap.size ≤ gr by rw [hgr]; exact K1.out.size); clear z0 z1 z2 z3 z4; obtain ⟨z0, z1, z2, z3, z4⟩ := cl5_ BD2; clear hx hbx hgr K1 BD1) | (go_at_call 21; refine (dev_Check.calls k a0_0 A0_1 c0_1 l0_1 A0_2 c0_2 l0_2 a0_3 a0_4 _ _ (Kd.C_below HR1.out K2.out) HC1.out (Kd.C_below HR2.out K2.out) HC2.out HY.out).mono ?_; rintro e w3 ⟨rfl, h3⟩; have BR3 := Aside0.mk (blk_below BR2.out h3); have BD3 := Aside0.mk (blk_below BD2.out h3); have K3 := Aside0.mk (below_step K2.out h3); clear z0 z1 z2 z3 z4; obtain ⟨z0, z1, z2, z3, z4⟩ := cl5_ BD3; obtain ⟨r0, r1, r2, r3, r4⟩ := cl5_ BR3; obtain ⟨rf0, rf1, rf2, rf3, rf4⟩ := fz5_ BR3; clear h3 BR2 BD2 K2) | (go_at_call 28; refine (open_calls a0_0 A0_1 c0_1 l0_1 A0_2 c0_2 l0_2 a0_3 a0_4 q1 q2 q3 q4 q5 w _ K3.out (Kd.C_below HR1.out K3.out) HC1.out (Kd.C_below HR2.out K3.out) HC2.out HO.out).mono ?_; rintro e w4 ⟨g, a1_, b1_, a2_, b2_, rfl, hg4, h4, hd4⟩; have D4 := Aside0.mk hd4; have BR4 := Aside0.mk (blk_below BR3.out h4); have BD4 := Aside0.mk (blk_below BD3.out h4); have NG := Aside0.mk (show g ≠ gr from fun e => by have := blk_lt BR3.out; omega); have ND := Aside0.mk (show g ≠ gd from fun e => by have := blk_lt BD3.out; omega); clear z0 z1 z2 z3 z4 r0 r1 r2 r3 r4 rf0 rf1 rf2 rf3 rf4; obtain ⟨z0, z1, z2, z3, z4⟩ := cl5_ BD4; obtain ⟨r0, r1, r2, r3, r4⟩ := cl5_ BR4; obtain ⟨rf0, rf1, rf2, rf3, rf4⟩ := fz5_ BR4; have g0 : w4.cell? ⟨g, 0, none⟩ = some (.int .u32 q1) := (blk_cell D4.out.1 0).trans rfl; have g1 : w4.cell? ⟨g, 1, none⟩ = some (.slice a1_ q2.length b1_) := (blk_cell D4.out.1 1).trans rfl; have g2 : w4.cell? ⟨g, 2, none⟩ = some (.slice a2_ q3.length b2_) := (blk_cell D4.out.1 2).trans rfl; have g3 : w4.cell? ⟨g, 3, none⟩ = some (.bool q4) := (blk_cell D4.out.1 3).trans rfl; have g4 : w4.cell? ⟨g, 4, none⟩ = some (.int .i64 q5) := (blk_cell D4.out.1 4).trans rfl; clear h4 hd4 hg4 BR3 BD3 K3))
    clear r0 r1 r2 r3 r4 rf0 rf1 rf2 rf3 rf4 z0 z1 z2 z3 z4
    have hDd := Aside0.mk D4.out.drew
    have hRd := Aside0.mk (blk_drew BR4.out)
    have hqc : q3.length ≤ b2_ ∧ (q3.length : Int) ≤ 9223372036854775807 := by
      obtain ⟨A0, c0, hA0, hle, hC⟩ := Kd.R_reads hDd.out.2.2.2.1
      injection hA0 with hA1 hA2 hA3
      have := Kd.C_max hC
      exact ⟨by omega, by omega⟩
    obtain ⟨mm, hmm, hmq, hml, hmo⟩ : ∃ mm : Nat, (if q3.length < l1.length then (q3.length : Int) else (l1.length : Int)) = (mm : Int) ∧ mm ≤ q3.length ∧ mm ≤ l1.length ∧ (mm = q3.length ∨ mm = l1.length) := by
      by_cases hc : q3.length < l1.length
      · exact ⟨q3.length, if_pos hc, by omega, by omega, .inl rfl⟩
      · exact ⟨l1.length, if_neg hc, by omega, by omega, .inr rfl⟩
    have hmb : mm ≤ b2_ := Nat.le_trans hmq hqc.1
    have hmb0 : (0 : Int) ≤ (mm : Int) := by omega
    have hmb1 : (mm : Int) ≤ (b2_ : Int) := by omega
    have MQ := Aside0.mk hmq
    have ML := Aside0.mk hml
    have MO := Aside0.mk hmo
    have QC := Aside0.mk hqc
    clear hmq hml hmo hqc
    refine start_ (n := 17) (S := fun w' => w'.cell? ⟨g, 2, none⟩ = some (.slice a2_ q3.length b2_) ∧ w'.cell? ⟨g, 0, none⟩ = some (.int .u32 q1)) (ds := []) #[false, false, false, false, false, false, false, false, false, false, false, false, false, false, false, false, false] (by kernel_rfl) rfl rfl ⟨g2, g0⟩ (fun hHeld => ?_)
    clear g0 g1 g2 g3 g4 D4 BR4 BD4
    generalize w4.drew = wd at hDd hRd hHeld ⊢
    refine pu_ 0 18 ?_
    refine pu_ 1 19 ?_
    refine pu_ 2 20 ?_
    refine pu_ 3 21 ?_
    refine tk2_ 4 22 ?_
    refine pu_ 5 23 ?_
    refine pu_ 6 24 ?_
    refine pu_ 7 25 ?_
    refine pu_ 8 26 ?_
    refine pu_ 9 27 ?_
    refine pu_ 10 28 ?_
    refine tk2_ 11 29 ?_
    refine pu_ 12 30 ?_
    refine pu_ 13 31 ?_
    refine pu_ 14 32 ?_
    refine pu_ 15 33 ?_
    refine pu_ 16 34 ?_
    refine done_ (by kernel_rfl) ?_
    clear hmm hmb hmb0 hmb1
    go_wp2
    go_loopw [34] (fun i wr => ∃ (x : Int) (vB : Value) (bl : List Blk), i = .int .i64 x ∧ Aside0 (0 ≤ x ∧ x ≤ mm) ∧ Aside0 (Drv w wr g q1 vB (.slice a2_ q3.length b2_) bl q3 q4 q5 0) ∧ Aside0 (wr.heap[gr]? = some (.cells #[.int .u32 0, .slice none 0 0, .slice none 0 0, .bool false, .int .i64 0] 25 (0, 0))) ∧ Aside0 (keepF k bl (q3.drop x.toNat) (l1.drop x.toNat) = some b)) (fun i _ => mm - (intOf i).toNat)
    case atStart => exact ⟨0, _, _, rfl, ⟨by omega⟩, hDd, hRd, HP⟩
    case round =>
      obtain ⟨x, vB, bl, rfl, HX, HDW, HGR, HF⟩ := hrel
      obtain ⟨hx0, hx1⟩ := HX.out
      by_cases hlt : x < mm
      · obtain ⟨A0, c0, hA0, _, hC⟩ := Kd.R_reads HDW.out.2.2.2.1
        injection hA0 with hA1 hA2 hA3
        subst hA1
        subst hA3
        have hltq : x < (q3.length : Int) := by have := MQ.out; omega
        have hltl : x < (l1.length : Int) := by have := ML.out; omega
        obtain ⟨ad, hA, k0, k1⟩ := at_T39 hC x hx0 hltq
        subst hA
        obtain ⟨ab, hA, kb⟩ := Kd.at_bool (Kd.C_below HL.out HDW.out.2.2.2.2) x hx0 hltl
        subst hA
        have hlt2 : decide (x < (mm : Int)) = true := decide_eq_true hlt
        have p0 := eq_true hx0
        have p1 := eq_true hlt
        have p2 := eq_true hltl
        obtain ⟨y, hy⟩ : ∃ y, y = rd_T39 q3 x := ⟨_, rfl⟩
        obtain ⟨t, ht⟩ : ∃ t, t = rdOf false l1 x := ⟨_, rfl⟩
        have hd : q3.drop x.toNat = y :: q3.drop (x + 1).toNat := by
          have hl : x.toNat < q3.length := by omega
          rw [List.drop_eq_getElem_cons hl, hy, show (x + 1).toNat = x.toNat + 1 by omega]
          congr 1
          unfold rd_T39
          rw [List.getD_eq_getElem?_getD, List.getElem?_eq_getElem hl]
          rfl
        have hd2 : l1.drop x.toNat = t :: l1.drop (x + 1).toNat := by
          have hl : x.toNat < l1.length := by omega
          rw [List.drop_eq_getElem_cons hl, ht, show (x + 1).toNat = x.toNat + 1 by omega]
          congr 1
          unfold rdOf
          rw [List.getD_eq_getElem?_getD, List.getElem?_eq_getElem hl]
          rfl
        have hF := HF.out
        rw [hd, hd2, keepF] at hF
        rw [← hy] at k0 k1
        rw [← ht] at kb
        have kb' := ((below_alloc (Below.refl wr.heap.size wr) (.cells #[.int .u32 y.f0, .string y.f1] 39 (0, 0))).cell (World.block_lt_of_cell? wr _ kb)).trans kb
        have DA : ∀ o, Drv w (wr.alloc o) g q1 vB (.slice (some ad) q3.length b2_) bl q3 q4 q5 0 := fun o => HDW.out.below (below_alloc (Below.refl _ _) o)
        have DA' := Aside0.mk DA
        clear hd hd2 hx0 hx1 hlt hltq hltl hy hC DA HP hDd hRd ht kb
        cases t with
        | true =>
          rw [if_pos rfl] at hF
          obtain ⟨b', hb', hF⟩ := Option.bind_eq_some_iff.mp hF
          have HP' := Aside0.mk hb'
          have HG := Aside0.mk hF
          clear hb' hF
          go_wp2_with (go_at_call 31; refine (put_calls k g q1 _ _ q4 q5 0 bl y b' w _ (DA'.out _).2.2.2.2 (DA'.out _).1 (DA'.out (.cells #[.int .u32 y.f0, .string y.f1] 39)).2.1 (Kd.R_mono (DA'.out _).2.2.1 (fun _ _ => trivial)) HP'.out).mono ?_; rintro e w6 ⟨rfl, vn, hb6, hO6, hB6, hK6⟩; have D6 := Aside0.mk ((DA'.out _).put hb6 hO6 hB6 hK6); have R6 := Aside0.mk (blk_kept (blk_alloc HGR.out _) hK6 (fun e => e.elim (fun q => NG.out q.symm) (own_ne HDW.out.2.2.1 HGR.out (by decide)))); clear hb6 hO6 hB6 hK6)
          have hx := HX.out
          have hl : x < mm := of_eq_true p1
          have hm := QC.out
          have hm2 := MQ.out
          have ew : wrap64 (x + 1) = x + 1 := by unfold wrap64; omega
          go_roundw
          case rel => exact ⟨x + 1, vn, b', by rw [ew], ⟨by omega⟩, D6, R6, HG⟩
          case measure =>
            simp [ew, intOf]
            omega
        | false =>
          rw [if_neg (by decide)] at hF
          have HG := Aside0.mk hF
          clear hF
          go_wp2
          have hx := HX.out
          have hl : x < mm := of_eq_true p1
          have hm := QC.out
          have hm2 := MQ.out
          have ew : wrap64 (x + 1) = x + 1 := by unfold wrap64; omega
          go_roundw
          case rel => exact ⟨x + 1, vB, bl, by rw [ew], ⟨by omega⟩, ⟨DA'.out _⟩, ⟨blk_alloc HGR.out _⟩, HG⟩
          case measure =>
            simp [ew, intOf]
            omega
      · have hge : decide (x < (mm : Int)) = false := decide_eq_false hlt
        have hF := HF.out
        have hxm : x.toNat = mm := by omega
        have he : keepF k bl (q3.drop x.toNat) (l1.drop x.toNat) = some bl := by
          rw [hxm]
          rcases MO.out with e | e
          · rw [e, List.drop_length]; cases l1.drop q3.length <;> rfl
          · rw [e, List.drop_length]; cases q3.drop l1.length <;> rfl
        rw [he] at hF
        obtain rfl := Option.some.inj hF
        obtain ⟨an_, bn_, rfl⟩ := Kd.R_slice HDW.out.2.2.1
        have hDe := Aside0.mk HDW.out.drew
        have hRe := Aside0.mk (blk_drew HGR.out)
        have n1 : ¬ g = gr := NG.out
        have n2 : ¬ gr = g := fun e => NG.out e.symm
        have g0 : wr.cell? ⟨g, 0, none⟩ = some (.int .u32 q1) := (blk_cell HDW.out.1 0).trans rfl
        have g1 : wr.cell? ⟨g, 1, none⟩ = some (.slice an_ bl.length bn_) := (blk_cell HDW.out.1 1).trans rfl
        clear hF he HF HP hDd hRd
        go_wp2
        refine start_ (n := 13) (S := fun w' => w'.cell? ⟨g, 0, none⟩ = some (.int .u32 q1) ∧ w'.cell? ⟨g, 1, none⟩ = some (.slice an_ bl.length bn_)) (ds := [11]) #[false, false, false, false, false, false, false, false, false, false, false, false, false] (by kernel_rfl) rfl rfl ⟨g0, g1⟩ (fun hHeld => ?_)
        generalize wr.drew = we at hDe hRe hHeld ⊢
        refine pu_ 0 47 ?_
        refine pu_ 1 48 ?_
        refine pu_ 2 49 ?_
        refine pu_ 3 50 ?_
        refine tk2_ 4 51 ?_
        refine pu_ 5 52 ?_
        refine pu_ 6 53 ?_
        refine pu_ 7 54 ?_
        refine pu_ 8 55 ?_
        refine tk2_ 9 56 ?_
        refine pu_ 10 57 ?_
        have r0 : we.cell? ⟨gr, 0, none⟩ = some (.int .u32 0) := (blk_cell hRe.out 0).trans rfl; have r1 : we.cell? ⟨gr, 1, none⟩ = some (.slice none 0 0) := (blk_cell hRe.out 1).trans rfl; have r2 : we.cell? ⟨gr, 2, none⟩ = some (.slice none 0 0) := (blk_cell hRe.out 2).trans rfl; have r3 : we.cell? ⟨gr, 3, none⟩ = some (.bool false) := (blk_cell hRe.out 3).trans rfl; have r4 : we.cell? ⟨gr, 4, none⟩ = some (.int .i64 0) := (blk_cell hRe.out 4).trans rfl; have rf0 : we.frozen? ⟨gr, 0, none⟩ = false := blk_frozen hRe.out 0; have rf1 : we.frozen? ⟨gr, 1, none⟩ = false := blk_frozen hRe.out 1; have rf2 : we.frozen? ⟨gr, 2, none⟩ = false := blk_frozen hRe.out 2; have rf3 : we.frozen? ⟨gr, 3, none⟩ = false := blk_frozen hRe.out 3; have rf4 : we.frozen? ⟨gr, 4, none⟩ = false := blk_frozen hRe.out 4
        refine last_ (i := 11) (N := none) #[true, true, true, true, true, true, true, true, true, true, true, true, false] rfl rfl (by kernel_rfl) (by decide) (fun K hK => ?_)
        refine skip_ (w1 := ?_) (by rfl) rfl ?_ ?_
        rotate_left
        · go_simp
          rfl
        refine hK.out _ _ ?_
        clear hK K
        refine pu_ 12 5 ?_
        refine done_ (by kernel_rfl) ?_
        try go_wp2
        have hs := res_rows (s := q1) (f := -1) (d := false) (Kd.R_mono hDe.out.2.2.1 (fun _ _ => trivial)) hDe.out.2.2.2.2 hRe.out GR.out
        refine bodyPost_ret (results_ct rfl _ _ gr 25 #[.int .u32 q1, .slice an_ bl.length bn_, .slice none 0 0, .bool false, .int .i64 (-1)] (0, 0) _ rfl hs.1 Tryd.underlying25 rfl (by kernel_rfl)) rfl ?_
        exact ⟨_, _, rfl, hs.2.1, Kd.R_nil _ _ _ _ _, hs.2.2⟩
  · rw [if_neg h0] at h
    cases h
    have h0b : (r6 == 0) = false := beq_eq_false_iff_ne.mpr h0
    have h0c : (r6 != 0) = true := bne_iff_ne.mpr h0
    go_enter Tryd.func23, Tryd.ntmps23
    go_wp2_with (first | ((with_reducible refine gate_dst (N := 2) rfl ?_); refine bx_ (N := 2) (cs := #[.int .u32 a0_0, .slice A0_1 l0_1.length c0_1, .slice A0_2 l0_2.length c0_2, .bool a0_3, .int .i64 a0_4]) (t := 25) ?_; intro gd hgd w1 hx hbx; have BD1 := Aside0.mk hx; have K1 := Aside0.mk hbx; have GD := Aside0.mk (show w.heap.size ≤ gd by omega); obtain ⟨z0, z1, z2, z3, z4⟩ := cl5_ BD1; clear hx hbx hgd) | ((with_reducible refine gate_dst (N := 4) rfl ?_); refine bx_ (N := 4) (cs := #[.int .u32 0, .slice none 0 0, .slice none 0 0, .bool false, .int .i64 0]) (t := 25) ?_; intro gr hgr w2 hx hbx; have BR2 := Aside0.mk hx; have BD2 := Aside0.mk (blk_below BD1.out hbx); have K2 := Aside0.mk (below_step K1.out hbx); have NE := Aside0.mk (show gr ≠ gd by rw [hgr]; exact fun e => Nat.lt_irrefl _ (e ▸ blk_lt BD1.out)); have GR := Aside0.mk (show w.heap.size ≤ gr by rw [hgr]; exact K1.out.size); clear z0 z1 z2 z3 z4; obtain ⟨z0, z1, z2, z3, z4⟩ := cl5_ BD2; clear hx hbx hgr K1 BD1) | (go_at_call 21; refine (dev_Check.calls k a0_0 A0_1 c0_1 l0_1 A0_2 c0_2 l0_2 a0_3 a0_4 _ _ (Kd.C_below HR1.out K2.out) HC1.out (Kd.C_below HR2.out K2.out) HC2.out HY.out).mono ?_; rintro e w3 ⟨rfl, h3⟩; have BR3 := Aside0.mk (blk_below BR2.out h3); have BD3 := Aside0.mk (blk_below BD2.out h3); have K3 := Aside0.mk (below_step K2.out h3); clear z0 z1 z2 z3 z4; obtain ⟨z0, z1, z2, z3, z4⟩ := cl5_ BD3; obtain ⟨r0, r1, r2, r3, r4⟩ := cl5_ BR3; obtain ⟨rf0, rf1, rf2, rf3, rf4⟩ := fz5_ BR3; clear h3 BR2 BD2 K2))
    have hs := res_zero K3.out BR3.out GR.out
    refine bodyPost_ret (results_ct rfl _ _ gr 25 #[.int .u32 0, .slice none 0 0, .slice none 0 0, .bool false, .int .i64 0] (0, 0) _ rfl hs.1 Tryd.underlying25 rfl (by kernel_rfl)) rfl ?_
    exact ⟨_, _, rfl, Kd.R_nil _ _ _ _ _, Kd.R_nil _ _ _ _ _, hs.2⟩
end Go.Proofs.YtcphflfjhkeooaaDoor.Z
end

section
/- What the functions of package dev come to. -/
namespace Go.Proofs.YtcphflfjhkeooaaDoor.Z
open Go.RowKit Go.Proofs.YtcphflfjhkeooaaDoorW.PrintWords Go.Proofs.YtcphflfjhkeooaaDoorW.PrintLast
set_option linter.unusedVariables false
theorem rd_get (l : List Bk) (i : Nat) (h : i < l.length) : rd_T39 l (i : Int) = l[i] := by
  unfold rd_T39
  rw [Int.toNat_natCast, List.getD_eq_getElem?_getD, List.getElem?_eq_getElem h]; rfl
def Num0 (l : List Bk) : Prop := ∀ x ∈ l, 0 ≤ x.f0
theorem cut_f (a : ByteArray) (h : a.size ≤ 9223372036854775807) : dev_cut.f a = some (trimB a) := by
  unfold dev_cut.f strings_TrimRight.f
  rw [if_pos ⟨rfl, h⟩]; rfl
theorem right_f (x : Bk) (s : Int) (h0 : 0 ≤ x.f0) : ∃ b, dev_right.f x.f0 x.f1 s = some b ∧ (b = true ↔ okB s x) := by
  unfold dev_right.f okB
  by_cases h1 : x.f0 < s
  · rw [if_pos h1]
    by_cases h2 : (x.f1.size : Int) ≤ 512
    · rw [if_pos h2, cut_f _ (by omega)]
      refine ⟨_, rfl, ?_⟩
      rw [beq_iff_eq]
      constructor
      · intro h; exact ⟨h0, h1, by omega, bytes_inj h⟩
      · intro h; rw [h.2.2.2]
    · rw [if_neg h2]; exact ⟨false, rfl, by simp; omega⟩
  · rw [if_neg h1]; exact ⟨false, rfl, by simp; omega⟩
theorem any_f (s : Int) : ∀ (l : List Bk), Num0 l → ∃ b, anyF l s = some b ∧ (b = true ↔ ¬ ∀ x ∈ l, okB s x)
  | [], _ => ⟨false, rfl, by simp⟩
  | x :: l, h => by
    obtain ⟨b, hb, hi⟩ := right_f x s (h x (by simp))
    obtain ⟨c, hc, hj⟩ := any_f s l (fun y hy => h y (by simp [hy]))
    unfold anyF
    rw [hb]
    cases b with
    | true => exact ⟨c, by simp [hc], by rw [hj]; simp [hi.1 rfl]⟩
    | false =>
      have : ¬ okB s x := fun e => by cases hi.2 e
      exact ⟨true, by simp, by simp [this]⟩
/-- What Check asks of the blocks from a place on. -/
def OkFrom (s : Int) (bl : List Bk) (i : Nat) : Prop := ∀ j (h : j < bl.length), i ≤ j → okB s bl[j] ∧ bl[j].f1.size ≠ 0 ∧ ∀ q (e : j = q + 1), (bl[q]'(by omega)).f0 < bl[j].f0
theorem okFrom_succ {s : Int} {bl : List Bk} {i : Nat} (h : i < bl.length) : OkFrom s bl i ↔ (okB s bl[i] ∧ bl[i].f1.size ≠ 0 ∧ ∀ q (e : i = q + 1), (bl[q]'(by omega)).f0 < bl[i].f0) ∧ OkFrom s bl (i + 1) := by
  unfold OkFrom
  constructor
  · intro hh; exact ⟨hh i h (Nat.le_refl _), fun j hj hij => hh j hj (by omega)⟩
  · rintro ⟨h1, h2⟩ j hj hij
    rcases Nat.lt_or_ge i j with hlt | hge
    · exact h2 j hj hlt
    · have : j = i := by omega
      subst this; exact h1
theorem okFrom_zero {s : Int} {bl : List Bk} : OkFrom s bl 0 ↔ okBl s bl := by
  unfold OkFrom okBl
  rw [← asc_steps]
  constructor
  · intro h
    refine ⟨fun j hj => (h (j + 1) hj (by omega)).2.2 j rfl, fun x hx => ?_⟩
    obtain ⟨i, hi, rfl⟩ := List.mem_iff_getElem.1 hx
    exact ⟨(h i hi (by omega)).1, (h i hi (by omega)).2.1⟩
  · rintro ⟨h1, h2⟩ j hj _
    refine ⟨(h2 _ (List.getElem_mem hj)).1, (h2 _ (List.getElem_mem hj)).2, fun q e => ?_⟩
    subst e
    exact h1 q hj
theorem okFrom_end {s : Int} {bl : List Bk} {i : Nat} (h : bl.length ≤ i) : OkFrom s bl i := fun j hj hij => by omega
def ckC (b : Bool) : Int := if b = true then 0 else 7
theorem dCheck_l0 (s : Int) (bl wl : List Bk) (d : Bool) (f : Int) (hb : Num0 bl) (hw : Num0 wl) (hl : bl.length ≤ maxLen) : ∀ dd i : Nat, bl.length = i + dd → ∀ c : Bool,
    ∃ b, Ev (fun k => dev_Check.l0 k c bl (bl.length : Int) (i : Int) s bl wl d f) (ckC b) ∧ (b = true ↔ c = true ∧ OkFrom s bl i ∧ ∀ x ∈ wl, okB s x)
  | 0, i, hi, c => by
    have hge : ¬ ((i : Int) < (bl.length : Int)) := by omega
    cases c with
    | false =>
      refine ⟨false, Ev.step (fun k => by rw [dev_Check.l0]) ?_, by simp⟩
      exact Ev.ifn hge (Ev.ifn (by simp) (Ev.const rfl))
    | true =>
      obtain ⟨b, hb2, hbi⟩ := any_f s wl hw
      have ho : OkFrom s bl i := okFrom_end (by omega)
      refine ⟨!b, Ev.step (fun k => by rw [dev_Check.l0]) ?_, ?_⟩
      · refine Ev.ifn hge (Ev.ifp rfl (Ev.bindc (show slices_ContainsFunc_api_Block_api_Block.f wl s bl wl d f = some b from hb2) ?_))
        cases b
        · exact Ev.ifn (by simp) (Ev.const rfl)
        · exact Ev.ifp rfl (Ev.const rfl)
      · cases b
        · have : ∀ x ∈ wl, okB s x := Classical.byContradiction fun e => by cases hbi.2 e
          simp [ho]; exact this
        · have := hbi.1 rfl
          simp only [Bool.not_true, Bool.false_eq_true, false_iff, not_and]
          exact fun _ _ => this
  | dd + 1, i, hi, c => by
    have hlt : i < bl.length := by omega
    have hmax : bl.length ≤ 9223372036854775807 := hl
    have hw1 : wrap64 ((i : Int) + 1) = ((i + 1 : Nat) : Int) := by rw [w64 (by omega) (by omega)]; omega
    have no : ∃ b, Ev (fun k => dev_Check.l0 k false bl (bl.length : Int) ((i + 1 : Nat) : Int) s bl wl d f) (ckC b) ∧ b = false := by
      obtain ⟨b, h1, h2⟩ := dCheck_l0 s bl wl d f hb hw hl dd (i + 1) (by omega) false
      exact ⟨b, h1, by cases b; rfl; simp at h2⟩
    obtain ⟨nb, hno, rfl⟩ := no
    rw [okFrom_succ hlt]
    cases c with
    | false =>
      refine ⟨false, ?_, by simp⟩
      refine Ev.step (fun k => by rw [dev_Check.l0]) ?_
      refine Ev.ifp (by omega) (Ev.ifp (by omega) (Ev.ifp (by omega) (Ev.ifn (by simp) ?_)))
      rw [hw1]; exact hno
    | true =>
      obtain ⟨r, hr, hri⟩ := right_f bl[i] s (hb _ (List.getElem_mem hlt))
      cases r with
      | false =>
        have hnb : ¬ okB s bl[i] := fun e => by cases hri.2 e
        refine ⟨false, ?_, by simp [hnb]⟩
        refine Ev.step (fun k => by rw [dev_Check.l0]) ?_
        refine Ev.ifp (by omega) (Ev.ifp (by omega) (Ev.ifp (by omega) (Ev.ifp rfl (Ev.bindc (by rw [rd_get bl i hlt]; exact hr) (Ev.ifn (by simp) ?_)))))
        rw [hw1]; exact hno
      | true =>
        have hok := hri.1 rfl
        by_cases hz : bl[i].f1.size = 0
        · refine ⟨false, ?_, by simp [hz]⟩
          refine Ev.step (fun k => by rw [dev_Check.l0]) ?_
          refine Ev.ifp (by omega) (Ev.ifp (by omega) (Ev.ifp (by omega) (Ev.ifp rfl (Ev.bindc (by rw [rd_get bl i hlt]; exact hr) (Ev.ifp rfl (Ev.ifp (by rw [rd_get bl i hlt]; exact toList_nil.2 hz) ?_))))))
          rw [hw1]; exact hno
        · have hz2 : ¬ (rd_T39 bl (i : Int)).f1.toList = [] := by rw [rd_get bl i hlt, toList_nil]; exact hz
          cases i with
          | zero =>
            obtain ⟨b, h1, h2⟩ := dCheck_l0 s bl wl d f hb hw hl dd 1 (by omega) true
            refine ⟨b, ?_, ?_⟩
            · refine Ev.step (fun k => by rw [dev_Check.l0]) ?_
              refine Ev.ifp (by omega) (Ev.ifp (by omega) (Ev.ifp (by omega) (Ev.ifp rfl (Ev.bindc (by rw [rd_get bl 0 hlt]; exact hr) (Ev.ifp rfl (Ev.ifn hz2 (Ev.ifp rfl ?_)))))))
              rw [hw1]; exact h1
            · rw [h2]
              simp [hok, hz]
          | succ j =>
            have e : wrap64 (((j + 1 : Nat) : Int) - 1) = (j : Int) := by rw [w64 (by omega) (by omega)]; omega
            obtain ⟨b, h1, h2⟩ := dCheck_l0 s bl wl d f hb hw hl dd (j + 1 + 1) (by omega) (decide (bl[j].f0 < bl[j + 1].f0))
            refine ⟨b, ?_, ?_⟩
            · refine Ev.step (fun k => by rw [dev_Check.l0]) ?_
              refine Ev.ifp (by omega) (Ev.ifp (by omega) (Ev.ifp (by omega) (Ev.ifp rfl (Ev.bindc (by rw [rd_get bl (j + 1) hlt]; exact hr) (Ev.ifp rfl (Ev.ifn hz2 (Ev.ifn (by omega) (Ev.ifp (by rw [e]; omega) (Ev.ifp (by rw [e]; omega) ?_)))))))))
              rw [hw1, e, rd_get bl j (by omega), rd_get bl (j + 1) hlt]; exact h1
            · rw [h2, decide_eq_true_eq]
              constructor
              · rintro ⟨h3, h4, h5⟩
                exact ⟨rfl, ⟨⟨hok, hz, fun q hq => by (obtain rfl : j = q := by omega); exact h3⟩, h4⟩, h5⟩
              · rintro ⟨_, ⟨⟨_, _, h3⟩, h4⟩, h5⟩
                exact ⟨h3 j rfl, h4, h5⟩
theorem dCheck (s : Int) (bl wl : List Bk) (d : Bool) (f : Int) (hb : Num0 bl) (hw : Num0 wl) (hl : bl.length ≤ maxLen) :
    ∃ b, Ev (fun k => dev_Check.f k s bl wl d f) (ckC b) ∧ (b = true ↔ okDev s bl wl) := by
  have go : ∀ c : Bool, ∃ b, Ev (fun k => dev_Check.j0 k c s bl wl d f) (ckC b) ∧ (b = true ↔ c = true ∧ okBl s bl ∧ ∀ x ∈ wl, okB s x) := by
    intro c
    obtain ⟨b, h1, h2⟩ := dCheck_l0 s bl wl d f hb hw hl bl.length 0 (by omega) c
    refine ⟨b, Ev.step (fun k => by rw [dev_Check.j0]; rfl) h1, ?_⟩
    rw [h2, okFrom_zero]
  unfold dev_Check.f okDev
  by_cases h1 : s ≥ 16
  · by_cases h2 : s ≤ 65536
    · obtain ⟨b, h3, h4⟩ := go (decide ((wl.length : Int) ≤ 16384))
      refine ⟨b, Ev.ifp h1 (Ev.ifp h2 h3), ?_⟩
      rw [h4, decide_eq_true_eq]
      constructor
      · rintro ⟨a, b, c⟩; exact ⟨h1, h2, by omega, b, c⟩
      · rintro ⟨_, _, a, b, c⟩; exact ⟨by omega, b, c⟩
    · obtain ⟨b, h3, h4⟩ := go false
      refine ⟨b, Ev.ifp h1 (Ev.ifn h2 h3), ?_⟩
      rw [h4]
      simp [h2]
  · obtain ⟨b, h3, h4⟩ := go false
    refine ⟨b, Ev.ifn h1 h3, ?_⟩
    rw [h4]
    simp [h1]
theorem dCheck_ok {s : Int} {bl wl : List Bk} (h : okDev s bl wl) (d : Bool) (f : Int) : Ev (fun k => dev_Check.f k s bl wl d f) 0 := by
  obtain ⟨b, h1, h2⟩ := dCheck s bl wl d f (fun x hx => (h.2.2.2.1.2 x hx).1.1) (fun x hx => (h.2.2.2.2 x hx).1) (by
    have := okBl_len h.2.2.2.1 (by have := h.1; omega) h.2.1
    unfold maxLen; omega)
  rw [h2.2 h] at h1
  exact h1
theorem dCheck_bad {s : Int} {bl wl : List Bk} (h : ¬ okDev s bl wl) (d : Bool) (f : Int) (hb : Num0 bl) (hw : Num0 wl) (hl : bl.length ≤ maxLen) : Ev (fun k => dev_Check.f k s bl wl d f) 7 := by
  obtain ⟨b, h1, h2⟩ := dCheck s bl wl d f hb hw hl
  cases b with
  | false => exact h1
  | true => exact absurd (h2.1 rfl) h
-- where a block is
theorem u64w {i : Int} (h0 : 0 ≤ i) (h1 : i ≤ 9223372036854775807) : IntKind.u64.wrap i = i := by
  simp [IntKind.wrap, IntKind.bits, IntKind.signed]; omega
def cmpN (a b : Int) : Int := if a < b then -1 else if a > b then 1 else 0
theorem place1_f (a : Int) (c : ByteArray) (b : Int) : dev_drive_place_1.f a c b = some (cmpN a b) := by
  unfold dev_drive_place_1.f cmp_Compare_uint32.f cmp_isNaN_uint32.f cmpN
  simp only [bne_self_eq_false, Option.bind_some, Bool.false_eq_true, if_false]
  split
  · rfl
  · split <;> rfl
theorem cmpN_lt (a b : Int) : cmpN a b < 0 ↔ a < b := by unfold cmpN; split <;> (try split) <;> omega
theorem cmpN_eq (a b : Int) : (cmpN a b == 0) = decide (a = b) := by
  unfold cmpN
  rw [Bool.eq_iff_iff, beq_iff_eq, decide_eq_true_eq]
  split <;> (try split) <;> omega
theorem search_l0 (bl : List Bk) (num : Int) (m : Nat) (hm : m ≤ bl.length) (hl : bl.length ≤ 4398046511104) (h1 : ∀ i (h : i < bl.length), bl[i].f0 < num ↔ i < m) (r : Bool) (hr : r = match bl[m]? with | some y => decide (y.f0 = num) | none => false) : ∀ d i j : Nat, j - i ≤ d → i ≤ m → m ≤ j → j ≤ bl.length →
    Ev (fun k => slices_BinarySearchFunc_api_Block_api_Block_uint32_fn53.l0 k bl num (bl.length : Int) (i : Int) (j : Int)) ((m : Int), r) := by
  have endd : ∀ i : Nat, i = m → ∀ j : Nat, ¬ ((i : Int) < (j : Int)) → Ev (fun k => slices_BinarySearchFunc_api_Block_api_Block_uint32_fn53.l0 k bl num (bl.length : Int) (i : Int) (j : Int)) ((m : Int), r) := by
    intro i hi j hj
    subst hi
    refine Ev.step (fun k => by rw [slices_BinarySearchFunc_api_Block_api_Block_uint32_fn53.l0]) ?_
    refine Ev.ifn hj ?_
    rcases Nat.lt_or_ge i bl.length with hlt | hge
    · refine Ev.ifp (by omega) (Ev.ifp (by omega) (Ev.ifp (by omega) ?_))
      refine Ev.bindc (place1_f _ _ _) (Ev.const ?_)
      rw [rd_get bl i hlt, cmpN_eq, hr, List.getElem?_eq_getElem hlt]
    · refine Ev.ifn (by omega) (Ev.const ?_)
      rw [hr, List.getElem?_eq_none hge]
  intro d
  induction d with
  | zero => intro i j hd hi hj _; exact endd i (by omega) j (by omega)
  | succ d ih =>
    intro i j hd hi hj hjl
    by_cases hij : (i : Int) < (j : Int)
    · have e1 : wrap64 ((IntKind.u64.wrap (wrap64 ((i : Int) + (j : Int)))) / 2) = (((i + j) / 2 : Nat) : Int) := by
        rw [w64 (i := (i : Int) + j) (by omega) (by omega), u64w (by omega) (by omega), w64 (by omega) (by omega)]; omega
      have hmid : (i + j) / 2 < bl.length := by omega
      refine Ev.step (fun k => by rw [slices_BinarySearchFunc_api_Block_api_Block_uint32_fn53.l0]) ?_
      refine Ev.ifp hij (Ev.ifp (by rw [e1]; omega) (Ev.ifp (by rw [e1]; omega) (Ev.bindc (place1_f _ _ _) ?_)))
      rw [e1, rd_get bl _ hmid]
      have hb := h1 _ hmid
      refine Ev.ite (fun hc => ?_) (fun hc => ?_)
      · rw [cmpN_lt, hb] at hc
        rw [show wrap64 ((((i + j) / 2 : Nat) : Int) + 1) = (((i + j) / 2 + 1 : Nat) : Int) by rw [w64 (by omega) (by omega)]; omega]
        exact ih ((i + j) / 2 + 1) j (by omega) (by omega) hj hjl
      · rw [cmpN_lt, hb] at hc
        exact ih i ((i + j) / 2) (by omega) hi (by omega) (by omega)
    · exact endd i (by omega) j hij
/-- Where a block is, or would be. -/
theorem place_ev {bl : List Bk} (h : Asc bl) (hl : bl.length ≤ 4398046511104) (num : Int) :
    Ev (fun k => slices_BinarySearchFunc_api_Block_api_Block_uint32_fn53.f k bl num) (((bl.filter (fun y => decide (y.f0 < num))).length : Int), bl.any (fun y => decide (y.f0 = num))) := by
  obtain ⟨m, he, hm⟩ := asc_split h num
  have hlo : ∀ y ∈ bl.filter (fun y => decide (y.f0 < num)), y.f0 < num := fun y hy => by rw [List.mem_filter, decide_eq_true_eq] at hy; exact hy.2
  have hup : ∀ y ∈ bl.filter (fun y => decide (num < y.f0)), num < y.f0 := fun y hy => by rw [List.mem_filter, decide_eq_true_eq] at hy; exact hy.2
  have hm2 : ∀ y ∈ m, y.f0 = num := by
    rcases hm with ⟨rfl, _⟩ | ⟨y, rfl, h2⟩
    · simp
    · simpa using h2
  generalize hA : bl.filter (fun y => decide (y.f0 < num)) = A at *
  generalize hB : bl.filter (fun y => decide (num < y.f0)) = B at *
  subst he
  refine search_l0 _ num A.length (by simp) hl (fun i hi => ?_) _ ?_ _ 0 _ (Nat.le_refl _) (Nat.zero_le _) (by simp) (Nat.le_refl _)
  · constructor
    · intro hh
      rcases Nat.lt_or_ge i A.length with h3 | h3
      · exact h3
      · have : (A ++ m ++ B)[i] ∈ m ++ B := by
          have e : (A ++ m ++ B)[i] = (A ++ (m ++ B))[i]'(by simpa using hi) := by simp only [List.append_assoc]
          rw [e, List.getElem_append_right h3]
          exact List.getElem_mem _
        rcases List.mem_append.1 this with h4 | h4
        · have := hm2 _ h4; omega
        · have := hup _ h4; omega
    · intro h3
      have e : (A ++ m ++ B)[i] = A[i] := by
        rw [List.getElem_append_left (by simp; omega), List.getElem_append_left h3]
      rw [e]
      exact hlo _ (List.getElem_mem _)
  · rcases hm with ⟨rfl, h2⟩ | ⟨y, rfl, h2⟩
    · have hn : (A ++ [] ++ B).any (fun y => decide (y.f0 = num)) = false := by
        rw [List.any_eq_false]
        intro x hx; simpa using h2 x hx
      rw [hn]
      simp only [List.append_nil]
      rw [List.getElem?_append_right (Nat.le_refl _), Nat.sub_self]
      cases B with
      | nil => rfl
      | cons b B => have := hup b (by simp); simp; omega
    · have hn : (A ++ [y] ++ B).any (fun y => decide (y.f0 = num)) = true := by
        rw [List.any_eq_true]
        exact ⟨y, by simp, by simpa using h2⟩
      rw [hn, List.append_assoc, List.getElem?_append_right (Nat.le_refl _), Nat.sub_self]
      simp [h2]
theorem put_ev {s : Int} {bl : List Bk} (h : Asc bl) (hl : bl.length ≤ 65536) (x : Bk) : Ev (fun k => putF k bl x) (putL bl x) := by
  unfold putF
  refine Ev.bind (place_ev h (by omega) x.f0) ?_
  obtain ⟨m, he, hm⟩ := asc_split h x.f0
  have hlen : (bl.filter (fun y => decide (y.f0 < x.f0))).length + m.length + (bl.filter (fun y => decide (x.f0 < y.f0))).length = bl.length := by
    have := congrArg List.length he
    rw [List.length_append, List.length_append] at this; omega
  have hany : bl.any (fun y => decide (y.f0 = x.f0)) = decide (m ≠ []) := by
    rcases hm with ⟨rfl, h2⟩ | ⟨y, rfl, h2⟩
    · simp only [ne_eq, not_true_eq_false, decide_false, List.any_eq_false]
      intro z hz; simpa using h2 z hz
    · simp only [ne_eq, List.cons_ne_self, not_false_eq_true, decide_true, List.any_eq_true]
      exact ⟨y, by rw [he]; simp, by simpa using h2⟩
  dsimp only
  rw [hany]
  unfold putL cell
  generalize hA : bl.filter (fun y => decide (y.f0 < x.f0)) = A at *
  generalize hB : bl.filter (fun y => decide (x.f0 < y.f0)) = B at *
  rcases hm with ⟨rfl, h2⟩ | ⟨y, rfl, h2⟩
  · refine Ev.ifn (by simp) ?_
    by_cases hz : x.f1.size = 0
    · refine Ev.ifp (toList_nil.2 hz) (Ev.const ?_)
      rw [if_pos hz, he]
    · refine Ev.ifn (fun e => hz (toList_nil.1 e)) (Ev.const ?_)
      unfold slices_Insert_api_Block_api_Block.f
      rw [if_pos ⟨by omega, by simp at hlen; omega, rfl, by omega⟩, if_neg hz, Int.toNat_natCast, he]
      simp
  · refine Ev.ifp (by simp) ?_
    by_cases hz : x.f1.size = 0
    · refine Ev.ifp (toList_nil.2 hz) (Ev.const ?_)
      unfold slices_Delete_api_Block_api_Block.f
      rw [if_pos ⟨by omega, by simp at hlen; omega, rfl⟩, if_pos hz, Int.toNat_natCast, he]
      simp
    · refine Ev.ifn (fun e => hz (toList_nil.1 e)) (Ev.ifp ⟨by omega, by simp at hlen; omega⟩ (Ev.const ?_))
      rw [if_neg hz, Int.toNat_natCast, he]
      simp
end Go.Proofs.YtcphflfjhkeooaaDoor.Z
end

section
/- What the calls on a device come to. -/
namespace Go.Proofs.YtcphflfjhkeooaaDoor.Z
open Go.RowKit Go.Proofs.YtcphflfjhkeooaaDoorW.PrintWords Go.Proofs.YtcphflfjhkeooaaDoorW.PrintLast
set_option linter.unusedVariables false
abbrev Dv := Int × List Bk × List Bk × Bool × Int × Int
def badV : Dv := (0, [], [], false, 0, 7)
theorem clone_f (l : List Bk) (h : l.length ≤ 5864062014805) : slices_Clone_api_Block_api_Block.f l = some l := if_pos (by omega)
theorem okDev_len {s : Int} {bl wl : List Bk} (h : okDev s bl wl) : bl.length ≤ 65536 := okBl_len h.2.2.2.1 (by have := h.1; omega) h.2.1
theorem own_f {s : Int} {bl wl : List Bk} (h : okDev s bl wl) (d : Bool) (f : Int) : dev_Own.f s bl wl d f = some (s, bl, wl, d, f) := by
  have h1 := okDev_len h
  have h2 := h.2.2.1
  unfold dev_Own.f
  rw [clone_f bl (by omega), clone_f wl (by omega)]
  rfl
theorem find_back (p : Int → Blk → Bool) (wl : List Bk) (hp : ∀ i x, p i x = p 0 x) : ((uptoB (backAt wl) wl.length).find? (fun q => p q.1 q.2)).map (fun q => q.2.f1) = (wl.reverse.find? (fun x => p 0 x)).map (fun x => x.f1) := by
  have e : (uptoB (backAt wl) wl.length).map (fun q => q.2) = wl.reverse := by
    unfold uptoB
    apply List.ext_getElem (by simp)
    intro i h1 h2
    simp only [List.length_map, List.length_range] at h1
    rw [List.getElem_map, List.getElem_map, List.getElem_range, List.getElem_reverse]
    unfold backAt
    dsimp only
    have e2 : ((wl.length : Int) - 1 - (i : Int)) = ((wl.length - 1 - i : Nat) : Int) := by omega
    rw [e2, rd_get wl _ (by omega)]
  rw [← e, List.find?_map, Option.map_map]
  congr 1
  congr 1
  funext q
  exact hp _ _
theorem lastOf_f (wl : List Bk) (n : Int) : lastOf wl n = (wl.reverse.find? (fun x => x.f0 == n)).map (fun x => x.f1) := find_back (fun _ x => x.f0 == n) wl (fun _ _ => rfl)
theorem read_ev {bl : List Bk} (h : Asc bl) (hl : bl.length ≤ 65536) (wl : List Bk) (n : Int) : Ev (fun k => readF k bl wl n) (readL bl wl n) := by
  unfold readF readL
  rw [lastOf_f]
  cases wl.reverse.find? (fun x => x.f0 == n) with
  | some y => exact Ev.const rfl
  | none =>
    simp only [Option.map_none]
    refine Ev.bind (place_ev h (by omega) n) ?_
    dsimp only
    obtain ⟨m, he, hm⟩ := asc_split h n
    rcases hm with ⟨rfl, h2⟩ | ⟨y, rfl, h2⟩
    · have hn : bl.any (fun y => decide (y.f0 = n)) = false := by
        rw [List.any_eq_false]
        intro x hx; simpa using h2 x hx
      rw [hn]
      refine Ev.ifn (by simp) (Ev.const ?_)
      rw [has_none h2]
    · have hy : y ∈ bl := by rw [he]; simp
      have hn : bl.any (fun y => decide (y.f0 = n)) = true := by
        rw [List.any_eq_true]
        exact ⟨y, hy, by simpa using h2⟩
      have hlen : (bl.filter (fun y => decide (y.f0 < n))).length < bl.length := by
        have := congrArg List.length he
        rw [List.length_append, List.length_append, List.length_singleton] at this; omega
      rw [hn]
      refine Ev.ifp rfl (Ev.ifp ⟨by omega, by omega⟩ (Ev.const ?_))
      have hv : has bl n = y.f1 := by rw [← h2]; exact has_mem h hy
      have hg : bl[(bl.filter (fun y => decide (y.f0 < n))).length]? = some y := by
        generalize bl.filter (fun y => decide (y.f0 < n)) = A at *
        rw [he]
        simp
      rw [List.getElem?_eq_getElem hlen] at hg
      rw [rd_get bl _ hlen, hv, Option.some.inj hg]
theorem puts_ev {s : Int} (h0 : 0 ≤ s) (h1 : s ≤ 65536) : ∀ (wl : List Bk) {bl : List Bk}, okBl s bl → (∀ x ∈ wl, okB s x) → Ev (fun k => putsF k bl wl) (putsL bl wl)
  | [], bl, h, _ => Ev.const rfl
  | x :: wl, bl, h, hw => by
    unfold putsF
    exact Ev.bind (put_ev (s := s) h.1 (okBl_len h h0 h1) x) (puts_ev h0 h1 wl (okBl_put h (hw x (by simp))) (fun y hy => hw y (by simp [hy])))
theorem keep_ev {s : Int} (h0 : 0 ≤ s) (h1 : s ≤ 65536) : ∀ (wl : List Bk) (l : List Bool) {bl : List Bk}, okBl s bl → (∀ x ∈ wl, okB s x) → Ev (fun k => keepF k bl wl l) (putsL bl (kept wl l))
  | [], l, bl, h, _ => by unfold keepF; exact Ev.const rfl
  | x :: wl, [], bl, h, _ => by unfold keepF; exact Ev.const rfl
  | x :: wl, t :: l, bl, h, hw => by
    unfold keepF kept
    refine Ev.ite (fun ht => ?_) (fun ht => ?_)
    · rw [if_pos ht]
      exact Ev.bind (put_ev (s := s) h.1 (okBl_len h h0 h1) x) (keep_ev h0 h1 wl l (okBl_put h (hw x (by simp))) (fun y hy => hw y (by simp [hy])))
    · rw [if_neg ht]
      exact keep_ev h0 h1 wl l h (fun y hy => hw y (by simp [hy]))
def readS (s : Int) (bl wl : List Bk) (d : Bool) (n : Int) : ByteArray × Int := if d = true then (⟨#[]⟩, 17) else if n ≥ s then (⟨#[]⟩, 1) else (readL bl wl n, 0)
def writeS (s : Int) (bl wl : List Bk) (d : Bool) (f n : Int) (data : ByteArray) : Dv :=
  if d = true then (s, bl, wl, d, f, 17) else if n ≥ s then (s, bl, wl, d, f, 1) else if (data.size : Int) > 512 then (s, bl, wl, d, f, 2) else if (wl.length : Int) ≥ 16384 then (s, bl, wl, d, f, 8)
  else (s, bl, wl ++ [⟨n, trimB data⟩], downOf d f, fuseOf f, if downOf d f = true then 17 else 0)
def flushS (s : Int) (bl wl : List Bk) (d : Bool) (f : Int) : Dv :=
  if d = true then (s, bl, wl, d, f, 17) else if downOf d f = true then (s, bl, wl, true, fuseOf f, 17) else (s, putsL bl wl, [], false, fuseOf f, 0)
def crashS (s : Int) (bl wl : List Bk) (l : List Bool) : Dv := (s, putsL bl (kept wl l), [], false, -1, 0)
def spoilS (s : Int) (bl wl : List Bk) (d : Bool) (f n : Int) (data : ByteArray) : Dv :=
  if n ≥ s then (s, bl, wl, d, f, 1) else if (data.size : Int) > 512 then (s, bl, wl, d, f, 2) else (s, putL bl ⟨n, trimB data⟩, wl, d, f, 0)
variable {s : Int} {bl wl : List Bk}
theorem read_ok (h : okDev s bl wl) (d : Bool) (f n : Int) : Ev (fun k => dev_Read.f k s bl wl d f n) (readS s bl wl d n) := by
  unfold dev_Read.f readS
  refine Ev.bind (dCheck_ok h d f) (Ev.ifp rfl (Ev.ite (fun hd => ?_) (fun hd => ?_)))
  · rw [if_pos hd]; exact Ev.const rfl
  · rw [if_neg hd]
    refine Ev.ite (fun hn => ?_) (fun hn => ?_)
    · rw [if_pos hn]; exact Ev.const rfl
    · rw [if_neg hn]
      exact Ev.bind (read_ev h.2.2.2.1.1 (okDev_len h) wl n) (Ev.const rfl)
theorem write_ok (h : okDev s bl wl) (d : Bool) (f n : Int) (data : ByteArray) : Ev (fun k => dev_Write.f k s bl wl d f n data) (writeS s bl wl d f n data) := by
  unfold dev_Write.f writeS
  have hwl := h.2.2.1
  refine Ev.bind (dCheck_ok h d f) (Ev.ifp rfl (Ev.bindc (own_f h d f) ?_))
  dsimp only
  refine Ev.ite (fun hd => ?_) (fun hd => ?_)
  · rw [if_pos hd]; exact Ev.const rfl
  · rw [if_neg hd]
    refine Ev.ite (fun hn => ?_) (fun hn => ?_)
    · rw [if_pos hn]; exact Ev.const rfl
    · rw [if_neg hn]
      refine Ev.ite (fun hq => ?_) (fun hq => ?_)
      · rw [if_pos hq]; exact Ev.const rfl
      · rw [if_neg hq]
        refine Ev.ite (fun hw => ?_) (fun hw => ?_)
        · rw [if_pos hw]; exact Ev.const rfl
        · rw [if_neg hw]
          exact Ev.bindc (cut_f data (by omega)) (Ev.ifp (by omega) (Ev.const rfl))
theorem flush_ok (h : okDev s bl wl) (d : Bool) (f : Int) : Ev (fun k => dev_Flush.f k s bl wl d f) (flushS s bl wl d f) := by
  unfold dev_Flush.f flushS
  have hwl := h.2.2.1
  refine Ev.bind (dCheck_ok h d f) (Ev.ifp rfl (Ev.bindc (own_f h d f) ?_))
  dsimp only
  refine Ev.ite (fun hd => ?_) (fun hd => ?_)
  · rw [if_pos hd]; exact Ev.const rfl
  · rw [if_neg hd]
    refine Ev.ite (fun hn => ?_) (fun hn => ?_)
    · rw [if_pos hn]; exact Ev.const rfl
    · rw [if_neg hn]
      exact Ev.bind (puts_ev (by have := h.1; omega) h.2.1 wl h.2.2.2.1 h.2.2.2.2) (Ev.const rfl)
theorem crash_ok (h : okDev s bl wl) (d : Bool) (f : Int) (l : List Bool) : Ev (fun k => dev_Crash.f k s bl wl d f l) (crashS s bl wl l) := by
  unfold dev_Crash.f crashS
  refine Ev.bind (dCheck_ok h d f) (Ev.ifp rfl (Ev.bindc (own_f h d f) ?_))
  dsimp only
  exact Ev.bind (keep_ev (by have := h.1; omega) h.2.1 wl l h.2.2.2.1 h.2.2.2.2) (Ev.const rfl)
theorem spoil_ok (h : okDev s bl wl) (d : Bool) (f n : Int) (data : ByteArray) : Ev (fun k => dev_Spoil.f k s bl wl d f n data) (spoilS s bl wl d f n data) := by
  unfold dev_Spoil.f spoilS
  refine Ev.bind (dCheck_ok h d f) (Ev.ifp rfl (Ev.bindc (own_f h d f) ?_))
  dsimp only
  refine Ev.ite (fun hd => ?_) (fun hd => ?_)
  · rw [if_pos hd]; exact Ev.const rfl
  · rw [if_neg hd]
    refine Ev.ite (fun hn => ?_) (fun hn => ?_)
    · rw [if_pos hn]; exact Ev.const rfl
    · rw [if_neg hn]
      exact Ev.bindc (cut_f data (by omega)) (Ev.bind (put_ev (s := s) h.2.2.2.1.1 (okDev_len h) _) (Ev.const rfl))
/-- What the arguments bring. -/
structure Inp (s : Int) (bl wl : List Bk) : Prop where
  n1 : Num0 bl
  n2 : Num0 wl
  l1 : bl.length ≤ maxLen
theorem read_bad (h : ¬ okDev s bl wl) (hi : Inp s bl wl) (d : Bool) (f n : Int) : Ev (fun k => dev_Read.f k s bl wl d f n) (⟨#[]⟩, 7) :=
  Ev.bind (dCheck_bad h d f hi.n1 hi.n2 hi.l1) (Ev.ifn (by decide) (Ev.const rfl))
theorem write_bad (h : ¬ okDev s bl wl) (hi : Inp s bl wl) (d : Bool) (f n : Int) (data : ByteArray) : Ev (fun k => dev_Write.f k s bl wl d f n data) badV :=
  Ev.bind (dCheck_bad h d f hi.n1 hi.n2 hi.l1) (Ev.ifn (by decide) (Ev.const rfl))
theorem flush_bad (h : ¬ okDev s bl wl) (hi : Inp s bl wl) (d : Bool) (f : Int) : Ev (fun k => dev_Flush.f k s bl wl d f) badV :=
  Ev.bind (dCheck_bad h d f hi.n1 hi.n2 hi.l1) (Ev.ifn (by decide) (Ev.const rfl))
theorem crash_bad (h : ¬ okDev s bl wl) (hi : Inp s bl wl) (d : Bool) (f : Int) (l : List Bool) : Ev (fun k => dev_Crash.f k s bl wl d f l) badV :=
  Ev.bind (dCheck_bad h d f hi.n1 hi.n2 hi.l1) (Ev.ifn (by decide) (Ev.const rfl))
theorem spoil_bad (h : ¬ okDev s bl wl) (hi : Inp s bl wl) (d : Bool) (f n : Int) (data : ByteArray) : Ev (fun k => dev_Spoil.f k s bl wl d f n data) badV :=
  Ev.bind (dCheck_bad h d f hi.n1 hi.n2 hi.l1) (Ev.ifn (by decide) (Ev.const rfl))
-- a right device stays right
theorem okDev_puts (h : okDev s bl wl) {ws : List Bk} (hw : ∀ x ∈ ws, okB s x) : okDev s (putsL bl ws) [] :=
  ⟨h.1, h.2.1, by simp, okBl_puts h.2.2.2.1 hw, by simp⟩
theorem okB_new {n : Int} {data : ByteArray} (h0 : 0 ≤ n) (hn : ¬ n ≥ s) (hd : ¬ (data.size : Int) > 512) : okB s ⟨n, trimB data⟩ := by
  have := trimB_size data
  exact ⟨h0, by simpa using hn, by simp only; omega, trimB_idem data⟩
theorem okDev_write (h : okDev s bl wl) {n : Int} (hn : 0 ≤ n) (d : Bool) (f : Int) (data : ByteArray) : okDev (writeS s bl wl d f n data).1 (writeS s bl wl d f n data).2.1 (writeS s bl wl d f n data).2.2.1 := by
  unfold writeS
  split
  · exact h
  · split
    · exact h
    · split
      · exact h
      · split
        · exact h
        · refine ⟨h.1, h.2.1, by simp only [List.length_append, List.length_singleton]; omega, h.2.2.2.1, fun x hx => ?_⟩
          rcases List.mem_append.1 hx with hx | hx
          · exact h.2.2.2.2 x hx
          · rw [List.mem_singleton] at hx
            subst hx
            exact okB_new hn ‹_› ‹_›
theorem okDev_spoil (h : okDev s bl wl) {n : Int} (hn : 0 ≤ n) (d : Bool) (f : Int) (data : ByteArray) : okDev (spoilS s bl wl d f n data).1 (spoilS s bl wl d f n data).2.1 (spoilS s bl wl d f n data).2.2.1 := by
  unfold spoilS
  split
  · exact h
  · split
    · exact h
    · exact ⟨h.1, h.2.1, h.2.2.1, okBl_put h.2.2.2.1 (okB_new hn ‹_› ‹_›), h.2.2.2.2⟩
theorem okDev_flush (h : okDev s bl wl) (d : Bool) (f : Int) : okDev (flushS s bl wl d f).1 (flushS s bl wl d f).2.1 (flushS s bl wl d f).2.2.1 := by
  unfold flushS
  split
  · exact h
  · split
    · exact h
    · exact okDev_puts h h.2.2.2.2
theorem okDev_crash (h : okDev s bl wl) (l : List Bool) : okDev (crashS s bl wl l).1 (crashS s bl wl l).2.1 (crashS s bl wl l).2.2.1 :=
  okDev_puts h (fun x hx => h.2.2.2.2 x (kept_mem hx))
end Go.Proofs.YtcphflfjhkeooaaDoor.Z
end

section
-- Printed by a program of this session (mp.py) out of the translation.
namespace Go.Proofs.YtcphflfjhkeooaaDoor.Z
open Go.RowKit Go.Proofs.YtcphflfjhkeooaaDoorW.PrintWords Go.Proofs.YtcphflfjhkeooaaDoorW.PrintLast Go.Proofs.YtcphflfjhkeooaaDoorW.PrintMore
attribute [local go_sem] max2_int min2_int max_two min_two max_three min_three max_four min_four   -- for this text's walks alone
set_option linter.unusedVariables false
set_option linter.unusedSimpArgs false

/-! ### cambiumlaw03_lives: function 19 -/
def cambiumlaw03_lives.f (k : Nat)  : Option (Bool) := (dev_Write.f k 16 ([] : List (S39)) ([] : List (S39)) false (-1) 3 (⟨#[97, 0]⟩ : ByteArray)).bind fun bt211 => ((dev_Flush.f k bt211.1 bt211.2.1 bt211.2.2.1 bt211.2.2.2.1 bt211.2.2.2.2.1).bind fun bt221 => ((dev_Write.f k bt221.1 bt221.2.1 bt221.2.2.1 bt221.2.2.2.1 bt221.2.2.2.2.1 3 (⟨#[98]⟩ : ByteArray)).bind fun bt231 => ((dev_Write.f k bt231.1 bt231.2.1 bt231.2.2.1 bt231.2.2.2.1 bt231.2.2.2.2.1 4 (⟨#[99]⟩ : ByteArray)).bind fun bt241 => ((dev_Read.f k bt241.1 bt241.2.1 bt241.2.2.1 bt241.2.2.2.1 bt241.2.2.2.2.1 3).bind fun bt251 => ((dev_Crash.f k bt241.1 bt241.2.1 bt241.2.2.1 bt241.2.2.2.1 bt241.2.2.2.2.1 (([false, true] : List Bool))).bind fun bt256 => ((dev_Read.f k bt256.1 bt256.2.1 bt256.2.2.1 bt256.2.2.2.1 bt256.2.2.2.2.1 3).bind fun bt267 => ((dev_Read.f k bt256.1 bt256.2.1 bt256.2.2.1 bt256.2.2.2.1 bt256.2.2.2.2.1 4).bind fun bt269 => ((dev_Write.f k bt256.1 bt256.2.1 bt256.2.2.1 bt256.2.2.2.1 bt256.2.2.2.2.1 16 (⟨#[120]⟩ : ByteArray)).bind fun bt271 => (if bt211.2.2.2.2.2 = 0 then (if bt221.2.2.2.2.2 = 0 then (if bt231.2.2.2.2.2 = 0 then (if bt241.2.2.2.2.2 = 0 then (if bt251.1.toList = ([98] : List UInt8) then (if bt251.2 = 0 then (if bt256.2.2.2.2.2 = 0 then (if bt267.1.toList = ([97] : List UInt8) then (if bt267.2 = 0 then (if bt269.1.toList = ([99] : List UInt8) then (if bt269.2 = 0 then (some (bt271.2.2.2.2.2 == 1)) else (some false)) else (some false)) else (some false)) else (some false)) else (some false)) else (some false)) else (some false)) else (some false)) else (some false)) else (some false)) else (some false))))))))))
theorem cambiumlaw03_lives.mono : ∀ k, LeO (cambiumlaw03_lives.f k ) (cambiumlaw03_lives.f (k + 1) ) := by
  intro  k
  unfold cambiumlaw03_lives.f
  repeat' first
      | (with_reducible exact dev_Crash.mono _ _ _ _ _ _ _)
      | (with_reducible exact dev_Flush.mono _ _ _ _ _ _)
      | (with_reducible exact dev_Read.mono _ _ _ _ _ _ _)
      | (with_reducible exact dev_Write.mono _ _ _ _ _ _ _ _)
      | (with_reducible exact LeO.refl _)
      | (with_reducible exact LeO.none _)
      | (with_reducible refine LeO.ite ?_ ?_)
      | (with_reducible refine LeO.bind ?_ (fun _ => ?_))
      | exact dev_Crash.mono _ _ _ _ _ _ _
      | exact dev_Flush.mono _ _ _ _ _ _
      | exact dev_Read.mono _ _ _ _ _ _ _
      | exact dev_Write.mono _ _ _ _ _ _ _ _
      | exact LeO.none _
      | refine LeO.ite ?_ ?_
      | refine LeO.bind ?_ (fun _ => ?_)
set_option maxHeartbeats 8000000 in
set_option maxRecDepth 100000 in
theorem cambiumlaw03_lives.calls (k : Nat)  (r : Bool) (w : World) (h : cambiumlaw03_lives.f k  = some r) (hT_ : r = true := by rfl) :
    Calls Tryd.prog 19 #[] w fun e w' => e = .returned (.bool r) ∧ Below w.heap.size w w' := by
  have HT_ := Aside0.mk hT_
  clear hT_
  have hu25 := Tryd.underlying25
  have HB := Aside0.mk (Below.refl w.heap.size w)
  have H : ((dev_Write.f k 16 ([] : List (S39)) ([] : List (S39)) false (-1) 3 (⟨#[97, 0]⟩ : ByteArray)).bind fun bt211 => ((dev_Flush.f k bt211.1 bt211.2.1 bt211.2.2.1 bt211.2.2.2.1 bt211.2.2.2.2.1).bind fun bt221 => ((dev_Write.f k bt221.1 bt221.2.1 bt221.2.2.1 bt221.2.2.2.1 bt221.2.2.2.2.1 3 (⟨#[98]⟩ : ByteArray)).bind fun bt231 => ((dev_Write.f k bt231.1 bt231.2.1 bt231.2.2.1 bt231.2.2.2.1 bt231.2.2.2.2.1 4 (⟨#[99]⟩ : ByteArray)).bind fun bt241 => ((dev_Read.f k bt241.1 bt241.2.1 bt241.2.2.1 bt241.2.2.2.1 bt241.2.2.2.2.1 3).bind fun bt251 => ((dev_Crash.f k bt241.1 bt241.2.1 bt241.2.2.1 bt241.2.2.2.1 bt241.2.2.2.2.1 (([false, true] : List Bool))).bind fun bt256 => ((dev_Read.f k bt256.1 bt256.2.1 bt256.2.2.1 bt256.2.2.2.1 bt256.2.2.2.2.1 3).bind fun bt267 => ((dev_Read.f k bt256.1 bt256.2.1 bt256.2.2.1 bt256.2.2.2.1 bt256.2.2.2.2.1 4).bind fun bt269 => ((dev_Write.f k bt256.1 bt256.2.1 bt256.2.2.1 bt256.2.2.2.1 bt256.2.2.2.2.1 16 (⟨#[120]⟩ : ByteArray)).bind fun bt271 => (if bt211.2.2.2.2.2 = 0 then (if bt221.2.2.2.2.2 = 0 then (if bt231.2.2.2.2.2 = 0 then (if bt241.2.2.2.2.2 = 0 then (if bt251.1.toList = ([98] : List UInt8) then (if bt251.2 = 0 then (if bt256.2.2.2.2.2 = 0 then (if bt267.1.toList = ([97] : List UInt8) then (if bt267.2 = 0 then (if bt269.1.toList = ([99] : List UInt8) then (if bt269.2 = 0 then (some (bt271.2.2.2.2.2 == 1)) else (some false)) else (some false)) else (some false)) else (some false)) else (some false)) else (some false)) else (some false)) else (some false)) else (some false)) else (some false)) else (some false))))))))))) = some r := h
  clear h
  replace H := Option.bind_eq_some_iff.mp H
  obtain ⟨⟨t211, t212, t215, t218, t219, t220⟩, A10, H⟩ := H
  replace H : ((dev_Flush.f k t211 t212 t215 t218 t219).bind fun bt221 => ((dev_Write.f k bt221.1 bt221.2.1 bt221.2.2.1 bt221.2.2.2.1 bt221.2.2.2.2.1 3 (⟨#[98]⟩ : ByteArray)).bind fun bt231 => ((dev_Write.f k bt231.1 bt231.2.1 bt231.2.2.1 bt231.2.2.2.1 bt231.2.2.2.2.1 4 (⟨#[99]⟩ : ByteArray)).bind fun bt241 => ((dev_Read.f k bt241.1 bt241.2.1 bt241.2.2.1 bt241.2.2.2.1 bt241.2.2.2.2.1 3).bind fun bt251 => ((dev_Crash.f k bt241.1 bt241.2.1 bt241.2.2.1 bt241.2.2.2.1 bt241.2.2.2.2.1 (([false, true] : List Bool))).bind fun bt256 => ((dev_Read.f k bt256.1 bt256.2.1 bt256.2.2.1 bt256.2.2.2.1 bt256.2.2.2.2.1 3).bind fun bt267 => ((dev_Read.f k bt256.1 bt256.2.1 bt256.2.2.1 bt256.2.2.2.1 bt256.2.2.2.2.1 4).bind fun bt269 => ((dev_Write.f k bt256.1 bt256.2.1 bt256.2.2.1 bt256.2.2.2.1 bt256.2.2.2.2.1 16 (⟨#[120]⟩ : ByteArray)).bind fun bt271 => (if t220 = 0 then (if bt221.2.2.2.2.2 = 0 then (if bt231.2.2.2.2.2 = 0 then (if bt241.2.2.2.2.2 = 0 then (if bt251.1.toList = ([98] : List UInt8) then (if bt251.2 = 0 then (if bt256.2.2.2.2.2 = 0 then (if bt267.1.toList = ([97] : List UInt8) then (if bt267.2 = 0 then (if bt269.1.toList = ([99] : List UInt8) then (if bt269.2 = 0 then (some (bt271.2.2.2.2.2 == 1)) else (some false)) else (some false)) else (some false)) else (some false)) else (some false)) else (some false)) else (some false)) else (some false)) else (some false)) else (some false)) else (some false)))))))))) = some r := H
  have A1 := Aside0.mk A10
  clear A10
  replace H := Option.bind_eq_some_iff.mp H
  obtain ⟨⟨t221, t222, t225, t228, t229, t230⟩, A20, H⟩ := H
  replace H : ((dev_Write.f k t221 t222 t225 t228 t229 3 (⟨#[98]⟩ : ByteArray)).bind fun bt231 => ((dev_Write.f k bt231.1 bt231.2.1 bt231.2.2.1 bt231.2.2.2.1 bt231.2.2.2.2.1 4 (⟨#[99]⟩ : ByteArray)).bind fun bt241 => ((dev_Read.f k bt241.1 bt241.2.1 bt241.2.2.1 bt241.2.2.2.1 bt241.2.2.2.2.1 3).bind fun bt251 => ((dev_Crash.f k bt241.1 bt241.2.1 bt241.2.2.1 bt241.2.2.2.1 bt241.2.2.2.2.1 (([false, true] : List Bool))).bind fun bt256 => ((dev_Read.f k bt256.1 bt256.2.1 bt256.2.2.1 bt256.2.2.2.1 bt256.2.2.2.2.1 3).bind fun bt267 => ((dev_Read.f k bt256.1 bt256.2.1 bt256.2.2.1 bt256.2.2.2.1 bt256.2.2.2.2.1 4).bind fun bt269 => ((dev_Write.f k bt256.1 bt256.2.1 bt256.2.2.1 bt256.2.2.2.1 bt256.2.2.2.2.1 16 (⟨#[120]⟩ : ByteArray)).bind fun bt271 => (if t220 = 0 then (if t230 = 0 then (if bt231.2.2.2.2.2 = 0 then (if bt241.2.2.2.2.2 = 0 then (if bt251.1.toList = ([98] : List UInt8) then (if bt251.2 = 0 then (if bt256.2.2.2.2.2 = 0 then (if bt267.1.toList = ([97] : List UInt8) then (if bt267.2 = 0 then (if bt269.1.toList = ([99] : List UInt8) then (if bt269.2 = 0 then (some (bt271.2.2.2.2.2 == 1)) else (some false)) else (some false)) else (some false)) else (some false)) else (some false)) else (some false)) else (some false)) else (some false)) else (some false)) else (some false)) else (some false))))))))) = some r := H
  have A2 := Aside0.mk A20
  clear A20
  replace H := Option.bind_eq_some_iff.mp H
  obtain ⟨⟨t231, t232, t235, t238, t239, t240⟩, A30, H⟩ := H
  replace H : ((dev_Write.f k t231 t232 t235 t238 t239 4 (⟨#[99]⟩ : ByteArray)).bind fun bt241 => ((dev_Read.f k bt241.1 bt241.2.1 bt241.2.2.1 bt241.2.2.2.1 bt241.2.2.2.2.1 3).bind fun bt251 => ((dev_Crash.f k bt241.1 bt241.2.1 bt241.2.2.1 bt241.2.2.2.1 bt241.2.2.2.2.1 (([false, true] : List Bool))).bind fun bt256 => ((dev_Read.f k bt256.1 bt256.2.1 bt256.2.2.1 bt256.2.2.2.1 bt256.2.2.2.2.1 3).bind fun bt267 => ((dev_Read.f k bt256.1 bt256.2.1 bt256.2.2.1 bt256.2.2.2.1 bt256.2.2.2.2.1 4).bind fun bt269 => ((dev_Write.f k bt256.1 bt256.2.1 bt256.2.2.1 bt256.2.2.2.1 bt256.2.2.2.2.1 16 (⟨#[120]⟩ : ByteArray)).bind fun bt271 => (if t220 = 0 then (if t230 = 0 then (if t240 = 0 then (if bt241.2.2.2.2.2 = 0 then (if bt251.1.toList = ([98] : List UInt8) then (if bt251.2 = 0 then (if bt256.2.2.2.2.2 = 0 then (if bt267.1.toList = ([97] : List UInt8) then (if bt267.2 = 0 then (if bt269.1.toList = ([99] : List UInt8) then (if bt269.2 = 0 then (some (bt271.2.2.2.2.2 == 1)) else (some false)) else (some false)) else (some false)) else (some false)) else (some false)) else (some false)) else (some false)) else (some false)) else (some false)) else (some false)) else (some false)))))))) = some r := H
  have A3 := Aside0.mk A30
  clear A30
  replace H := Option.bind_eq_some_iff.mp H
  obtain ⟨⟨t241, t242, t245, t248, t249, t250⟩, A40, H⟩ := H
  replace H : ((dev_Read.f k t241 t242 t245 t248 t249 3).bind fun bt251 => ((dev_Crash.f k t241 t242 t245 t248 t249 (([false, true] : List Bool))).bind fun bt256 => ((dev_Read.f k bt256.1 bt256.2.1 bt256.2.2.1 bt256.2.2.2.1 bt256.2.2.2.2.1 3).bind fun bt267 => ((dev_Read.f k bt256.1 bt256.2.1 bt256.2.2.1 bt256.2.2.2.1 bt256.2.2.2.2.1 4).bind fun bt269 => ((dev_Write.f k bt256.1 bt256.2.1 bt256.2.2.1 bt256.2.2.2.1 bt256.2.2.2.2.1 16 (⟨#[120]⟩ : ByteArray)).bind fun bt271 => (if t220 = 0 then (if t230 = 0 then (if t240 = 0 then (if t250 = 0 then (if bt251.1.toList = ([98] : List UInt8) then (if bt251.2 = 0 then (if bt256.2.2.2.2.2 = 0 then (if bt267.1.toList = ([97] : List UInt8) then (if bt267.2 = 0 then (if bt269.1.toList = ([99] : List UInt8) then (if bt269.2 = 0 then (some (bt271.2.2.2.2.2 == 1)) else (some false)) else (some false)) else (some false)) else (some false)) else (some false)) else (some false)) else (some false)) else (some false)) else (some false)) else (some false)) else (some false))))))) = some r := H
  have A4 := Aside0.mk A40
  clear A40
  replace H := Option.bind_eq_some_iff.mp H
  obtain ⟨⟨t251, t252⟩, A50, H⟩ := H
  replace H : ((dev_Crash.f k t241 t242 t245 t248 t249 (([false, true] : List Bool))).bind fun bt256 => ((dev_Read.f k bt256.1 bt256.2.1 bt256.2.2.1 bt256.2.2.2.1 bt256.2.2.2.2.1 3).bind fun bt267 => ((dev_Read.f k bt256.1 bt256.2.1 bt256.2.2.1 bt256.2.2.2.1 bt256.2.2.2.2.1 4).bind fun bt269 => ((dev_Write.f k bt256.1 bt256.2.1 bt256.2.2.1 bt256.2.2.2.1 bt256.2.2.2.2.1 16 (⟨#[120]⟩ : ByteArray)).bind fun bt271 => (if t220 = 0 then (if t230 = 0 then (if t240 = 0 then (if t250 = 0 then (if t251.toList = ([98] : List UInt8) then (if t252 = 0 then (if bt256.2.2.2.2.2 = 0 then (if bt267.1.toList = ([97] : List UInt8) then (if bt267.2 = 0 then (if bt269.1.toList = ([99] : List UInt8) then (if bt269.2 = 0 then (some (bt271.2.2.2.2.2 == 1)) else (some false)) else (some false)) else (some false)) else (some false)) else (some false)) else (some false)) else (some false)) else (some false)) else (some false)) else (some false)) else (some false)))))) = some r := H
  have A5 := Aside0.mk A50
  clear A50
  obtain ⟨y253, hy253⟩ : ∃ y_ : List Bool, y_ = (([false, true] : List Bool)) := ⟨_, rfl⟩
  replace H : ((dev_Crash.f k t241 t242 t245 t248 t249 y253).bind fun bt256 => ((dev_Read.f k bt256.1 bt256.2.1 bt256.2.2.1 bt256.2.2.2.1 bt256.2.2.2.2.1 3).bind fun bt267 => ((dev_Read.f k bt256.1 bt256.2.1 bt256.2.2.1 bt256.2.2.2.1 bt256.2.2.2.2.1 4).bind fun bt269 => ((dev_Write.f k bt256.1 bt256.2.1 bt256.2.2.1 bt256.2.2.2.1 bt256.2.2.2.2.1 16 (⟨#[120]⟩ : ByteArray)).bind fun bt271 => (if t220 = 0 then (if t230 = 0 then (if t240 = 0 then (if t250 = 0 then (if t251.toList = ([98] : List UInt8) then (if t252 = 0 then (if bt256.2.2.2.2.2 = 0 then (if bt267.1.toList = ([97] : List UInt8) then (if bt267.2 = 0 then (if bt269.1.toList = ([99] : List UInt8) then (if bt269.2 = 0 then (some (bt271.2.2.2.2.2 == 1)) else (some false)) else (some false)) else (some false)) else (some false)) else (some false)) else (some false)) else (some false)) else (some false)) else (some false)) else (some false)) else (some false)))))) = some r := by first | (rw [hy253]; with_reducible exact H) | (have H2_ := (Option.bind_some _ _).symm.trans H; rw [hy253]; with_reducible exact H2_) | (have H2_ := (Option.bind_some _ _).symm.trans H; with_reducible exact H2_) | with_reducible exact H | (rw [hy253]; exact H) | exact H
  have Ny253 := Aside0.mk hy253
  clear hy253
  replace H := Option.bind_eq_some_iff.mp H
  obtain ⟨⟨t256, t257, t260, t263, t264, t265⟩, A60, H⟩ := H
  replace H : ((dev_Read.f k t256 t257 t260 t263 t264 3).bind fun bt267 => ((dev_Read.f k t256 t257 t260 t263 t264 4).bind fun bt269 => ((dev_Write.f k t256 t257 t260 t263 t264 16 (⟨#[120]⟩ : ByteArray)).bind fun bt271 => (if t220 = 0 then (if t230 = 0 then (if t240 = 0 then (if t250 = 0 then (if t251.toList = ([98] : List UInt8) then (if t252 = 0 then (if t265 = 0 then (if bt267.1.toList = ([97] : List UInt8) then (if bt267.2 = 0 then (if bt269.1.toList = ([99] : List UInt8) then (if bt269.2 = 0 then (some (bt271.2.2.2.2.2 == 1)) else (some false)) else (some false)) else (some false)) else (some false)) else (some false)) else (some false)) else (some false)) else (some false)) else (some false)) else (some false)) else (some false))))) = some r := H
  have A6 := Aside0.mk A60
  clear A60
  replace H := Option.bind_eq_some_iff.mp H
  obtain ⟨⟨t267, t268⟩, A70, H⟩ := H
  replace H : ((dev_Read.f k t256 t257 t260 t263 t264 4).bind fun bt269 => ((dev_Write.f k t256 t257 t260 t263 t264 16 (⟨#[120]⟩ : ByteArray)).bind fun bt271 => (if t220 = 0 then (if t230 = 0 then (if t240 = 0 then (if t250 = 0 then (if t251.toList = ([98] : List UInt8) then (if t252 = 0 then (if t265 = 0 then (if t267.toList = ([97] : List UInt8) then (if t268 = 0 then (if bt269.1.toList = ([99] : List UInt8) then (if bt269.2 = 0 then (some (bt271.2.2.2.2.2 == 1)) else (some false)) else (some false)) else (some false)) else (some false)) else (some false)) else (some false)) else (some false)) else (some false)) else (some false)) else (some false)) else (some false)))) = some r := H
  have A7 := Aside0.mk A70
  clear A70
  replace H := Option.bind_eq_some_iff.mp H
  obtain ⟨⟨t269, t270⟩, A80, H⟩ := H
  replace H : ((dev_Write.f k t256 t257 t260 t263 t264 16 (⟨#[120]⟩ : ByteArray)).bind fun bt271 => (if t220 = 0 then (if t230 = 0 then (if t240 = 0 then (if t250 = 0 then (if t251.toList = ([98] : List UInt8) then (if t252 = 0 then (if t265 = 0 then (if t267.toList = ([97] : List UInt8) then (if t268 = 0 then (if t269.toList = ([99] : List UInt8) then (if t270 = 0 then (some (bt271.2.2.2.2.2 == 1)) else (some false)) else (some false)) else (some false)) else (some false)) else (some false)) else (some false)) else (some false)) else (some false)) else (some false)) else (some false)) else (some false))) = some r := H
  have A8 := Aside0.mk A80
  clear A80
  replace H := Option.bind_eq_some_iff.mp H
  obtain ⟨⟨t271, t272, t275, t278, t279, t280⟩, A90, H⟩ := H
  replace H : (if t220 = 0 then (if t230 = 0 then (if t240 = 0 then (if t250 = 0 then (if t251.toList = ([98] : List UInt8) then (if t252 = 0 then (if t265 = 0 then (if t267.toList = ([97] : List UInt8) then (if t268 = 0 then (if t269.toList = ([99] : List UInt8) then (if t270 = 0 then (some (t280 == 1)) else (some false)) else (some false)) else (some false)) else (some false)) else (some false)) else (some false)) else (some false)) else (some false)) else (some false)) else (some false)) else (some false)) = some r := H
  have A9 := Aside0.mk A90
  clear A90
  by_cases c10 : t220 = 0
  · rw [if_pos c10] at H
    have c10b0 : (t220 == 0) = true := beq_iff_eq.mpr c10
    have c10b1 : (t220 != 0) = false := bne_eq_false_iff_eq.mpr c10
    clear c10
    by_cases c11 : t230 = 0
    · rw [if_pos c11] at H
      have c11b0 : (t230 == 0) = true := beq_iff_eq.mpr c11
      have c11b1 : (t230 != 0) = false := bne_eq_false_iff_eq.mpr c11
      clear c11
      by_cases c12 : t240 = 0
      · rw [if_pos c12] at H
        have c12b0 : (t240 == 0) = true := beq_iff_eq.mpr c12
        have c12b1 : (t240 != 0) = false := bne_eq_false_iff_eq.mpr c12
        clear c12
        by_cases c13 : t250 = 0
        · rw [if_pos c13] at H
          have c13b0 : (t250 == 0) = true := beq_iff_eq.mpr c13
          have c13b1 : (t250 != 0) = false := bne_eq_false_iff_eq.mpr c13
          clear c13
          by_cases c14 : t251.toList = ([98] : List UInt8)
          · rw [if_pos c14] at H
            have c14b0 : (t251.toList == ([98] : List UInt8)) = true := beq_iff_eq.mpr c14
            have c14b1 : (t251.toList != ([98] : List UInt8)) = false := bne_eq_false_iff_eq.mpr c14
            clear c14
            by_cases c15 : t252 = 0
            · rw [if_pos c15] at H
              have c15b0 : (t252 == 0) = true := beq_iff_eq.mpr c15
              have c15b1 : (t252 != 0) = false := bne_eq_false_iff_eq.mpr c15
              clear c15
              by_cases c16 : t265 = 0
              · rw [if_pos c16] at H
                have c16b0 : (t265 == 0) = true := beq_iff_eq.mpr c16
                have c16b1 : (t265 != 0) = false := bne_eq_false_iff_eq.mpr c16
                clear c16
                by_cases c17 : t267.toList = ([97] : List UInt8)
                · rw [if_pos c17] at H
                  have c17b0 : (t267.toList == ([97] : List UInt8)) = true := beq_iff_eq.mpr c17
                  have c17b1 : (t267.toList != ([97] : List UInt8)) = false := bne_eq_false_iff_eq.mpr c17
                  clear c17
                  by_cases c18 : t268 = 0
                  · rw [if_pos c18] at H
                    have c18b0 : (t268 == 0) = true := beq_iff_eq.mpr c18
                    have c18b1 : (t268 != 0) = false := bne_eq_false_iff_eq.mpr c18
                    clear c18
                    by_cases c19 : t269.toList = ([99] : List UInt8)
                    · rw [if_pos c19] at H
                      have c19b0 : (t269.toList == ([99] : List UInt8)) = true := beq_iff_eq.mpr c19
                      have c19b1 : (t269.toList != ([99] : List UInt8)) = false := bne_eq_false_iff_eq.mpr c19
                      clear c19
                      by_cases c20 : t270 = 0
                      · rw [if_pos c20] at H
                        have c20b0 : (t270 == 0) = true := beq_iff_eq.mpr c20
                        have c20b1 : (t270 != 0) = false := bne_eq_false_iff_eq.mpr c20
                        clear c20
                        obtain rfl := Option.some.inj H
                        go_enter Tryd.func19, Tryd.ntmps19
                        go_wp2_with (first | ((with_reducible refine gate_dst (N := 1) rfl ?_); refine bx_ (N := 1) (cs := #[.int .u32 0, .slice none 0 0, .slice none 0 0, .bool false, .int .i64 0]) (t := 25) ?_; intro gb210 hg w21 hbox hb; have BK210 := Aside0.mk (hbox); have GW210 := ge_ hg; have GE210 := ge_ hg; replace HB := hb_ hb; clear hb hbox hg; obtain ⟨hcz22_0, hcz22_1, hcz22_2, hcz22_3, hcz22_4⟩ := cl5_ BK210; obtain ⟨hfz22_0, hfz22_1, hfz22_2, hfz22_3, hfz22_4⟩ := fz5_ BK210) | ((with_reducible refine gate_callee (f := 13) rfl ?_); refine gl_ (some 19) Tryd.func13 #[.agg #[.int .u32 16, .slice none 0 0, .slice none 0 0, .bool false, .int .i64 (-1)], .int .u32 3, .string (⟨#[97, 0]⟩ : ByteArray)] ?_; (refine (dev_Write.calls k 16 _ _ ([] : List (S39)) _ _ ([] : List (S39)) false (-1) 3 (⟨#[97, 0]⟩ : ByteArray) t211 t212 t215 t218 t219 t220 _ ?side1 ?side2 ?side3 ?side4 A1.out).mono ?_); (case side1 => exact Kd.C_nil _ _); (case side2 => exact Nat.le_refl _); (case side3 => exact Kd.C_nil _ _); (case side4 => exact Nat.le_refl _); rintro e w23 ⟨v213, v216, rfl, ho0, ho1, hb⟩; refine ⟨_, rfl, ?_⟩; have HO214 := rl_ ho0; have HO217 := rl_ ho1; replace BK210 := Aside0.mk (blk_below (g := gb210) (o := .cells #[.int .u32 16, .slice none 0 0, .slice none 0 0, .bool false, .int .i64 (-1)] 25 (0, 0)) (bs_) hb); replace HB := hb_ hb; (try clear hb); (try clear hb2); (try clear hk); (try clear hi); (try clear ho0); (try clear ho1); obtain ⟨hcz24_0, hcz24_1, hcz24_2, hcz24_3, hcz24_4⟩ := cl5_ BK210; obtain ⟨hfz24_0, hfz24_1, hfz24_2, hfz24_3, hfz24_4⟩ := fz5_ BK210; obtain ⟨Ao25, co25, eo25⟩ := Kd.R_slice HO214.out; subst eo25; obtain ⟨Ao26, co26, eo26⟩ := Kd.R_slice HO217.out; subst eo26) | ((with_reducible refine gate_callee (f := 15) rfl ?_); refine gl_ (some 24) Tryd.func15 #[.agg #[.int .u32 t211, .slice Ao25 t212.length co25, .slice Ao26 t215.length co26, .bool t218, .int .i64 t219]] ?_; (with_reducible refine (dev_Flush.calls k t211 _ _ t212 _ _ t215 t218 t219 t221 t222 t225 t228 t229 t230 _ ?side1 ?side2 ?side3 ?side4 A2.out).mono ?_); (case side1 => exact (Kd.R_reads' (rw_ HO214)).2.2); (case side2 => exact (Kd.R_reads' HO214.out).2.1); (case side3 => exact (Kd.R_reads' (rw_ HO217)).2.2); (case side4 => exact (Kd.R_reads' HO217.out).2.1); rintro e w27 ⟨v223, v226, rfl, ho0, ho1, hb⟩; refine ⟨_, rfl, ?_⟩; have HO224 := Aside0.mk (Kd.R_lower (Kd.R_new' (Kd.R_new' ho0 (Kd.R_lt (rw_ HO214))) (Kd.R_lt (rw_ HO217))) (below_size bel_)); have HO227 := Aside0.mk (Kd.R_lower (Kd.R_new' (Kd.R_new' ho1 (Kd.R_lt (rw_ HO214))) (Kd.R_lt (rw_ HO217))) (below_size bel_)); replace HO214 := Aside0.mk (Kd.R_mono (Kd.R_told (Kd.R_told (Kd.R_old (rw_ HO214) hb) (Kd.R_base ho0)) (Kd.R_base ho1)) (fun _ h_ => h_.1)); replace HO217 := Aside0.mk (Kd.R_mono (Kd.R_told (Kd.R_told (Kd.R_old (rw_ HO217) hb) (Kd.R_base ho0)) (Kd.R_base ho1)) (fun _ h_ => h_.1)); replace HB := hb_ hb; replace BK210 := Aside0.mk (blk_below (g := gb210) (o := .cells #[.int .u32 t211, .slice Ao25 t212.length co25, .slice Ao26 t215.length co26, .bool t218, .int .i64 t219] 25 (0, 0)) (bs_) hb); (try clear hb); (try clear hb2); (try clear hk); (try clear hi); (try clear ho0); (try clear ho1); obtain ⟨hcz28_0, hcz28_1, hcz28_2, hcz28_3, hcz28_4⟩ := cl5_ BK210; obtain ⟨hfz28_0, hfz28_1, hfz28_2, hfz28_3, hfz28_4⟩ := fz5_ BK210; obtain ⟨Ao29, co29, eo29⟩ := Kd.R_slice HO224.out; subst eo29; obtain ⟨Ao30, co30, eo30⟩ := Kd.R_slice HO227.out; subst eo30) | ((with_reducible refine gate_callee (f := 13) rfl ?_); refine gl_ (some 29) Tryd.func13 #[.agg #[.int .u32 t221, .slice Ao29 t222.length co29, .slice Ao30 t225.length co30, .bool t228, .int .i64 t229], .int .u32 3, .string (⟨#[98]⟩ : ByteArray)] ?_; (with_reducible refine (dev_Write.calls k t221 _ _ t222 _ _ t225 t228 t229 3 (⟨#[98]⟩ : ByteArray) t231 t232 t235 t238 t239 t240 _ ?side1 ?side2 ?side3 ?side4 A3.out).mono ?_); (case side1 => exact (Kd.R_reads' (rw_ HO224)).2.2); (case side2 => exact (Kd.R_reads' HO224.out).2.1); (case side3 => exact (Kd.R_reads' (rw_ HO227)).2.2); (case side4 => exact (Kd.R_reads' HO227.out).2.1); rintro e w31 ⟨v233, v236, rfl, ho0, ho1, hb⟩; refine ⟨_, rfl, ?_⟩; have HO234 := Aside0.mk (Kd.R_lower (Kd.R_new' (Kd.R_new' (Kd.R_new' (Kd.R_new' ho0 (Kd.R_lt (rw_ HO214))) (Kd.R_lt (rw_ HO217))) (Kd.R_lt (rw_ HO224))) (Kd.R_lt (rw_ HO227))) (below_size bel_)); have HO237 := Aside0.mk (Kd.R_lower (Kd.R_new' (Kd.R_new' (Kd.R_new' (Kd.R_new' ho1 (Kd.R_lt (rw_ HO214))) (Kd.R_lt (rw_ HO217))) (Kd.R_lt (rw_ HO224))) (Kd.R_lt (rw_ HO227))) (below_size bel_)); replace HO214 := Aside0.mk (Kd.R_mono (Kd.R_told (Kd.R_told (Kd.R_old (rw_ HO214) hb) (Kd.R_base ho0)) (Kd.R_base ho1)) (fun _ h_ => h_.1)); replace HO217 := Aside0.mk (Kd.R_mono (Kd.R_told (Kd.R_told (Kd.R_old (rw_ HO217) hb) (Kd.R_base ho0)) (Kd.R_base ho1)) (fun _ h_ => h_.1)); replace HO224 := Aside0.mk (Kd.R_mono (Kd.R_told (Kd.R_told (Kd.R_old (rw_ HO224) hb) (Kd.R_base ho0)) (Kd.R_base ho1)) (fun _ h_ => h_.1)); replace HO227 := Aside0.mk (Kd.R_mono (Kd.R_told (Kd.R_told (Kd.R_old (rw_ HO227) hb) (Kd.R_base ho0)) (Kd.R_base ho1)) (fun _ h_ => h_.1)); replace HB := hb_ hb; replace BK210 := Aside0.mk (blk_below (g := gb210) (o := .cells #[.int .u32 t221, .slice Ao29 t222.length co29, .slice Ao30 t225.length co30, .bool t228, .int .i64 t229] 25 (0, 0)) (bs_) hb); (try clear hb); (try clear hb2); (try clear hk); (try clear hi); (try clear ho0); (try clear ho1); obtain ⟨hcz32_0, hcz32_1, hcz32_2, hcz32_3, hcz32_4⟩ := cl5_ BK210; obtain ⟨hfz32_0, hfz32_1, hfz32_2, hfz32_3, hfz32_4⟩ := fz5_ BK210; obtain ⟨Ao33, co33, eo33⟩ := Kd.R_slice HO234.out; subst eo33; obtain ⟨Ao34, co34, eo34⟩ := Kd.R_slice HO237.out; subst eo34) | ((with_reducible refine gate_callee (f := 13) rfl ?_); refine gl_ (some 34) Tryd.func13 #[.agg #[.int .u32 t231, .slice Ao33 t232.length co33, .slice Ao34 t235.length co34, .bool t238, .int .i64 t239], .int .u32 4, .string (⟨#[99]⟩ : ByteArray)] ?_; (with_reducible refine (dev_Write.calls k t231 _ _ t232 _ _ t235 t238 t239 4 (⟨#[99]⟩ : ByteArray) t241 t242 t245 t248 t249 t250 _ ?side1 ?side2 ?side3 ?side4 A4.out).mono ?_); (case side1 => exact (Kd.R_reads' (rw_ HO234)).2.2); (case side2 => exact (Kd.R_reads' HO234.out).2.1); (case side3 => exact (Kd.R_reads' (rw_ HO237)).2.2); (case side4 => exact (Kd.R_reads' HO237.out).2.1); rintro e w35 ⟨v243, v246, rfl, ho0, ho1, hb⟩; refine ⟨_, rfl, ?_⟩; have HO244 := Aside0.mk (Kd.R_lower (Kd.R_new' (Kd.R_new' (Kd.R_new' (Kd.R_new' (Kd.R_new' (Kd.R_new' ho0 (Kd.R_lt (rw_ HO214))) (Kd.R_lt (rw_ HO217))) (Kd.R_lt (rw_ HO224))) (Kd.R_lt (rw_ HO227))) (Kd.R_lt (rw_ HO234))) (Kd.R_lt (rw_ HO237))) (below_size bel_)); have HO247 := Aside0.mk (Kd.R_lower (Kd.R_new' (Kd.R_new' (Kd.R_new' (Kd.R_new' (Kd.R_new' (Kd.R_new' ho1 (Kd.R_lt (rw_ HO214))) (Kd.R_lt (rw_ HO217))) (Kd.R_lt (rw_ HO224))) (Kd.R_lt (rw_ HO227))) (Kd.R_lt (rw_ HO234))) (Kd.R_lt (rw_ HO237))) (below_size bel_)); replace HO214 := Aside0.mk (Kd.R_mono (Kd.R_told (Kd.R_told (Kd.R_old (rw_ HO214) hb) (Kd.R_base ho0)) (Kd.R_base ho1)) (fun _ h_ => h_.1)); replace HO217 := Aside0.mk (Kd.R_mono (Kd.R_told (Kd.R_told (Kd.R_old (rw_ HO217) hb) (Kd.R_base ho0)) (Kd.R_base ho1)) (fun _ h_ => h_.1)); replace HO224 := Aside0.mk (Kd.R_mono (Kd.R_told (Kd.R_told (Kd.R_old (rw_ HO224) hb) (Kd.R_base ho0)) (Kd.R_base ho1)) (fun _ h_ => h_.1)); replace HO227 := Aside0.mk (Kd.R_mono (Kd.R_told (Kd.R_told (Kd.R_old (rw_ HO227) hb) (Kd.R_base ho0)) (Kd.R_base ho1)) (fun _ h_ => h_.1)); replace HO234 := Aside0.mk (Kd.R_mono (Kd.R_told (Kd.R_told (Kd.R_old (rw_ HO234) hb) (Kd.R_base ho0)) (Kd.R_base ho1)) (fun _ h_ => h_.1)); replace HO237 := Aside0.mk (Kd.R_mono (Kd.R_told (Kd.R_told (Kd.R_old (rw_ HO237) hb) (Kd.R_base ho0)) (Kd.R_base ho1)) (fun _ h_ => h_.1)); replace HB := hb_ hb; replace BK210 := Aside0.mk (blk_below (g := gb210) (o := .cells #[.int .u32 t231, .slice Ao33 t232.length co33, .slice Ao34 t235.length co34, .bool t238, .int .i64 t239] 25 (0, 0)) (bs_) hb); (try clear hb); (try clear hb2); (try clear hk); (try clear hi); (try clear ho0); (try clear ho1); obtain ⟨hcz36_0, hcz36_1, hcz36_2, hcz36_3, hcz36_4⟩ := cl5_ BK210; obtain ⟨hfz36_0, hfz36_1, hfz36_2, hfz36_3, hfz36_4⟩ := fz5_ BK210; obtain ⟨Ao37, co37, eo37⟩ := Kd.R_slice HO244.out; subst eo37; obtain ⟨Ao38, co38, eo38⟩ := Kd.R_slice HO247.out; subst eo38) | ((with_reducible refine gate_callee (f := 17) rfl ?_); refine gl_ (some 39) Tryd.func17 #[.agg #[.int .u32 t241, .slice Ao37 t242.length co37, .slice Ao38 t245.length co38, .bool t248, .int .i64 t249], .int .u32 3] ?_; (with_reducible refine (dev_Read.calls k t241 _ _ t242 _ _ t245 t248 t249 3 t251 t252 _ ?side1 ?side2 ?side3 ?side4 A5.out).mono ?_); (case side1 => exact (Kd.R_reads' (rw_ HO244)).2.2); (case side2 => exact (Kd.R_reads' HO244.out).2.1); (case side3 => exact (Kd.R_reads' (rw_ HO247)).2.2); (case side4 => exact (Kd.R_reads' HO247.out).2.1); rintro e w39 ⟨rfl, hb⟩; refine ⟨_, rfl, ?_⟩; replace HO214 := Aside0.mk (Kd.R_below (rw_ HO214) hb); replace HO217 := Aside0.mk (Kd.R_below (rw_ HO217) hb); replace HO224 := Aside0.mk (Kd.R_below (rw_ HO224) hb); replace HO227 := Aside0.mk (Kd.R_below (rw_ HO227) hb); replace HO234 := Aside0.mk (Kd.R_below (rw_ HO234) hb); replace HO237 := Aside0.mk (Kd.R_below (rw_ HO237) hb); replace HO244 := Aside0.mk (Kd.R_below (rw_ HO244) hb); replace HO247 := Aside0.mk (Kd.R_below (rw_ HO247) hb); replace HB := hb_ hb; replace BK210 := Aside0.mk (blk_below (g := gb210) (o := .cells #[.int .u32 t241, .slice Ao37 t242.length co37, .slice Ao38 t245.length co38, .bool t248, .int .i64 t249] 25 (0, 0)) (bs_) hb); (try clear hb); (try clear hb2); (try clear hk); (try clear hi); obtain ⟨hcz40_0, hcz40_1, hcz40_2, hcz40_3, hcz40_4⟩ := cl5_ BK210; obtain ⟨hfz40_0, hfz40_1, hfz40_2, hfz40_3, hfz40_4⟩ := fz5_ BK210) | ((with_reducible refine gate_dst (N := 44) rfl ?_); refine Kd.R_lit Kd.bool _ 4 ?hg (N := 44) ?hd (xs := ([false, true] : List Bool)) (inner := [.bool false, .bool true]) (ok := fun _ => True) (okp := fun _ => True) ?hr ?hp (fun _ hk => hk) trivial (Below.refl _ _) (Nat.le_refl _) (by simp) ?_; (case hd => rfl); (case hg => rfl); (case hr => first | (go_simp; done) | (go_simp; rfl)); (case hp => exact (Reps.one (show Kd.M Kd.bool _ _ _ false [.bool false] from rfl) (Reps.one (show Kd.M Kd.bool _ _ _ true [.bool true] from rfl) (Reps.none _ _)))); intro v254 w41 ho42 hb hg_ hnew_; clear hg_ hnew_; (first | rw [← Ny253.out] at ho42 | (simp only [Int.reduceToNat] at ho42; rw [← Ny253.out] at ho42)); have HO255 := rl_ ho42; replace HO214 := rb_ HO214 hb; replace HO217 := rb_ HO217 hb; replace HO224 := rb_ HO224 hb; replace HO227 := rb_ HO227 hb; replace HO234 := rb_ HO234 hb; replace HO237 := rb_ HO237 hb; replace HO244 := rb_ HO244 hb; replace HO247 := rb_ HO247 hb; replace BK210 := kb_ BK210 hb; replace HB := hb_ hb; clear hb ho42; obtain ⟨Ao43, co43, eo43⟩ := Kd.R_slice HO255.out; subst eo43) | ((with_reducible refine gate_callee (f := 23) rfl ?_); refine gl_ (some 45) Tryd.func23 #[.agg #[.int .u32 t241, .slice Ao37 t242.length co37, .slice Ao38 t245.length co38, .bool t248, .int .i64 t249], .slice Ao43 y253.length co43] ?_; (with_reducible refine (dev_Crash.calls k t241 _ _ t242 _ _ t245 t248 t249 _ _ y253 t256 t257 t260 t263 t264 t265 _ ?side1 ?side2 ?side3 ?side4 ?side5 ?side6 A6.out).mono ?_); (case side1 => exact cr_ HO244); (case side2 => exact (Kd.R_reads' HO244.out).2.1); (case side3 => exact cr_ HO247); (case side4 => exact (Kd.R_reads' HO247.out).2.1); (case side5 => exact cr_ HO255); (case side6 => exact (Kd.R_reads' HO255.out).2.1); rintro e w44 ⟨v258, v261, rfl, ho0, ho1, hb⟩; refine ⟨_, rfl, ?_⟩; have HO259 := Aside0.mk (Kd.R_lower (Kd.R_new' (Kd.R_new' (Kd.R_new' (Kd.R_new' (Kd.R_new' (Kd.R_new' (Kd.R_new' (Kd.R_new' ho0 (Kd.R_lt (ra_ HO214))) (Kd.R_lt (ra_ HO217))) (Kd.R_lt (ra_ HO224))) (Kd.R_lt (ra_ HO227))) (Kd.R_lt (ra_ HO234))) (Kd.R_lt (ra_ HO237))) (Kd.R_lt (ra_ HO244))) (Kd.R_lt (ra_ HO247))) (below_size bel_)); have HO262 := Aside0.mk (Kd.R_lower (Kd.R_new' (Kd.R_new' (Kd.R_new' (Kd.R_new' (Kd.R_new' (Kd.R_new' (Kd.R_new' (Kd.R_new' ho1 (Kd.R_lt (ra_ HO214))) (Kd.R_lt (ra_ HO217))) (Kd.R_lt (ra_ HO224))) (Kd.R_lt (ra_ HO227))) (Kd.R_lt (ra_ HO234))) (Kd.R_lt (ra_ HO237))) (Kd.R_lt (ra_ HO244))) (Kd.R_lt (ra_ HO247))) (below_size bel_)); replace HO214 := Aside0.mk (Kd.R_mono (Kd.R_told (Kd.R_told (Kd.R_old (ra_ HO214) hb) (Kd.R_base ho0)) (Kd.R_base ho1)) (fun _ h_ => h_.1)); replace HO217 := Aside0.mk (Kd.R_mono (Kd.R_told (Kd.R_told (Kd.R_old (ra_ HO217) hb) (Kd.R_base ho0)) (Kd.R_base ho1)) (fun _ h_ => h_.1)); replace HO224 := Aside0.mk (Kd.R_mono (Kd.R_told (Kd.R_told (Kd.R_old (ra_ HO224) hb) (Kd.R_base ho0)) (Kd.R_base ho1)) (fun _ h_ => h_.1)); replace HO227 := Aside0.mk (Kd.R_mono (Kd.R_told (Kd.R_told (Kd.R_old (ra_ HO227) hb) (Kd.R_base ho0)) (Kd.R_base ho1)) (fun _ h_ => h_.1)); replace HO234 := Aside0.mk (Kd.R_mono (Kd.R_told (Kd.R_told (Kd.R_old (ra_ HO234) hb) (Kd.R_base ho0)) (Kd.R_base ho1)) (fun _ h_ => h_.1)); replace HO237 := Aside0.mk (Kd.R_mono (Kd.R_told (Kd.R_told (Kd.R_old (ra_ HO237) hb) (Kd.R_base ho0)) (Kd.R_base ho1)) (fun _ h_ => h_.1)); replace HO244 := Aside0.mk (Kd.R_mono (Kd.R_told (Kd.R_told (Kd.R_old (ra_ HO244) hb) (Kd.R_base ho0)) (Kd.R_base ho1)) (fun _ h_ => h_.1)); replace HO247 := Aside0.mk (Kd.R_mono (Kd.R_told (Kd.R_told (Kd.R_old (ra_ HO247) hb) (Kd.R_base ho0)) (Kd.R_base ho1)) (fun _ h_ => h_.1)); replace HO255 := rb_ HO255 hb; replace BK210 := kb_ BK210 hb; replace HB := hb_ hb; (try clear hb); (try clear hb2); (try clear hk); (try clear hi); (try clear ho0); (try clear ho1)) | ((with_reducible refine gate_dst (N := 8) rfl ?_); refine bx_ (N := 8) (cs := #[.int .u32 0, .slice none 0 0, .slice none 0 0, .bool false, .int .i64 0]) (t := 25) ?_; intro gb266 hg w45 hbox hb; have BK266 := Aside0.mk (hbox); have GW266 := ge_ hg; have GE266 := ge_ hg; have NB210_266 := nl_ BK210 hg; have NB266_210 := ng_ BK210 hg; replace HO214 := rb_ HO214 hb; replace HO217 := rb_ HO217 hb; replace HO224 := rb_ HO224 hb; replace HO227 := rb_ HO227 hb; replace HO234 := rb_ HO234 hb; replace HO237 := rb_ HO237 hb; replace HO244 := rb_ HO244 hb; replace HO247 := rb_ HO247 hb; replace HO255 := rb_ HO255 hb; replace HO259 := rb_ HO259 hb; replace HO262 := rb_ HO262 hb; replace BK210 := kb_ BK210 hb; replace HB := hb_ hb; clear hb hbox hg; have hnb46 := NB266_210.out; have hnc46 := NB210_266.out; obtain ⟨hcz47_0, hcz47_1, hcz47_2, hcz47_3, hcz47_4⟩ := cl5_ BK266; obtain ⟨hfz47_0, hfz47_1, hfz47_2, hfz47_3, hfz47_4⟩ := fz5_ BK266; obtain ⟨Ao48, co48, eo48⟩ := Kd.R_slice HO259.out; subst eo48; obtain ⟨Ao49, co49, eo49⟩ := Kd.R_slice HO262.out; subst eo49) | ((with_reducible refine gate_callee (f := 17) rfl ?_); refine gl_ (some 50) Tryd.func17 #[.agg #[.int .u32 t256, .slice Ao48 t257.length co48, .slice Ao49 t260.length co49, .bool t263, .int .i64 t264], .int .u32 3] ?_; (with_reducible refine (dev_Read.calls k t256 _ _ t257 _ _ t260 t263 t264 3 t267 t268 _ ?side1 ?side2 ?side3 ?side4 A7.out).mono ?_); (case side1 => exact (Kd.R_reads' (rw_ HO259)).2.2); (case side2 => exact (Kd.R_reads' HO259.out).2.1); (case side3 => exact (Kd.R_reads' (rw_ HO262)).2.2); (case side4 => exact (Kd.R_reads' HO262.out).2.1); rintro e w50 ⟨rfl, hb⟩; refine ⟨_, rfl, ?_⟩; replace HO214 := Aside0.mk (Kd.R_below (rw_ HO214) hb); replace HO217 := Aside0.mk (Kd.R_below (rw_ HO217) hb); replace HO224 := Aside0.mk (Kd.R_below (rw_ HO224) hb); replace HO227 := Aside0.mk (Kd.R_below (rw_ HO227) hb); replace HO234 := Aside0.mk (Kd.R_below (rw_ HO234) hb); replace HO237 := Aside0.mk (Kd.R_below (rw_ HO237) hb); replace HO244 := Aside0.mk (Kd.R_below (rw_ HO244) hb); replace HO247 := Aside0.mk (Kd.R_below (rw_ HO247) hb); replace HO255 := Aside0.mk (Kd.R_below (rw_ HO255) hb); replace HO259 := Aside0.mk (Kd.R_below (rw_ HO259) hb); replace HO262 := Aside0.mk (Kd.R_below (rw_ HO262) hb); replace BK210 := Aside0.mk (blk_below (g := gb210) (o := .cells #[.int .u32 t241, .slice Ao37 t242.length co37, .slice Ao38 t245.length co38, .bool t248, .int .i64 t249] 25 (0, 0)) (bs_) hb); replace HB := hb_ hb; replace BK266 := Aside0.mk (blk_below (g := gb266) (o := .cells #[.int .u32 t256, .slice Ao48 t257.length co48, .slice Ao49 t260.length co49, .bool t263, .int .i64 t264] 25 (0, 0)) (bs_) hb); (try clear hb); (try clear hb2); (try clear hk); (try clear hi); obtain ⟨hcz51_0, hcz51_1, hcz51_2, hcz51_3, hcz51_4⟩ := cl5_ BK266; obtain ⟨hfz51_0, hfz51_1, hfz51_2, hfz51_3, hfz51_4⟩ := fz5_ BK266) | ((with_reducible refine gate_callee (f := 17) rfl ?_); refine gl_ (some 55) Tryd.func17 #[.agg #[.int .u32 t256, .slice Ao48 t257.length co48, .slice Ao49 t260.length co49, .bool t263, .int .i64 t264], .int .u32 4] ?_; (with_reducible refine (dev_Read.calls k t256 _ _ t257 _ _ t260 t263 t264 4 t269 t270 _ ?side1 ?side2 ?side3 ?side4 A8.out).mono ?_); (case side1 => exact cr_ HO259); (case side2 => exact (Kd.R_reads' HO259.out).2.1); (case side3 => exact cr_ HO262); (case side4 => exact (Kd.R_reads' HO262.out).2.1); rintro e w52 ⟨rfl, hb⟩; refine ⟨_, rfl, ?_⟩; replace HO214 := rb_ HO214 hb; replace HO217 := rb_ HO217 hb; replace HO224 := rb_ HO224 hb; replace HO227 := rb_ HO227 hb; replace HO234 := rb_ HO234 hb; replace HO237 := rb_ HO237 hb; replace HO244 := rb_ HO244 hb; replace HO247 := rb_ HO247 hb; replace HO255 := rb_ HO255 hb; replace HO259 := rb_ HO259 hb; replace HO262 := rb_ HO262 hb; replace BK210 := kb_ BK210 hb; replace BK266 := kb_ BK266 hb; replace HB := hb_ hb; (try clear hb); (try clear hb2); (try clear hk); (try clear hi); obtain ⟨hcz53_0, hcz53_1, hcz53_2, hcz53_3, hcz53_4⟩ := cl5_ BK266; obtain ⟨hfz53_0, hfz53_1, hfz53_2, hfz53_3, hfz53_4⟩ := fz5_ BK266) | ((with_reducible refine gate_callee (f := 13) rfl ?_); refine gl_ (some 60) Tryd.func13 #[.agg #[.int .u32 t256, .slice Ao48 t257.length co48, .slice Ao49 t260.length co49, .bool t263, .int .i64 t264], .int .u32 16, .string (⟨#[120]⟩ : ByteArray)] ?_; (with_reducible refine (dev_Write.calls k t256 _ _ t257 _ _ t260 t263 t264 16 (⟨#[120]⟩ : ByteArray) t271 t272 t275 t278 t279 t280 _ ?side1 ?side2 ?side3 ?side4 A9.out).mono ?_); (case side1 => exact cr_ HO259); (case side2 => exact (Kd.R_reads' HO259.out).2.1); (case side3 => exact cr_ HO262); (case side4 => exact (Kd.R_reads' HO262.out).2.1); rintro e w54 ⟨v273, v276, rfl, ho0, ho1, hb⟩; refine ⟨_, rfl, ?_⟩; have HO274 := Aside0.mk (Kd.R_lower (Kd.R_new' (Kd.R_new' (Kd.R_new' (Kd.R_new' (Kd.R_new' (Kd.R_new' (Kd.R_new' (Kd.R_new' (Kd.R_new' (Kd.R_new' ho0 (Kd.R_lt (ra_ HO214))) (Kd.R_lt (ra_ HO217))) (Kd.R_lt (ra_ HO224))) (Kd.R_lt (ra_ HO227))) (Kd.R_lt (ra_ HO234))) (Kd.R_lt (ra_ HO237))) (Kd.R_lt (ra_ HO244))) (Kd.R_lt (ra_ HO247))) (Kd.R_lt (ra_ HO259))) (Kd.R_lt (ra_ HO262))) (below_size bel_)); have HO277 := Aside0.mk (Kd.R_lower (Kd.R_new' (Kd.R_new' (Kd.R_new' (Kd.R_new' (Kd.R_new' (Kd.R_new' (Kd.R_new' (Kd.R_new' (Kd.R_new' (Kd.R_new' ho1 (Kd.R_lt (ra_ HO214))) (Kd.R_lt (ra_ HO217))) (Kd.R_lt (ra_ HO224))) (Kd.R_lt (ra_ HO227))) (Kd.R_lt (ra_ HO234))) (Kd.R_lt (ra_ HO237))) (Kd.R_lt (ra_ HO244))) (Kd.R_lt (ra_ HO247))) (Kd.R_lt (ra_ HO259))) (Kd.R_lt (ra_ HO262))) (below_size bel_)); replace HO214 := Aside0.mk (Kd.R_mono (Kd.R_told (Kd.R_told (Kd.R_old (ra_ HO214) hb) (Kd.R_base ho0)) (Kd.R_base ho1)) (fun _ h_ => h_.1)); replace HO217 := Aside0.mk (Kd.R_mono (Kd.R_told (Kd.R_told (Kd.R_old (ra_ HO217) hb) (Kd.R_base ho0)) (Kd.R_base ho1)) (fun _ h_ => h_.1)); replace HO224 := Aside0.mk (Kd.R_mono (Kd.R_told (Kd.R_told (Kd.R_old (ra_ HO224) hb) (Kd.R_base ho0)) (Kd.R_base ho1)) (fun _ h_ => h_.1)); replace HO227 := Aside0.mk (Kd.R_mono (Kd.R_told (Kd.R_told (Kd.R_old (ra_ HO227) hb) (Kd.R_base ho0)) (Kd.R_base ho1)) (fun _ h_ => h_.1)); replace HO234 := Aside0.mk (Kd.R_mono (Kd.R_told (Kd.R_told (Kd.R_old (ra_ HO234) hb) (Kd.R_base ho0)) (Kd.R_base ho1)) (fun _ h_ => h_.1)); replace HO237 := Aside0.mk (Kd.R_mono (Kd.R_told (Kd.R_told (Kd.R_old (ra_ HO237) hb) (Kd.R_base ho0)) (Kd.R_base ho1)) (fun _ h_ => h_.1)); replace HO244 := Aside0.mk (Kd.R_mono (Kd.R_told (Kd.R_told (Kd.R_old (ra_ HO244) hb) (Kd.R_base ho0)) (Kd.R_base ho1)) (fun _ h_ => h_.1)); replace HO247 := Aside0.mk (Kd.R_mono (Kd.R_told (Kd.R_told (Kd.R_old (ra_ HO247) hb) (Kd.R_base ho0)) (Kd.R_base ho1)) (fun _ h_ => h_.1)); replace HO255 := rb_ HO255 hb; replace HO259 := Aside0.mk (Kd.R_mono (Kd.R_told (Kd.R_told (Kd.R_old (ra_ HO259) hb) (Kd.R_base ho0)) (Kd.R_base ho1)) (fun _ h_ => h_.1)); replace HO262 := Aside0.mk (Kd.R_mono (Kd.R_told (Kd.R_told (Kd.R_old (ra_ HO262) hb) (Kd.R_base ho0)) (Kd.R_base ho1)) (fun _ h_ => h_.1)); replace BK210 := kb_ BK210 hb; replace BK266 := kb_ BK266 hb; replace HB := hb_ hb; (try clear hb); (try clear hb2); (try clear hk); (try clear hi); (try clear ho0); (try clear ho1)) | ((with_reducible refine gate_dst (N := 14) rfl ?_); refine bx_ (N := 14) (cs := #[.int .u32 0, .slice none 0 0, .slice none 0 0, .bool false, .int .i64 0]) (t := 25) ?_; intro gb281 hg w55 hbox hb; have BK281 := Aside0.mk (hbox); have GW281 := ge_ hg; have GE281 := ge_ hg; have NB210_281 := nl_ BK210 hg; have NB281_210 := ng_ BK210 hg; have NB266_281 := nl_ BK266 hg; have NB281_266 := ng_ BK266 hg; replace HO214 := rb_ HO214 hb; replace HO217 := rb_ HO217 hb; replace HO224 := rb_ HO224 hb; replace HO227 := rb_ HO227 hb; replace HO234 := rb_ HO234 hb; replace HO237 := rb_ HO237 hb; replace HO244 := rb_ HO244 hb; replace HO247 := rb_ HO247 hb; replace HO255 := rb_ HO255 hb; replace HO259 := rb_ HO259 hb; replace HO262 := rb_ HO262 hb; replace HO274 := rb_ HO274 hb; replace HO277 := rb_ HO277 hb; replace BK210 := kb_ BK210 hb; replace BK266 := kb_ BK266 hb; replace HB := hb_ hb; clear hb hbox hg; have hnb56 := NB281_210.out; have hnc56 := NB210_281.out; have hnb57 := NB281_266.out; have hnc57 := NB266_281.out; obtain ⟨hcz58_0, hcz58_1, hcz58_2, hcz58_3, hcz58_4⟩ := cl5_ BK281; obtain ⟨hfz58_0, hfz58_1, hfz58_2, hfz58_3, hfz58_4⟩ := fz5_ BK281; obtain ⟨Ao59, co59, eo59⟩ := Kd.R_slice HO274.out; subst eo59; obtain ⟨Ao60, co60, eo60⟩ := Kd.R_slice HO277.out; subst eo60))
                        go_ret
                        exact ⟨by first | rfl | (simp [errW_none, errW_some] <;> rfl) | (simp [*, errW_none, errW_some] <;> rfl), bel_⟩
                      · rw [if_neg c20] at H
                        have c20b0 : (t270 == 0) = false := beq_eq_false_iff_ne.mpr c20
                        have c20b1 : (t270 != 0) = true := bne_iff_ne.mpr c20
                        exact absurd ((Option.some.inj H).trans HT_.out) (by simp)
                    · rw [if_neg c19] at H
                      have c19b0 : (t269.toList == ([99] : List UInt8)) = false := beq_eq_false_iff_ne.mpr c19
                      have c19b1 : (t269.toList != ([99] : List UInt8)) = true := bne_iff_ne.mpr c19
                      exact absurd ((Option.some.inj H).trans HT_.out) (by simp)
                  · rw [if_neg c18] at H
                    have c18b0 : (t268 == 0) = false := beq_eq_false_iff_ne.mpr c18
                    have c18b1 : (t268 != 0) = true := bne_iff_ne.mpr c18
                    exact absurd ((Option.some.inj H).trans HT_.out) (by simp)
                · rw [if_neg c17] at H
                  have c17b0 : (t267.toList == ([97] : List UInt8)) = false := beq_eq_false_iff_ne.mpr c17
                  have c17b1 : (t267.toList != ([97] : List UInt8)) = true := bne_iff_ne.mpr c17
                  exact absurd ((Option.some.inj H).trans HT_.out) (by simp)
              · rw [if_neg c16] at H
                have c16b0 : (t265 == 0) = false := beq_eq_false_iff_ne.mpr c16
                have c16b1 : (t265 != 0) = true := bne_iff_ne.mpr c16
                exact absurd ((Option.some.inj H).trans HT_.out) (by simp)
            · rw [if_neg c15] at H
              have c15b0 : (t252 == 0) = false := beq_eq_false_iff_ne.mpr c15
              have c15b1 : (t252 != 0) = true := bne_iff_ne.mpr c15
              exact absurd ((Option.some.inj H).trans HT_.out) (by simp)
          · rw [if_neg c14] at H
            have c14b0 : (t251.toList == ([98] : List UInt8)) = false := beq_eq_false_iff_ne.mpr c14
            have c14b1 : (t251.toList != ([98] : List UInt8)) = true := bne_iff_ne.mpr c14
            exact absurd ((Option.some.inj H).trans HT_.out) (by simp)
        · rw [if_neg c13] at H
          have c13b0 : (t250 == 0) = false := beq_eq_false_iff_ne.mpr c13
          have c13b1 : (t250 != 0) = true := bne_iff_ne.mpr c13
          exact absurd ((Option.some.inj H).trans HT_.out) (by simp)
      · rw [if_neg c12] at H
        have c12b0 : (t240 == 0) = false := beq_eq_false_iff_ne.mpr c12
        have c12b1 : (t240 != 0) = true := bne_iff_ne.mpr c12
        exact absurd ((Option.some.inj H).trans HT_.out) (by simp)
    · rw [if_neg c11] at H
      have c11b0 : (t230 == 0) = false := beq_eq_false_iff_ne.mpr c11
      have c11b1 : (t230 != 0) = true := bne_iff_ne.mpr c11
      exact absurd ((Option.some.inj H).trans HT_.out) (by simp)
  · rw [if_neg c10] at H
    have c10b0 : (t220 == 0) = false := beq_eq_false_iff_ne.mpr c10
    have c10b1 : (t220 != 0) = true := bne_iff_ne.mpr c10
    exact absurd ((Option.some.inj H).trans HT_.out) (by simp)

end Go.Proofs.YtcphflfjhkeooaaDoor.Z
end

section
/- 'lives' of the statements on devices is true. -/
namespace Go.Proofs.YtcphflfjhkeooaaDoor.Z
open Go.RowKit Go.Proofs.YtcphflfjhkeooaaDoorW.PrintWords Go.Proofs.YtcphflfjhkeooaaDoorW.PrintLast
set_option linter.unusedVariables false
theorem lives_f : Ev (fun k => cambiumlaw03_lives.f k) true := by
  have h0 : okDev 16 [] [] := ⟨by decide, by decide, by decide, ⟨List.Pairwise.nil, by simp⟩, by simp⟩
  have e1 : writeS 16 [] [] false (-1) 3 ⟨#[97, 0]⟩ = (16, [], [⟨3, ⟨#[97]⟩⟩], false, -1, 0) := by kernel_rfl
  have s1 := write_ok h0 false (-1) 3 ⟨#[97, 0]⟩
  have h1 := okDev_write h0 (n := 3) (by decide) false (-1) ⟨#[97, 0]⟩
  rw [e1] at s1 h1
  have e2 : flushS 16 [] [⟨3, ⟨#[97]⟩⟩] false (-1) = (16, [⟨3, ⟨#[97]⟩⟩], [], false, -1, 0) := by kernel_rfl
  have s2 := flush_ok h1 false (-1)
  have h2 := okDev_flush h1 false (-1)
  rw [e2] at s2 h2
  have e3 : writeS 16 [⟨3, ⟨#[97]⟩⟩] [] false (-1) 3 ⟨#[98]⟩ = (16, [⟨3, ⟨#[97]⟩⟩], [⟨3, ⟨#[98]⟩⟩], false, -1, 0) := by kernel_rfl
  have s3 := write_ok h2 false (-1) 3 ⟨#[98]⟩
  have h3 := okDev_write h2 (n := 3) (by decide) false (-1) ⟨#[98]⟩
  rw [e3] at s3 h3
  have e4 : writeS 16 [⟨3, ⟨#[97]⟩⟩] [⟨3, ⟨#[98]⟩⟩] false (-1) 4 ⟨#[99]⟩ = (16, [⟨3, ⟨#[97]⟩⟩], [⟨3, ⟨#[98]⟩⟩, ⟨4, ⟨#[99]⟩⟩], false, -1, 0) := by kernel_rfl
  have s4 := write_ok h3 false (-1) 4 ⟨#[99]⟩
  have h4 := okDev_write h3 (n := 4) (by decide) false (-1) ⟨#[99]⟩
  rw [e4] at s4 h4
  have e5 : readS 16 [⟨3, ⟨#[97]⟩⟩] [⟨3, ⟨#[98]⟩⟩, ⟨4, ⟨#[99]⟩⟩] false 3 = (⟨#[98]⟩, 0) := by kernel_rfl
  have s5 := read_ok h4 false (-1) 3
  rw [e5] at s5
  have e6 : crashS 16 [⟨3, ⟨#[97]⟩⟩] [⟨3, ⟨#[98]⟩⟩, ⟨4, ⟨#[99]⟩⟩] [false, true] = (16, [⟨3, ⟨#[97]⟩⟩, ⟨4, ⟨#[99]⟩⟩], [], false, -1, 0) := by kernel_rfl
  have s6 := crash_ok h4 false (-1) [false, true]
  have h6 := okDev_crash h4 [false, true]
  rw [e6] at s6 h6
  have s7 := read_ok h6 false (-1) 3
  rw [show readS 16 [⟨3, ⟨#[97]⟩⟩, ⟨4, ⟨#[99]⟩⟩] [] false 3 = (⟨#[97]⟩, 0) by kernel_rfl] at s7
  have s8 := read_ok h6 false (-1) 4
  rw [show readS 16 [⟨3, ⟨#[97]⟩⟩, ⟨4, ⟨#[99]⟩⟩] [] false 4 = (⟨#[99]⟩, 0) by kernel_rfl] at s8
  have s9 := write_ok h6 false (-1) 16 ⟨#[120]⟩
  rw [show writeS 16 [⟨3, ⟨#[97]⟩⟩, ⟨4, ⟨#[99]⟩⟩] [] false (-1) 16 ⟨#[120]⟩ = (16, [⟨3, ⟨#[97]⟩⟩, ⟨4, ⟨#[99]⟩⟩], [], false, -1, 1) by kernel_rfl] at s9
  unfold cambiumlaw03_lives.f
  refine Ev.bind s1 (Ev.bind s2 (Ev.bind s3 (Ev.bind s4 (Ev.bind s5 (Ev.bind s6 (Ev.bind s7 (Ev.bind s8 (Ev.bind s9 ?_))))))))
  exact Ev.ifp rfl (Ev.ifp rfl (Ev.ifp rfl (Ev.ifp rfl (Ev.ifp (by rw [ByteArray.toList_eq]) (Ev.ifp rfl (Ev.ifp rfl (Ev.ifp (by rw [ByteArray.toList_eq]) (Ev.ifp rfl (Ev.ifp (by rw [ByteArray.toList_eq]) (Ev.ifp rfl (Ev.const rfl)))))))))))
end Go.Proofs.YtcphflfjhkeooaaDoor.Z
end

section
/- What a reading of an argument as data gives a contract: the values of a kind (Kd), well formed, and their bulk. -/
namespace Go.Proofs.YtcphflfjhkeooaaDoor.Z
open Go.ChangeShapes Go.WideShapes Go.ChangeAt Go.RowKit Go.Deep Go.Proofs.YtcphflfjhkeooaaDoorW.PrintWords Go.Proofs.YtcphflfjhkeooaaDoorW.PrintLast
set_option linter.unusedVariables false
/-- Every reading of type t's cells is one of d, is G, and is of bulk B at least. -/
def Opens {α : Type} (P : Program) (t : TypeId) (d : Kd α) (G : α → Prop) (B : α → Nat) : Prop :=
  d.sz = P.cellsOf t ∧ ∀ {H : Type} {enc : TypeId × Value → H} {w : World} {base : Nat} {spare : Nat → Bool} {held : Bool} {fuel : Nat} {cs : List Value} {x : DataW H × List MemPlace},
    DataW.trod enc P w base spare held fuel t cs = some x → ∃ a, d.K w a cs ∧ G a ∧ B a ≤ Rows.uptoBulk x.1
theorem Opens.bool {P : Program} {t : TypeId} (ht : P.underlying t = some .bool) (hc : P.cellsOf t = 1) : Opens P t Kd.bool (fun _ => True) (fun _ => 1) := by
  refine ⟨hc.symm, fun h => ?_⟩
  obtain ⟨b, rfl, rfl⟩ := DataW.trod_bool ht h
  exact ⟨b, rfl, trivial, by simp [Rows.uptoBulk]⟩
theorem Opens.int {P : Program} {t : TypeId} {k : IntKind} (ht : P.underlying t = some (.int k)) (hc : P.cellsOf t = 1) : Opens P t (Kd.int k) (fun n => (Lit.int k n).wf = true) (fun _ => 1) := by
  refine ⟨hc.symm, fun h => ?_⟩
  obtain ⟨b, rfl, rfl, hw⟩ := DataW.trod_int ht h
  exact ⟨b, rfl, hw, by simp [Rows.uptoBulk]⟩
theorem Opens.string {P : Program} {t : TypeId} (ht : P.underlying t = some .string) (hc : P.cellsOf t = 1) : Opens P t Kd.string (fun s => s.size ≤ maxLen) (fun s => s.size + 1) := by
  refine ⟨hc.symm, fun h => ?_⟩
  obtain ⟨b, rfl, rfl, hw⟩ := DataW.trod_string ht h
  exact ⟨b, rfl, hw, by simp [Rows.uptoBulk]⟩
theorem bulk_len {H : Type} (l : List (DataW H)) {α : Type} {B : α → Nat} (xs : List α) (hl : xs.length = l.length) (h : ∀ (i : Nat) (a : α) (y : DataW H), xs[i]? = some a → l[i]? = some y → B a ≤ Rows.uptoBulk y) : (xs.map B).sum ≤ Rows.uptoBulkAll l := by
  induction l generalizing xs with
  | nil => have : xs = [] := List.eq_nil_of_length_eq_zero hl; subst this; simp [Rows.uptoBulkAll]
  | cons y l ih =>
    cases xs with
    | nil => simp at hl
    | cons a xs =>
      simp only [List.map_cons, List.sum_cons, Rows.uptoBulkAll]
      have h0 := h 0 a y rfl rfl
      have h1 := ih xs (by simpa using hl) (fun i a y ha hy => h (i + 1) a y (by simpa using ha) (by simpa using hy))
      omega
theorem list_of_each {α : Type} (p : Nat → α → Prop) : ∀ n : Nat, (∀ i, i < n → ∃ a, p i a) → ∃ l : List α, l.length = n ∧ ∀ i a, l[i]? = some a → p i a
  | 0, _ => ⟨[], rfl, fun i a h => by simp at h⟩
  | n + 1, h => by
    obtain ⟨l, hl, hp⟩ := list_of_each p n (fun i hi => h i (by omega))
    obtain ⟨a, ha⟩ := h n (by omega)
    refine ⟨l ++ [a], by simp [hl], fun i b hb => ?_⟩
    rcases Nat.lt_or_ge i l.length with hi | hi
    · rw [List.getElem?_append_left hi] at hb; exact hp i b hb
    · have hi2 : i = l.length := by
        have := (List.getElem?_eq_some_iff.1 hb).1
        simp at this; omega
      subst hi2
      have hb2 : a = b := by simpa using hb
      subst hb2
      rw [hl]; exact ha
/-- A slice, opened. -/
theorem Opens.row {α : Type} {P : Program} {t e : TypeId} {d : Kd α} {G : α → Prop} {B : α → Nat} (ht : P.underlying t = some (.slice e)) (hO : Opens P e d G B) (hpos : 0 < P.cellsOf e)
    {H : Type} {enc : TypeId × Value → H} {w : World} {base : Nat} {spare : Nat → Bool} {held : Bool} {fuel : Nat} {cs : List Value} {x : DataW H × List MemPlace} (h : DataW.trod enc P w base spare held fuel t cs = some x) :
    ∃ (A : Option Addr) (c : Nat) (l : List α), cs = [.slice A l.length c] ∧ l.length ≤ c ∧ c ≤ maxLen ∧ Kd.C d w A l.length l ∧ (∀ a ∈ l, G a) ∧ (l.map B).sum + 1 ≤ Rows.uptoBulk x.1 ∧ (x.1 = .nil ∧ l = [] ∨ ∃ el sp, x.1 = .slice el sp ∧ el.length = l.length) := by
  rcases DataW.trod_slice ht h with ⟨rfl, rfl⟩ | ⟨a, len, cap, elems, rest, n, _, rfl, rfl, hb, hl, hm, hlen, hel, _, _⟩
  · exact ⟨none, 0, [], rfl, Nat.le_refl _, Nat.zero_le _, Kd.C_nil _ _, by simp, by simp [Rows.uptoBulk], Or.inl ⟨rfl, rfl⟩⟩
  · have each : ∀ i, i < len → ∃ a' : α, ∃ cs' y, w.cells? base (a.add (i * P.cellsOf e)) (P.cellsOf e) = some cs' ∧ elems[i]? = some y ∧ d.K w a' cs' ∧ G a' ∧ B a' ≤ Rows.uptoBulk y.1 := by
      intro i hi
      have h1 := hel i hi
      obtain ⟨y, hy⟩ : ∃ y, elems[i]? = some y := ⟨elems[i]'(by omega), List.getElem?_eq_getElem (by omega)⟩
      rw [hy, Option.bind_eq_some_iff] at h1
      obtain ⟨cs', hcs, htr⟩ := h1
      obtain ⟨a', hK, hG, hB⟩ := hO.2 htr
      exact ⟨a', cs', y, hcs, hy, hK, hG, hB⟩
    obtain ⟨l, hll, hp⟩ := list_of_each _ len each
    subst hll
    refine ⟨some a, cap, l, rfl, hl, hm, ⟨rfl, by unfold maxLen at hm; omega, fun _ => ⟨a, rfl, fun j p hj => ?_⟩⟩, ?_, ?_, Or.inr ⟨_, _, rfl, by simpa using hlen⟩⟩
    · obtain ⟨cs', y, hcs, _, hK, _, _⟩ := hp j p hj
      obtain ⟨_, hln, hc⟩ := World.cells?_some hcs
      refine ⟨cs', by rw [hln, hO.1], hK, fun i u hu => ?_⟩
      have hi : i < P.cellsOf e := by rw [← hln]; exact (List.getElem?_eq_some_iff.1 hu).1
      have := hc i hi
      rw [hu] at this
      rw [hO.1, ← this]
      congr 1
      have hs : a.spot = none := by
        have h0 := hc 0 hpos
        rw [List.getElem?_eq_getElem (by omega)] at h0
        cases hsp : a.spot with
        | none => rfl
        | some s =>
          rcases Nat.eq_zero_or_pos (j * P.cellsOf e) with hz | hz
          · rw [hz] at h0
            have : w.cell? a = some _ := h0
            unfold World.cell? at this
            rw [hsp] at this
            split at this <;> simp at this
          · have hl0 : 0 < l.length := by have := (List.getElem?_eq_some_iff.1 hj).1; omega
            obtain ⟨p0, hp0⟩ : ∃ p0, l[0]? = some p0 := ⟨l[0], List.getElem?_eq_getElem hl0⟩
            obtain ⟨cs0, y0, hcs0, _, _, _, _⟩ := hp 0 p0 hp0
            obtain ⟨_, hln0, hc0⟩ := World.cells?_some hcs0
            have h00 := hc0 0 hpos
            rw [List.getElem?_eq_getElem (by omega), Nat.zero_mul] at h00
            have : w.cell? a = some _ := h00
            unfold World.cell? at this
            rw [hsp] at this
            split at this <;> simp at this
      obtain ⟨b, o, s⟩ := a
      simp only at hs
      subst hs
      rw [add_at, add_at, add_at, Nat.add_assoc]
    · intro b hb
      obtain ⟨i, hi⟩ := List.getElem?_of_mem hb
      exact (hp i b hi).choose_spec.choose_spec.2.2.2.1
    · simp only [Rows.uptoBulk]
      have := bulk_len (elems.map (·.1)) (B := B) l (by simp [hlen]) (fun i b y hb hy => by
        obtain ⟨cs', y', _, hy', _, _, hB⟩ := hp i b hb
        rw [List.getElem?_map, hy'] at hy
        simp at hy
        subst hy
        exact hB)
      omega
/-- A struct of fields of one cell: each field's cell and reading. -/
theorem flat_fields {P : Program} {t : TypeId} {fs : Array Field} (ht : P.underlying t = some (.struct fs)) (hone : oneCellFields P fs = true) (hC : P.cellsOf t = fs.size)
    {H : Type} {enc : TypeId × Value → H} {w : World} {base : Nat} {spare : Nat → Bool} {held : Bool} {fuel : Nat} {cs : List Value} {x : DataW H × List MemPlace} (h : DataW.trod enc P w base spare held fuel t cs = some x) :
    ∃ (ys : List (DataW H × List MemPlace)) (n : Nat), cs.length = fs.size ∧ ys.length = fs.size ∧ x.1 = .agg (ys.map (·.1)) ∧ ∀ (i : Nat) (f : Field) (c : Value), fs[i]? = some f → cs[i]? = some c → DataW.trod enc P w base spare held n f.type [c] = ys[i]? := by
  obtain ⟨xs, n, _, rfl, hl, hlen, hf⟩ := DataW.trod_struct ht h
  refine ⟨xs, n, hl.trans hC, hlen, rfl, fun i f c hfi hc => ?_⟩
  have h1 := hf i f hfi
  obtain ⟨o0, k0⟩ := hone_of hone i f hfi
  rw [o0, k0] at h1
  rw [← h1]
  congr 1
  have hi := (List.getElem?_eq_some_iff.1 hc).1
  rw [List.drop_eq_getElem_cons hi, List.take_succ_cons, List.take_zero]
  rw [List.getElem?_eq_getElem hi] at hc
  simp at hc
  rw [hc]
/-- A slice among the arguments: its length, by the form's reach. -/
theorem sized_row {H : Type} {P : Program} {ts : List TypeId} {ds : List (DataW H)} {j : Nat} {t e : TypeId} {d : DataW H} {α : Type} {l : List α}
    (hsz : (DataW.weightsEach P ts ds).all (· ≤ reachBytes) = true) (ht : ts[j]? = some t) (hd : ds[j]? = some d) (hu : P.underlying t = some (.slice e)) {b : Nat} (hb : P.bytesOf e = b)
    (hx : d = .nil ∧ l = [] ∨ ∃ el sp, d = .slice el sp ∧ el.length = l.length) : l.length * b ≤ 140737488351232 := by
  rcases hx with ⟨_, rfl⟩ | ⟨el, sp, rfl, hl⟩
  · simp
  · have := sized_slice hsz ht hd hu
    rw [hb, hl] at this
    exact Nat.le_trans (Nat.mul_le_mul_right _ (Nat.le_add_right _ _)) this
/-- A slice that is a field of an argument: its length, by the form's reach. -/
theorem sized_field {H : Type} {P : Program} {ts : List TypeId} {ds : List (DataW H)} {j i : Nat} {t u e : TypeId} {d y : DataW H} {parts : List (DataW H)} {fs : Array Field} {α : Type} {l : List α}
    (hsz : (DataW.weightsEach P ts ds).all (· ≤ reachBytes) = true) (ht : ts[j]? = some t) (hd : ds[j]? = some d) (hx : d = .agg parts) (hu : P.underlying t = some (.struct fs)) (hf : (fs.toList.map (·.type))[i]? = some u) (hp : parts[i]? = some y)
    (hu2 : P.underlying u = some (.slice e)) {b : Nat} (hb : P.bytesOf e = b) (hy : y = .nil ∧ l = [] ∨ ∃ el sp, y = .slice el sp ∧ el.length = l.length) : l.length * b ≤ 140737488351232 := by
  rcases hy with ⟨_, rfl⟩ | ⟨el, sp, rfl, hl⟩
  · simp
  · have h1 : (el.length + sp.length) * P.bytesOf e ∈ DataW.weights P t d := by
      subst hx
      simp only [DataW.weights, hu]
      exact DataW.weights_mem_each hf hp _ (by simp [DataW.weights, hu2])
    have h2 := List.all_eq_true.1 hsz _ (DataW.weights_mem_each ht hd _ h1)
    rw [decide_eq_true_eq, hb, hl] at h2
    exact Nat.le_trans (Nat.mul_le_mul_right _ (Nat.le_add_right _ _)) h2
theorem string_len {s : ByteArray} : s.data.toList.length = s.size := by rw [Array.length_toList]; rfl
end Go.Proofs.YtcphflfjhkeooaaDoor.Z
end

section
-- Printed by a program of this session (mp.py): what a reading gives of the kinds that are arguments.
namespace Go.Proofs.YtcphflfjhkeooaaDoor.Z
open Go.ChangeShapes Go.WideShapes Go.ChangeAt Go.RowKit Go.Deep Go.Proofs.YtcphflfjhkeooaaDoorW.PrintWords
set_option linter.unusedVariables false
def G39 (x : S39) : Prop := (Lit.int .u32 x.f0).wf = true ∧ x.f1.size ≤ maxLen
def B39 (x : S39) : Nat := 1 + (x.f1.size + 1) + 1
theorem opens39 : Opens Tryd.prog 39 k39 G39 B39 := by
  refine ⟨by kernel_rfl, fun {H enc w base spare held fuel cs x} h => ?_⟩
  obtain ⟨ys, n, hl, hy, hx, hf⟩ := flat_fields Tryd.underlying39 (by kernel_rfl) (by kernel_rfl) h
  match cs, hl with
  | [c0, c1], _ =>
    match ys, hy with
    | [y0, y1], _ =>
      obtain ⟨a0, k0, g0, b0⟩ := (Opens.int Tryd.underlying22 (by kernel_rfl)).2 (hf 0 _ c0 rfl rfl)
      obtain ⟨a1, k1, g1, b1⟩ := (Opens.string Tryd.underlying9 (by kernel_rfl)).2 (hf 1 _ c1 rfl rfl)
      refine ⟨⟨a0, a1⟩, ⟨[c0], [c1], rfl, k0, k1⟩, ⟨g0, g1⟩, ?_⟩
      rw [hx]
      simp only [Rows.uptoBulk, Rows.uptoBulkAll, List.map_cons, List.map_nil, B39]
      dsimp only at b0 b1
      omega
end Go.Proofs.YtcphflfjhkeooaaDoor.Z
end

section
-- Printed by a program of this session (mp.py) out of the translation.
namespace Go.Proofs.YtcphflfjhkeooaaDoor.Z
open Go.RowKit Go.Proofs.YtcphflfjhkeooaaDoorW.PrintWords Go.Proofs.YtcphflfjhkeooaaDoorW.PrintLast Go.Proofs.YtcphflfjhkeooaaDoorW.PrintMore
attribute [local go_sem] max2_int min2_int max_two min_two max_three min_three max_four min_four   -- for this text's walks alone
set_option linter.unusedVariables false
set_option linter.unusedSimpArgs false

/-! ### cambiumref03_Cut: function 24 -/
def cambiumref03_Cut.l0 : Nat → ByteArray → Option (ByteArray)
  | 0, _ => none
  | k + 1, x0 => if x0.toList = ([] : List UInt8) then (some x0) else (if 0 ≤ (wrap64 ((x0.size : Int) - 1)) then (if (wrap64 ((x0.size : Int) - 1)) < (x0.size : Int) then (if (bt x0 (wrap64 ((x0.size : Int) - 1))) = 0 then (if (wrap64 ((x0.size : Int) - 1)) ≤ (x0.size : Int) then (cambiumref03_Cut.l0 k (x0.extract 0 ((wrap64 ((x0.size : Int) - 1)) : Int).toNat)) else (none)) else (some x0)) else (none)) else (none))
def cambiumref03_Cut.f (k : Nat) (a0 : ByteArray) : Option (ByteArray) := cambiumref03_Cut.l0 k a0
theorem cambiumref03_Cut.mono_l : ∀ k, (∀ y0, LeO (cambiumref03_Cut.l0 k y0) (cambiumref03_Cut.l0 (k + 1) y0))
  | 0 => fun _ r h => by simp [cambiumref03_Cut.l0] at h
  | k + 1 => by
    have ih0 := cambiumref03_Cut.mono_l k
    · intro y0
      unfold cambiumref03_Cut.l0
      repeat' first
      | (with_reducible exact ih0 _)
      | (with_reducible exact LeO.refl _)
      | (with_reducible exact LeO.none _)
      | (with_reducible refine LeO.ite ?_ ?_)
      | (with_reducible refine LeO.bind ?_ (fun _ => ?_))
      | exact ih0 _
      | exact LeO.none _
      | refine LeO.ite ?_ ?_
      | refine LeO.bind ?_ (fun _ => ?_)
theorem cambiumref03_Cut.mono : ∀ a0 k, LeO (cambiumref03_Cut.f k a0) (cambiumref03_Cut.f (k + 1) a0) := by
  intro a0 k
  have ih0 := cambiumref03_Cut.mono_l k
  unfold cambiumref03_Cut.f
  repeat' first
      | (with_reducible exact ih0 _)
      | (with_reducible exact LeO.refl _)
      | (with_reducible exact LeO.none _)
      | (with_reducible refine LeO.ite ?_ ?_)
      | (with_reducible refine LeO.bind ?_ (fun _ => ?_))
      | exact ih0 _
      | exact LeO.none _
      | refine LeO.ite ?_ ?_
      | refine LeO.bind ?_ (fun _ => ?_)
set_option maxHeartbeats 8000000 in
set_option maxRecDepth 100000 in
theorem cambiumref03_Cut.calls (k : Nat) (a0 : ByteArray) (r : ByteArray) (w : World) (h : cambiumref03_Cut.f k a0 = some r) :
    Calls Tryd.prog 24 #[.string a0] w fun e w' => e = .returned (.string r) ∧ Drawn0 w w' := by
  have H : (cambiumref03_Cut.l0 k a0) = some r := h
  clear h
  have H' := Aside0.mk H
  clear H
  go_enter Tryd.func24, Tryd.ntmps24
  go_wp2
  go_loopg [0] k (fun kq v0 w' => ∃ (x0_1 : ByteArray), v0 = .string x0_1 ∧ Aside0 (cambiumref03_Cut.l0 kq x0_1 = some r) ∧ Aside0 (kq ≤ k) ∧ Drawn0 w w')
  case atStart => exact ⟨(a0), (by first | rfl | (simp; done) | (simp [*]; done)), H', ⟨Nat.le_refl _⟩, by repeat (first | exact Drawn0.refl _ | apply Drawn0.step)⟩
  case round =>
    clear H'
    obtain ⟨x0_1, rfl, HA, HK1, ⟨m1, rfl⟩⟩ := hrel
    cases gk with
    | zero => exact absurd HA.out (by simp [cambiumref03_Cut.l0])
    | succ k1 =>
      have H := HA.out
      clear HA
      simp only [cambiumref03_Cut.l0] at H
      by_cases c2 : x0_1.toList = ([] : List UInt8)
      · rw [if_pos c2] at H
        have c2b0 : (x0_1.toList == ([] : List UInt8)) = true := beq_iff_eq.mpr c2
        have c2b1 : (x0_1.toList != ([] : List UInt8)) = false := bne_eq_false_iff_eq.mpr c2
        clear c2
        obtain rfl := Option.some.inj H
        go_wp2
        go_ret
        exact ⟨by first | rfl | (simp; done) | (simp [*]; done), by repeat (first | exact Drawn0.refl _ | apply Drawn0.step)⟩
      · rw [if_neg c2] at H
        have c2b0 : (x0_1.toList == ([] : List UInt8)) = false := beq_eq_false_iff_ne.mpr c2
        have c2b1 : (x0_1.toList != ([] : List UInt8)) = true := bne_iff_ne.mpr c2
        obtain ⟨ji3, hji3⟩ : ∃ j_ : Int, (wrap64 ((x0_1.size : Int) - 1)) = j_ := ⟨_, rfl⟩
        replace H : (if 0 ≤ (ji3) then (if (ji3) < (x0_1.size : Int) then (if (bt x0_1 (ji3)) = 0 then (if (ji3) ≤ (x0_1.size : Int) then (cambiumref03_Cut.l0 k1 (x0_1.extract 0 ((ji3) : Int).toNat)) else (none)) else (some x0_1)) else (none)) else (none)) = some r := by first | (rw [hji3] at H; exact H) | (simp only [hji3] at H ⊢; exact H)
        have hji3w : (IntKind.i64.wrap ((x0_1.size : Int) - 1)) = ji3 := (i64_w _).trans hji3
        by_cases c4 : 0 ≤ (ji3)
        · rw [if_pos c4] at H
          have c4b0 : decide (0 ≤ (ji3)) = true := decide_eq_true c4
          clear c4
          by_cases c5 : (ji3) < (x0_1.size : Int)
          · rw [if_pos c5] at H
            have c5b0 : decide ((ji3) < (x0_1.size : Int)) = true := decide_eq_true c5
            clear c5
            by_cases c7 : (bt x0_1 (ji3)) = 0
            · rw [if_pos c7] at H
              have c7b0 : ((bt x0_1 (ji3)) == 0) = true := beq_iff_eq.mpr c7
              have c7b1 : ((bt x0_1 (ji3)) != 0) = false := bne_eq_false_iff_eq.mpr c7
              clear c7
              have c8b0 := eq_true (of_decide_eq_true (by first | (with_reducible assumption) | assumption) : 0 ≤ (ji3))
              by_cases c9 : (ji3) ≤ (x0_1.size : Int)
              · rw [if_pos c9] at H
                have c9b0 := eq_true c9
                have c9b1 : decide ((ji3) ≤ (x0_1.size : Int)) = true := decide_eq_true c9
                clear c9
                have H' := Aside0.mk H
                clear H
                have p6 : 0 ≤ ((ji3) : Int) := of_decide_eq_true (by first | (with_reducible assumption) | assumption)
                have q6 : (ji3) < (x0_1.size : Int) := of_decide_eq_true (by first | (with_reducible assumption) | assumption)
                have hx6 := bt_at x0_1 (ji3)
                replace p6 := eq_true p6
                replace q6 := eq_true q6
                go_wp2
                go_roundg k1
                case measure => have := HK1.out; omega
                case rel => exact ⟨(x0_1.extract 0 ((ji3) : Int).toNat), (by first | rfl | (simp; done) | (simp only [← hji3] <;> (first | rfl | simp)) | (simp [*]; done)), H', ⟨by have := HK1.out; omega⟩, by repeat (first | exact Drawn0.refl _ | apply Drawn0.step)⟩
              · rw [if_neg c9] at H
                exact absurd H (by simp)
            · rw [if_neg c7] at H
              have c7b0 : ((bt x0_1 (ji3)) == 0) = false := beq_eq_false_iff_ne.mpr c7
              have c7b1 : ((bt x0_1 (ji3)) != 0) = true := bne_iff_ne.mpr c7
              obtain rfl := Option.some.inj H
              have p6 : 0 ≤ ((ji3) : Int) := of_decide_eq_true (by first | (with_reducible assumption) | assumption)
              have q6 : (ji3) < (x0_1.size : Int) := of_decide_eq_true (by first | (with_reducible assumption) | assumption)
              have hx6 := bt_at x0_1 (ji3)
              replace p6 := eq_true p6
              replace q6 := eq_true q6
              go_wp2
              go_ret
              exact ⟨by first | rfl | (simp; done) | (simp only [← hji3] <;> (first | rfl | simp)) | (simp [*]; done), by repeat (first | exact Drawn0.refl _ | apply Drawn0.step)⟩
          · rw [if_neg c5] at H
            exact absurd H (by simp)
        · rw [if_neg c4] at H
          exact absurd H (by simp)

end Go.Proofs.YtcphflfjhkeooaaDoor.Z
end

section
-- Printed by a program of this session (mp.py) out of the translation.
namespace Go.Proofs.YtcphflfjhkeooaaDoor.Z
open Go.RowKit Go.Proofs.YtcphflfjhkeooaaDoorW.PrintWords Go.Proofs.YtcphflfjhkeooaaDoorW.PrintLast Go.Proofs.YtcphflfjhkeooaaDoorW.PrintMore
attribute [local go_sem] max2_int min2_int max_two min_two max_three min_three max_four min_four   -- for this text's walks alone
set_option linter.unusedVariables false
set_option linter.unusedSimpArgs false

theorem eqA39 (d : Nat) (w : World) (x0 y0 : Int) (x1 y1 : ByteArray) :
    (Op.equalIn (d + 2) 39 (.agg #[.int .u32 x0, .string x1]) (.agg #[.int .u32 y0, .string y1])).run Tryd.prog w = .ok (x0 == y0 && (x1.toList == y1.toList)) w := by
  refine eqA_of Tryd.underlying39 (by kernel_rfl) ?_
  refine eqf_cons (by rfl) (by go_simp; rfl) (by go_simp; rfl) (by go_simp) ?_
  exact eqf_last (by rfl) (by go_simp; rfl) (by go_simp; rfl) (by go_simp)
end Go.Proofs.YtcphflfjhkeooaaDoor.Z
end

section
-- Printed by a program of this session (mp.py) out of the translation.
namespace Go.Proofs.YtcphflfjhkeooaaDoor.Z
open Go.RowKit Go.Proofs.YtcphflfjhkeooaaDoorW.PrintWords Go.Proofs.YtcphflfjhkeooaaDoorW.PrintLast Go.Proofs.YtcphflfjhkeooaaDoorW.PrintMore
attribute [local go_sem] max2_int min2_int max_two min_two max_three min_three max_four min_four   -- for this text's walks alone
set_option linter.unusedVariables false
set_option linter.unusedSimpArgs false

attribute [local go_sem high] eqA39
/-! ### cambiumref03_sameBlocks: function 34 -/
def cambiumref03_sameBlocks.l0 : Nat → List (S39) → List (S39) → Int → Int → Option (Bool)
  | 0, _, _, _, _ => none
  | k + 1, x0, x1, x12, x13 => if x13 < x12 then (if 0 ≤ x13 then (if x13 < (x0.length : Int) then (if x13 < (x1.length : Int) then (if (!(((rd_T39 x0 x13).f0) == ((rd_T39 x1 x13).f0)) || (!((((rd_T39 x0 x13).f1).toList) == (((rd_T39 x1 x13).f1).toList)))) = true then (some false) else (cambiumref03_sameBlocks.l0 k x0 x1 x12 (wrap64 (x13 + 1)))) else (none)) else (none)) else (none)) else (some true)
def cambiumref03_sameBlocks.f (k : Nat) (l0 : List (S39)) (l1 : List (S39)) : Option (Bool) := if (l0.length : Int) = (l1.length : Int) then (cambiumref03_sameBlocks.l0 k l0 l1 (l0.length : Int) 0) else (some false)
theorem cambiumref03_sameBlocks.mono_l : ∀ k, (∀ y0 y1 y2 y3, LeO (cambiumref03_sameBlocks.l0 k y0 y1 y2 y3) (cambiumref03_sameBlocks.l0 (k + 1) y0 y1 y2 y3))
  | 0 => fun _ _ _ _ r h => by simp [cambiumref03_sameBlocks.l0] at h
  | k + 1 => by
    have ih0 := cambiumref03_sameBlocks.mono_l k
    · intro y0 y1 y2 y3
      unfold cambiumref03_sameBlocks.l0
      repeat' first
      | (with_reducible exact ih0 _ _ _ _)
      | (with_reducible exact LeO.refl _)
      | (with_reducible exact LeO.none _)
      | (with_reducible refine LeO.ite ?_ ?_)
      | (with_reducible refine LeO.bind ?_ (fun _ => ?_))
      | exact ih0 _ _ _ _
      | exact LeO.none _
      | refine LeO.ite ?_ ?_
      | refine LeO.bind ?_ (fun _ => ?_)
theorem cambiumref03_sameBlocks.mono : ∀ a0 a1 k, LeO (cambiumref03_sameBlocks.f k a0 a1) (cambiumref03_sameBlocks.f (k + 1) a0 a1) := by
  intro a0 a1 k
  have ih0 := cambiumref03_sameBlocks.mono_l k
  unfold cambiumref03_sameBlocks.f
  repeat' first
      | (with_reducible exact ih0 _ _ _ _)
      | (with_reducible exact LeO.refl _)
      | (with_reducible exact LeO.none _)
      | (with_reducible refine LeO.ite ?_ ?_)
      | (with_reducible refine LeO.bind ?_ (fun _ => ?_))
      | exact ih0 _ _ _ _
      | exact LeO.none _
      | refine LeO.ite ?_ ?_
      | refine LeO.bind ?_ (fun _ => ?_)
set_option maxHeartbeats 8000000 in
set_option maxRecDepth 100000 in
theorem cambiumref03_sameBlocks.calls (k : Nat) (A0 : Option Addr) (c0 : Nat) (l0 : List (S39)) (A1 : Option Addr) (c1 : Nat) (l1 : List (S39)) (r : Bool) (w : World) (hr0 : Kd.C k39 w A0 l0.length l0) (hc0 : l0.length ≤ c0) (hr1 : Kd.C k39 w A1 l1.length l1) (hc1 : l1.length ≤ c1) (h : cambiumref03_sameBlocks.f k l0 l1 = some r) :
    Calls Tryd.prog 34 #[.slice A0 l0.length c0, .slice A1 l1.length c1] w fun e w' => e = .returned (.bool r) ∧ Drawn0 w w' := by
  have hu39 := Tryd.underlying39
  have HR0 := Aside0.mk hr0
  have HC0 := Aside0.mk hc0
  clear hr0 hc0
  have HR1 := Aside0.mk hr1
  have HC1 := Aside0.mk hc1
  clear hr1 hc1
  have H : (if (l0.length : Int) = (l1.length : Int) then (cambiumref03_sameBlocks.l0 k l0 l1 (l0.length : Int) 0) else (some false)) = some r := h
  clear h
  by_cases c3 : (l0.length : Int) = (l1.length : Int)
  · rw [if_pos c3] at H
    have c3b0 : ((l0.length : Int) == (l1.length : Int)) = true := beq_iff_eq.mpr c3
    have c3b1 : ((l0.length : Int) != (l1.length : Int)) = false := bne_eq_false_iff_eq.mpr c3
    have c3b2 : (l0.length == l1.length) = true := by first | simpa using c3 | (simp at c3 ⊢; omega)
    clear c3
    have H' := Aside0.mk H
    clear H
    go_enter Tryd.func34, Tryd.ntmps34
    go_wp2
    repeat (go_quiet (fail); try go_wp2)
    go_loopg [13] k (fun kq v13 w' => ∃ (x13_1 : Int), v13 = .int .i64 x13_1 ∧ Aside0 (cambiumref03_sameBlocks.l0 kq l0 l1 (l0.length : Int) x13_1 = some r) ∧ Aside0 (kq ≤ k) ∧ Drawn0 w w')
    case atStart => exact ⟨(0), (by first | rfl | (simp; done) | (simp [*]; done)), H', ⟨Nat.le_refl _⟩, by repeat (first | exact Drawn0.refl _ | apply Drawn0.step)⟩
    case round =>
      clear H'
      try clear c1
      try clear p2
      try clear c3
      try clear c3b0
      try clear c3b1
      try clear c3b2
      obtain ⟨x13_1, rfl, HA, HK1, ⟨m1, rfl⟩⟩ := hrel
      cases gk with
      | zero => exact absurd HA.out (by simp [cambiumref03_sameBlocks.l0])
      | succ k1 =>
        have H := HA.out
        clear HA
        simp only [cambiumref03_sameBlocks.l0] at H
        by_cases c4 : x13_1 < (l0.length : Int)
        · rw [if_pos c4] at H
          have c4b0 : decide (x13_1 < (l0.length : Int)) = true := decide_eq_true c4
          clear c4
          by_cases c5 : 0 ≤ x13_1
          · rw [if_pos c5] at H
            have c5b0 : decide (0 ≤ x13_1) = true := decide_eq_true c5
            clear c5
            by_cases c6 : x13_1 < (l0.length : Int)
            · rw [if_pos c6] at H
              have c6b0 : decide (x13_1 < (l0.length : Int)) = true := decide_eq_true c6
              clear c6
              by_cases c7 : x13_1 < (l1.length : Int)
              · rw [if_pos c7] at H
                have c7b0 : decide (x13_1 < (l1.length : Int)) = true := decide_eq_true c7
                clear c7
                by_cases c8 : (!(((rd_T39 l0 x13_1).f0) == ((rd_T39 l1 x13_1).f0)) || (!((((rd_T39 l0 x13_1).f1).toList) == (((rd_T39 l1 x13_1).f1).toList)))) = true
                · rw [if_pos c8] at H
                  have c8b0 : (!(((rd_T39 l0 x13_1).f0) == ((rd_T39 l1 x13_1).f0)) || (!((((rd_T39 l0 x13_1).f1).toList) == (((rd_T39 l1 x13_1).f1).toList)))) = true := c8
                  clear c8
                  obtain rfl := Option.some.inj H
                  have p282 : 0 ≤ (x13_1 : Int) := of_decide_eq_true (by first | (with_reducible assumption) | assumption)
                  have q282 : x13_1 < (l0.length : Int) := of_decide_eq_true (by first | (with_reducible assumption) | assumption)
                  obtain ⟨ad282, e282, hx282_0, hx282_1⟩ := at_T39 HR0.out x13_1 p282 q282
                  cases e282
                  replace p282 := eq_true p282
                  replace q282 := eq_true q282
                  have p283 : 0 ≤ (x13_1 : Int) := of_decide_eq_true (by first | (with_reducible assumption) | assumption)
                  have q283 : x13_1 < (l1.length : Int) := of_decide_eq_true (by first | (with_reducible assumption) | assumption)
                  obtain ⟨ad283, e283, hx283_0, hx283_1⟩ := at_T39 HR1.out x13_1 p283 q283
                  cases e283
                  replace p283 := eq_true p283
                  replace q283 := eq_true q283
                  go_wp2
                  repeat (go_quiet (fail); try go_wp2)
                  go_ret
                  exact ⟨by first | rfl | (simp; done) | (simp [*]; done), by repeat (first | exact Drawn0.refl _ | apply Drawn0.step)⟩
                · rw [if_neg c8] at H
                  have c8b0 : (!(((rd_T39 l0 x13_1).f0) == ((rd_T39 l1 x13_1).f0)) || (!((((rd_T39 l0 x13_1).f1).toList) == (((rd_T39 l1 x13_1).f1).toList)))) = false := by simpa using c8
                  clear c8
                  have H' := Aside0.mk H
                  clear H
                  have p282 : 0 ≤ (x13_1 : Int) := of_decide_eq_true (by first | (with_reducible assumption) | assumption)
                  have q282 : x13_1 < (l0.length : Int) := of_decide_eq_true (by first | (with_reducible assumption) | assumption)
                  obtain ⟨ad282, e282, hx282_0, hx282_1⟩ := at_T39 HR0.out x13_1 p282 q282
                  cases e282
                  replace p282 := eq_true p282
                  replace q282 := eq_true q282
                  have p283 : 0 ≤ (x13_1 : Int) := of_decide_eq_true (by first | (with_reducible assumption) | assumption)
                  have q283 : x13_1 < (l1.length : Int) := of_decide_eq_true (by first | (with_reducible assumption) | assumption)
                  obtain ⟨ad283, e283, hx283_0, hx283_1⟩ := at_T39 HR1.out x13_1 p283 q283
                  cases e283
                  replace p283 := eq_true p283
                  replace q283 := eq_true q283
                  go_wp2
                  repeat (go_quiet (fail); try go_wp2)
                  go_roundg k1
                  case measure => have := HK1.out; omega
                  case rel => exact ⟨(wrap64 (x13_1 + 1)), (by first | rfl | (simp; done) | (simp [*]; done)), H', ⟨by have := HK1.out; omega⟩, by repeat (first | exact Drawn0.refl _ | apply Drawn0.step)⟩
              · rw [if_neg c7] at H
                exact absurd H (by simp)
            · rw [if_neg c6] at H
              exact absurd H (by simp)
          · rw [if_neg c5] at H
            exact absurd H (by simp)
        · rw [if_neg c4] at H
          have c4b0 : decide (x13_1 < (l0.length : Int)) = false := decide_eq_false c4
          clear c4
          obtain rfl := Option.some.inj H
          go_wp2
          repeat (go_quiet (fail); try go_wp2)
          go_ret
          exact ⟨by first | rfl | (simp; done) | (simp [*]; done), by repeat (first | exact Drawn0.refl _ | apply Drawn0.step)⟩
  · rw [if_neg c3] at H
    have c3b0 : ((l0.length : Int) == (l1.length : Int)) = false := beq_eq_false_iff_ne.mpr c3
    have c3b1 : ((l0.length : Int) != (l1.length : Int)) = true := bne_iff_ne.mpr c3
    have c3b2 : (l0.length == l1.length) = false := by first | simpa using c3 | (simp at c3 ⊢; omega)
    obtain rfl := Option.some.inj H
    go_enter Tryd.func34, Tryd.ntmps34
    go_wp2
    repeat (go_quiet (fail); try go_wp2)
    go_ret
    exact ⟨by first | rfl | (simp; done) | (simp [*]; done), by repeat (first | exact Drawn0.refl _ | apply Drawn0.step)⟩

end Go.Proofs.YtcphflfjhkeooaaDoor.Z
end

section
-- Printed by a program of this session (mp.py) out of the translation.
namespace Go.Proofs.YtcphflfjhkeooaaDoor.Z
open Go.RowKit Go.Proofs.YtcphflfjhkeooaaDoorW.PrintWords Go.Proofs.YtcphflfjhkeooaaDoorW.PrintLast Go.Proofs.YtcphflfjhkeooaaDoorW.PrintMore
attribute [local go_sem] max2_int min2_int max_two min_two max_three min_three max_four min_four   -- for this text's walks alone
set_option linter.unusedVariables false
set_option linter.unusedSimpArgs false

/-! ### cambiumref03_Same: function 20 -/
def cambiumref03_Same.f (k : Nat) (a0_0 : Int) (l0_1 : List (S39)) (l0_2 : List (S39)) (a0_3 : Bool) (a0_4 : Int) (a1_0 : Int) (l1_1 : List (S39)) (l1_2 : List (S39)) (a1_3 : Bool) (a1_4 : Int) : Option (Bool) := if a0_0 = a1_0 then ((cambiumref03_sameBlocks.f k l0_1 l1_1).bind fun t286 => (if t286 = true then ((cambiumref03_sameBlocks.f k l0_2 l1_2).bind fun t287 => (if t287 = true then (if (a0_3 == a1_3) = true then (some (a0_4 == a1_4)) else (some false)) else (some false))) else (some false))) else (some false)
theorem cambiumref03_Same.mono : ∀ a0 a1 a2 a3 a4 a5 a6 a7 a8 a9 k, LeO (cambiumref03_Same.f k a0 a1 a2 a3 a4 a5 a6 a7 a8 a9) (cambiumref03_Same.f (k + 1) a0 a1 a2 a3 a4 a5 a6 a7 a8 a9) := by
  intro a0 a1 a2 a3 a4 a5 a6 a7 a8 a9 k
  unfold cambiumref03_Same.f
  repeat' first
      | (with_reducible exact cambiumref03_sameBlocks.mono _ _ _)
      | (with_reducible exact LeO.refl _)
      | (with_reducible exact LeO.none _)
      | (with_reducible refine LeO.ite ?_ ?_)
      | (with_reducible refine LeO.bind ?_ (fun _ => ?_))
      | exact cambiumref03_sameBlocks.mono _ _ _
      | exact LeO.none _
      | refine LeO.ite ?_ ?_
      | refine LeO.bind ?_ (fun _ => ?_)
set_option maxHeartbeats 8000000 in
set_option maxRecDepth 100000 in
theorem cambiumref03_Same.calls (k : Nat) (a0_0 : Int) (A0_1 : Option Addr) (c0_1 : Nat) (l0_1 : List (S39)) (A0_2 : Option Addr) (c0_2 : Nat) (l0_2 : List (S39)) (a0_3 : Bool) (a0_4 : Int) (a1_0 : Int) (A1_1 : Option Addr) (c1_1 : Nat) (l1_1 : List (S39)) (A1_2 : Option Addr) (c1_2 : Nat) (l1_2 : List (S39)) (a1_3 : Bool) (a1_4 : Int) (r : Bool) (w : World) (hr0_1 : Kd.C k39 w A0_1 l0_1.length l0_1) (hc0_1 : l0_1.length ≤ c0_1) (hr0_2 : Kd.C k39 w A0_2 l0_2.length l0_2) (hc0_2 : l0_2.length ≤ c0_2) (hr1_1 : Kd.C k39 w A1_1 l1_1.length l1_1) (hc1_1 : l1_1.length ≤ c1_1) (hr1_2 : Kd.C k39 w A1_2 l1_2.length l1_2) (hc1_2 : l1_2.length ≤ c1_2) (h : cambiumref03_Same.f k a0_0 l0_1 l0_2 a0_3 a0_4 a1_0 l1_1 l1_2 a1_3 a1_4 = some r) :
    Calls Tryd.prog 20 #[.agg #[.int .u32 a0_0, .slice A0_1 l0_1.length c0_1, .slice A0_2 l0_2.length c0_2, .bool a0_3, .int .i64 a0_4], .agg #[.int .u32 a1_0, .slice A1_1 l1_1.length c1_1, .slice A1_2 l1_2.length c1_2, .bool a1_3, .int .i64 a1_4]] w fun e w' => e = .returned (.bool r) ∧ Below w.heap.size w w' := by
  have hu25 := Tryd.underlying25
  have HR0_1 := Aside0.mk hr0_1
  have HC0_1 := Aside0.mk hc0_1
  clear hr0_1 hc0_1
  have HR0_2 := Aside0.mk hr0_2
  have HC0_2 := Aside0.mk hc0_2
  clear hr0_2 hc0_2
  have HR1_1 := Aside0.mk hr1_1
  have HC1_1 := Aside0.mk hc1_1
  clear hr1_1 hc1_1
  have HR1_2 := Aside0.mk hr1_2
  have HC1_2 := Aside0.mk hc1_2
  clear hr1_2 hc1_2
  have HB := Aside0.mk (Below.refl w.heap.size w)
  have H : (if a0_0 = a1_0 then ((cambiumref03_sameBlocks.f k l0_1 l1_1).bind fun t286 => (if t286 = true then ((cambiumref03_sameBlocks.f k l0_2 l1_2).bind fun t287 => (if t287 = true then (if (a0_3 == a1_3) = true then (some (a0_4 == a1_4)) else (some false)) else (some false))) else (some false))) else (some false)) = some r := h
  clear h
  by_cases c3 : a0_0 = a1_0
  · rw [if_pos c3] at H
    have c3b0 : (a0_0 == a1_0) = true := beq_iff_eq.mpr c3
    have c3b1 : (a0_0 != a1_0) = false := bne_eq_false_iff_eq.mpr c3
    clear c3
    replace H := Option.bind_eq_some_iff.mp H
    obtain ⟨t286, A40, H⟩ := H
    replace H : (if t286 = true then ((cambiumref03_sameBlocks.f k l0_2 l1_2).bind fun t287 => (if t287 = true then (if (a0_3 == a1_3) = true then (some (a0_4 == a1_4)) else (some false)) else (some false))) else (some false)) = some r := H
    have A4 := Aside0.mk A40
    clear A40
    by_cases c5 : t286 = true
    · subst c5
      have H1 : ((cambiumref03_sameBlocks.f k l0_2 l1_2).bind fun t287 => (if t287 = true then (if (a0_3 == a1_3) = true then (some (a0_4 == a1_4)) else (some false)) else (some false))) = some r := by rw [if_pos rfl] at H; exact H
      clear H
      have H := H1
      clear H1
      replace H := Option.bind_eq_some_iff.mp H
      obtain ⟨t287, A60, H⟩ := H
      replace H : (if t287 = true then (if (a0_3 == a1_3) = true then (some (a0_4 == a1_4)) else (some false)) else (some false)) = some r := H
      have A6 := Aside0.mk A60
      clear A60
      by_cases c7 : t287 = true
      · subst c7
        have H1 : (if (a0_3 == a1_3) = true then (some (a0_4 == a1_4)) else (some false)) = some r := by rw [if_pos rfl] at H; exact H
        clear H
        have H := H1
        clear H1
        by_cases c8 : (a0_3 == a1_3) = true
        · rw [if_pos c8] at H
          have c8b0 : (a0_3 == a1_3) = true := c8
          (try (have c8b1 : decide (a0_3 = a1_3) = true := by simpa using c8))
          (try (have c8b2 : (a0_3 == a1_3) = true := by simpa using c8))
          clear c8
          obtain rfl := Option.some.inj H
          go_enter Tryd.func20, Tryd.ntmps20
          go_wp2_with (first | ((with_reducible refine gate_dst (N := 2) rfl ?_); refine bx_ (N := 2) (cs := #[.int .u32 a0_0, .slice A0_1 l0_1.length c0_1, .slice A0_2 l0_2.length c0_2, .bool a0_3, .int .i64 a0_4]) (t := 25) ?_; intro gb284 hg w9 hbox hb; have BK284 := Aside0.mk (hbox); have GW284 := ge_ hg; have GE284 := ge_ hg; replace HB := hb_ hb; clear hb hbox hg) | ((with_reducible refine gate_dst (N := 3) rfl ?_); refine bx_ (N := 3) (cs := #[.int .u32 a1_0, .slice A1_1 l1_1.length c1_1, .slice A1_2 l1_2.length c1_2, .bool a1_3, .int .i64 a1_4]) (t := 25) ?_; intro gb285 hg w10 hbox hb; have BK285 := Aside0.mk (hbox); have GW285 := ge_ hg; have GE285 := ge_ hg; have NB284_285 := nl_ BK284 hg; have NB285_284 := ng_ BK284 hg; replace BK284 := kb_ BK284 hb; replace HB := hb_ hb; clear hb hbox hg; have hnb11 := NB284_285.out; have hnc11 := NB285_284.out; obtain ⟨hcz12_0, hcz12_1, hcz12_2, hcz12_3, hcz12_4⟩ := cl5_ BK284; obtain ⟨hfz12_0, hfz12_1, hfz12_2, hfz12_3, hfz12_4⟩ := fz5_ BK284; obtain ⟨hcz13_0, hcz13_1, hcz13_2, hcz13_3, hcz13_4⟩ := cl5_ BK285; obtain ⟨hfz13_0, hfz13_1, hfz13_2, hfz13_3, hfz13_4⟩ := fz5_ BK285) | (go_at_call 34; (with_reducible refine (cambiumref03_sameBlocks.calls k _ _ l0_1 _ _ l1_1 true _ ?side1 ?side2 ?side3 ?side4 A4.out).mono ?_); (case side1 => exact cb_ HR0_1); (case side2 => exact HC0_1.out); (case side3 => exact cb_ HR1_1); (case side4 => exact HC1_1.out); rintro e w' ⟨rfl, ⟨nd, rfl⟩⟩) | (go_at_call 34; (with_reducible refine (cambiumref03_sameBlocks.calls k _ _ l0_2 _ _ l1_2 true _ ?side1 ?side2 ?side3 ?side4 A6.out).mono ?_); (case side1 => repeat (first | exact (Kd.C_below HR0_2.out bel_) | (with_reducible refine Kd.C_alloc ?_ _) | (with_reducible refine Kd.C_drewN ?_ _) | (with_reducible refine Kd.C_drew ?_))); (case side2 => exact HC0_2.out); (case side3 => repeat (first | exact (Kd.C_below HR1_2.out bel_) | (with_reducible refine Kd.C_alloc ?_ _) | (with_reducible refine Kd.C_drewN ?_ _) | (with_reducible refine Kd.C_drew ?_))); (case side4 => exact HC1_2.out); rintro e w' ⟨rfl, ⟨nd, rfl⟩⟩))
          go_ret
          exact ⟨by first | rfl | (simp [errW_none, errW_some] <;> rfl) | (simp [*, errW_none, errW_some] <;> rfl), bel_⟩
        · rw [if_neg c8] at H
          have c8b0 : (a0_3 == a1_3) = false := by simpa using c8
          (try (have c8b1 : decide (a0_3 = a1_3) = false := by simpa using c8))
          (try (have c8b2 : (a0_3 == a1_3) = false := by simpa using c8))
          (try (have c8b3 : ¬ (a0_3 = a1_3) := by simpa using c8))
          clear c8
          obtain rfl := Option.some.inj H
          go_enter Tryd.func20, Tryd.ntmps20
          go_wp2_with (first | ((with_reducible refine gate_dst (N := 2) rfl ?_); refine bx_ (N := 2) (cs := #[.int .u32 a0_0, .slice A0_1 l0_1.length c0_1, .slice A0_2 l0_2.length c0_2, .bool a0_3, .int .i64 a0_4]) (t := 25) ?_; intro gb284 hg w14 hbox hb; have BK284 := Aside0.mk (hbox); have GW284 := ge_ hg; have GE284 := ge_ hg; replace HB := hb_ hb; clear hb hbox hg) | ((with_reducible refine gate_dst (N := 3) rfl ?_); refine bx_ (N := 3) (cs := #[.int .u32 a1_0, .slice A1_1 l1_1.length c1_1, .slice A1_2 l1_2.length c1_2, .bool a1_3, .int .i64 a1_4]) (t := 25) ?_; intro gb285 hg w15 hbox hb; have BK285 := Aside0.mk (hbox); have GW285 := ge_ hg; have GE285 := ge_ hg; have NB284_285 := nl_ BK284 hg; have NB285_284 := ng_ BK284 hg; replace BK284 := kb_ BK284 hb; replace HB := hb_ hb; clear hb hbox hg; have hnb16 := NB284_285.out; have hnc16 := NB285_284.out; obtain ⟨hcz17_0, hcz17_1, hcz17_2, hcz17_3, hcz17_4⟩ := cl5_ BK284; obtain ⟨hfz17_0, hfz17_1, hfz17_2, hfz17_3, hfz17_4⟩ := fz5_ BK284; obtain ⟨hcz18_0, hcz18_1, hcz18_2, hcz18_3, hcz18_4⟩ := cl5_ BK285; obtain ⟨hfz18_0, hfz18_1, hfz18_2, hfz18_3, hfz18_4⟩ := fz5_ BK285) | (go_at_call 34; (with_reducible refine (cambiumref03_sameBlocks.calls k _ _ l0_1 _ _ l1_1 true _ ?side1 ?side2 ?side3 ?side4 A4.out).mono ?_); (case side1 => exact cb_ HR0_1); (case side2 => exact HC0_1.out); (case side3 => exact cb_ HR1_1); (case side4 => exact HC1_1.out); rintro e w' ⟨rfl, ⟨nd, rfl⟩⟩) | (go_at_call 34; (with_reducible refine (cambiumref03_sameBlocks.calls k _ _ l0_2 _ _ l1_2 true _ ?side1 ?side2 ?side3 ?side4 A6.out).mono ?_); (case side1 => repeat (first | exact (Kd.C_below HR0_2.out bel_) | (with_reducible refine Kd.C_alloc ?_ _) | (with_reducible refine Kd.C_drewN ?_ _) | (with_reducible refine Kd.C_drew ?_))); (case side2 => exact HC0_2.out); (case side3 => repeat (first | exact (Kd.C_below HR1_2.out bel_) | (with_reducible refine Kd.C_alloc ?_ _) | (with_reducible refine Kd.C_drewN ?_ _) | (with_reducible refine Kd.C_drew ?_))); (case side4 => exact HC1_2.out); rintro e w' ⟨rfl, ⟨nd, rfl⟩⟩))
          go_ret
          exact ⟨by first | rfl | (simp [errW_none, errW_some] <;> rfl) | (simp [*, errW_none, errW_some] <;> rfl), bel_⟩
      · replace c7 := Bool.eq_false_iff.mpr c7
        subst c7
        have H1 : (some false) = some r := by rw [if_neg (show ¬ (false = true) by decide)] at H; exact H
        clear H
        have H := H1
        clear H1
        obtain rfl := Option.some.inj H
        go_enter Tryd.func20, Tryd.ntmps20
        go_wp2_with (first | ((with_reducible refine gate_dst (N := 2) rfl ?_); refine bx_ (N := 2) (cs := #[.int .u32 a0_0, .slice A0_1 l0_1.length c0_1, .slice A0_2 l0_2.length c0_2, .bool a0_3, .int .i64 a0_4]) (t := 25) ?_; intro gb284 hg w19 hbox hb; have BK284 := Aside0.mk (hbox); have GW284 := ge_ hg; have GE284 := ge_ hg; replace HB := hb_ hb; clear hb hbox hg) | ((with_reducible refine gate_dst (N := 3) rfl ?_); refine bx_ (N := 3) (cs := #[.int .u32 a1_0, .slice A1_1 l1_1.length c1_1, .slice A1_2 l1_2.length c1_2, .bool a1_3, .int .i64 a1_4]) (t := 25) ?_; intro gb285 hg w20 hbox hb; have BK285 := Aside0.mk (hbox); have GW285 := ge_ hg; have GE285 := ge_ hg; have NB284_285 := nl_ BK284 hg; have NB285_284 := ng_ BK284 hg; replace BK284 := kb_ BK284 hb; replace HB := hb_ hb; clear hb hbox hg; have hnb21 := NB284_285.out; have hnc21 := NB285_284.out; obtain ⟨hcz22_0, hcz22_1, hcz22_2, hcz22_3, hcz22_4⟩ := cl5_ BK284; obtain ⟨hfz22_0, hfz22_1, hfz22_2, hfz22_3, hfz22_4⟩ := fz5_ BK284; obtain ⟨hcz23_0, hcz23_1, hcz23_2, hcz23_3, hcz23_4⟩ := cl5_ BK285; obtain ⟨hfz23_0, hfz23_1, hfz23_2, hfz23_3, hfz23_4⟩ := fz5_ BK285) | (go_at_call 34; (with_reducible refine (cambiumref03_sameBlocks.calls k _ _ l0_1 _ _ l1_1 true _ ?side1 ?side2 ?side3 ?side4 A4.out).mono ?_); (case side1 => exact cb_ HR0_1); (case side2 => exact HC0_1.out); (case side3 => exact cb_ HR1_1); (case side4 => exact HC1_1.out); rintro e w' ⟨rfl, ⟨nd, rfl⟩⟩) | (go_at_call 34; (with_reducible refine (cambiumref03_sameBlocks.calls k _ _ l0_2 _ _ l1_2 false _ ?side1 ?side2 ?side3 ?side4 A6.out).mono ?_); (case side1 => repeat (first | exact (Kd.C_below HR0_2.out bel_) | (with_reducible refine Kd.C_alloc ?_ _) | (with_reducible refine Kd.C_drewN ?_ _) | (with_reducible refine Kd.C_drew ?_))); (case side2 => exact HC0_2.out); (case side3 => repeat (first | exact (Kd.C_below HR1_2.out bel_) | (with_reducible refine Kd.C_alloc ?_ _) | (with_reducible refine Kd.C_drewN ?_ _) | (with_reducible refine Kd.C_drew ?_))); (case side4 => exact HC1_2.out); rintro e w' ⟨rfl, ⟨nd, rfl⟩⟩))
        go_ret
        exact ⟨by first | rfl | (simp [errW_none, errW_some] <;> rfl) | (simp [*, errW_none, errW_some] <;> rfl), bel_⟩
    · replace c5 := Bool.eq_false_iff.mpr c5
      subst c5
      have H1 : (some false) = some r := by rw [if_neg (show ¬ (false = true) by decide)] at H; exact H
      clear H
      have H := H1
      clear H1
      obtain rfl := Option.some.inj H
      go_enter Tryd.func20, Tryd.ntmps20
      go_wp2_with (first | ((with_reducible refine gate_dst (N := 2) rfl ?_); refine bx_ (N := 2) (cs := #[.int .u32 a0_0, .slice A0_1 l0_1.length c0_1, .slice A0_2 l0_2.length c0_2, .bool a0_3, .int .i64 a0_4]) (t := 25) ?_; intro gb284 hg w24 hbox hb; have BK284 := Aside0.mk (hbox); have GW284 := ge_ hg; have GE284 := ge_ hg; replace HB := hb_ hb; clear hb hbox hg) | ((with_reducible refine gate_dst (N := 3) rfl ?_); refine bx_ (N := 3) (cs := #[.int .u32 a1_0, .slice A1_1 l1_1.length c1_1, .slice A1_2 l1_2.length c1_2, .bool a1_3, .int .i64 a1_4]) (t := 25) ?_; intro gb285 hg w25 hbox hb; have BK285 := Aside0.mk (hbox); have GW285 := ge_ hg; have GE285 := ge_ hg; have NB284_285 := nl_ BK284 hg; have NB285_284 := ng_ BK284 hg; replace BK284 := kb_ BK284 hb; replace HB := hb_ hb; clear hb hbox hg; have hnb26 := NB284_285.out; have hnc26 := NB285_284.out; obtain ⟨hcz27_0, hcz27_1, hcz27_2, hcz27_3, hcz27_4⟩ := cl5_ BK284; obtain ⟨hfz27_0, hfz27_1, hfz27_2, hfz27_3, hfz27_4⟩ := fz5_ BK284; obtain ⟨hcz28_0, hcz28_1, hcz28_2, hcz28_3, hcz28_4⟩ := cl5_ BK285; obtain ⟨hfz28_0, hfz28_1, hfz28_2, hfz28_3, hfz28_4⟩ := fz5_ BK285) | (go_at_call 34; (with_reducible refine (cambiumref03_sameBlocks.calls k _ _ l0_1 _ _ l1_1 false _ ?side1 ?side2 ?side3 ?side4 A4.out).mono ?_); (case side1 => exact cb_ HR0_1); (case side2 => exact HC0_1.out); (case side3 => exact cb_ HR1_1); (case side4 => exact HC1_1.out); rintro e w' ⟨rfl, ⟨nd, rfl⟩⟩))
      go_ret
      exact ⟨by first | rfl | (simp [errW_none, errW_some] <;> rfl) | (simp [*, errW_none, errW_some] <;> rfl), bel_⟩
  · rw [if_neg c3] at H
    have c3b0 : (a0_0 == a1_0) = false := beq_eq_false_iff_ne.mpr c3
    have c3b1 : (a0_0 != a1_0) = true := bne_iff_ne.mpr c3
    obtain rfl := Option.some.inj H
    go_enter Tryd.func20, Tryd.ntmps20
    go_wp2_with (first | ((with_reducible refine gate_dst (N := 2) rfl ?_); refine bx_ (N := 2) (cs := #[.int .u32 a0_0, .slice A0_1 l0_1.length c0_1, .slice A0_2 l0_2.length c0_2, .bool a0_3, .int .i64 a0_4]) (t := 25) ?_; intro gb284 hg w29 hbox hb; have BK284 := Aside0.mk (hbox); have GW284 := ge_ hg; have GE284 := ge_ hg; replace HB := hb_ hb; clear hb hbox hg) | ((with_reducible refine gate_dst (N := 3) rfl ?_); refine bx_ (N := 3) (cs := #[.int .u32 a1_0, .slice A1_1 l1_1.length c1_1, .slice A1_2 l1_2.length c1_2, .bool a1_3, .int .i64 a1_4]) (t := 25) ?_; intro gb285 hg w30 hbox hb; have BK285 := Aside0.mk (hbox); have GW285 := ge_ hg; have GE285 := ge_ hg; have NB284_285 := nl_ BK284 hg; have NB285_284 := ng_ BK284 hg; replace BK284 := kb_ BK284 hb; replace HB := hb_ hb; clear hb hbox hg; have hnb31 := NB284_285.out; have hnc31 := NB285_284.out; obtain ⟨hcz32_0, hcz32_1, hcz32_2, hcz32_3, hcz32_4⟩ := cl5_ BK284; obtain ⟨hfz32_0, hfz32_1, hfz32_2, hfz32_3, hfz32_4⟩ := fz5_ BK284; obtain ⟨hcz33_0, hcz33_1, hcz33_2, hcz33_3, hcz33_4⟩ := cl5_ BK285; obtain ⟨hfz33_0, hfz33_1, hfz33_2, hfz33_3, hfz33_4⟩ := fz5_ BK285))
    go_ret
    exact ⟨by first | rfl | (simp [errW_none, errW_some] <;> rfl) | (simp [*, errW_none, errW_some] <;> rfl), bel_⟩

end Go.Proofs.YtcphflfjhkeooaaDoor.Z
end

section
/- What the laws on devices need beside: the reference's Cut, Same; what the arguments bring. -/
namespace Go.Proofs.YtcphflfjhkeooaaDoor.Z
open Go.RowKit Go.Proofs.YtcphflfjhkeooaaDoorW.PrintWords Go.Proofs.YtcphflfjhkeooaaDoorW.PrintLast
set_option linter.unusedVariables false
theorem wf32 {n : Int} (h : (Lit.int .u32 n).wf = true) : 0 ≤ n ∧ n < 4294967296 := by
  have := (Lit.wf_int_iff .u32 n).1 h
  simp only [IntKind.min, IntKind.max, IntKind.signed, IntKind.bits] at this
  simp at this
  omega
theorem wf64 {n : Int} (h : (Lit.int .i64 n).wf = true) : -9223372036854775808 ≤ n ∧ n ≤ 9223372036854775807 := by
  have := (Lit.wf_int_iff .i64 n).1 h
  simp only [IntKind.min, IntKind.max, IntKind.signed, IntKind.bits] at this
  simp at this
  omega
theorem num0 {l : List Bk} (h : ∀ x ∈ l, G39 x) : Num0 l := fun x hx => (wf32 (h x hx).1).1
theorem inp {s : Int} {bl wl : List Bk} (h1 : ∀ x ∈ bl, G39 x) (h2 : ∀ x ∈ wl, G39 x) (h3 : bl.length ≤ maxLen) : Inp s bl wl := ⟨num0 h1, num0 h2, h3⟩
theorem readS_congr {bl wl bl2 wl2 : List Bk} {n : Int} (h : readL bl wl n = readL bl2 wl2 n) (s : Int) (d : Bool) : readS s bl wl d n = readS s bl2 wl2 d n := by
  unfold readS; rw [h]
theorem readL_put {bl : List Bk} (h : Asc bl) (wl : List Bk) (x : Bk) {m : Int} (hm : m ≠ x.f0) : readL (putL bl x) wl m = readL bl wl m := by
  unfold readL
  cases wl.reverse.find? (fun x => x.f0 == m) with
  | some y => rfl
  | none => simp only [has_put h, if_neg hm]
theorem readS_err (s : Int) (bl wl bl2 wl2 : List Bk) (d : Bool) (n : Int) : (readS s bl wl d n).2 = (readS s bl2 wl2 d n).2 := by
  unfold readS
  by_cases h : d = true
  · rw [if_pos h, if_pos h]
  · rw [if_neg h, if_neg h]
    by_cases h2 : n ≥ s
    · rw [if_pos h2, if_pos h2]
    · rw [if_neg h2, if_neg h2]
-- the reference's Cut
theorem bt_get (s : ByteArray) (i : Nat) (h : i < s.size) : bt s (i : Int) = ((s.data.toList[i]'(by simpa using h)).toNat : Int) := by
  unfold bt
  rw [dif_pos (by rw [Int.toNat_natCast]; exact h)]
  simp only [Int.toNat_natCast]
  rfl
theorem byte_zero {b : UInt8} : (b.toNat : Int) = 0 ↔ b = 0 := by
  constructor
  · intro h
    have h2 : b.toNat = (0 : UInt8).toNat := by show b.toNat = 0; omega
    exact UInt8.toNat_inj.1 h2
  · intro h; subst h; rfl
theorem refCut_l0 : ∀ (n : Nat) (a : ByteArray), a.size = n → a.size ≤ 9223372036854775807 → Ev (fun k => cambiumref03_Cut.l0 k a) (trimB a)
  | 0, a, h, _ => by
    refine Ev.step (fun k => by rw [cambiumref03_Cut.l0]) ?_
    refine Ev.ifp (toList_nil.2 h) (Ev.const ?_)
    rw [size_zero h]; rfl
  | n + 1, a, h, hm => by
    have e : wrap64 ((a.size : Int) - 1) = (n : Int) := by rw [w64 (by omega) (by omega)]; omega
    refine Ev.step (fun k => by rw [cambiumref03_Cut.l0]) ?_
    refine Ev.ifn (fun e => by have := toList_nil.1 e; omega) (Ev.ifp (by rw [e]; omega) (Ev.ifp (by rw [e]; omega) ?_))
    have hl : a.data.toList.length = n + 1 := by rw [← h]; simp
    obtain ⟨m, b, hmb⟩ : ∃ m b, a.data.toList = m ++ [b] := by
      rcases List.eq_nil_or_concat a.data.toList with e | ⟨m, b, e⟩
      · rw [e] at hl; simp at hl
      · exact ⟨m, b, by rw [e, List.concat_eq_append]⟩
    have hml : m.length = n := by rw [hmb] at hl; simpa using hl
    have hb : bt a (n : Int) = (b.toNat : Int) := by
      rw [bt_get a n (by omega)]
      congr 2
      simp only [hmb]
      rw [List.getElem_append_right (by omega)]
      simp [hml]
    rw [e, hb]
    have ht : trimB a = ⟨(trimL (m ++ [b])).toArray⟩ := by unfold trimB; rw [hmb]
    rw [ht, trimL_snoc]
    refine Ev.ite (fun hz => ?_) (fun hz => ?_)
    · rw [byte_zero] at hz
      rw [if_pos hz, Int.toNat_natCast]
      refine Ev.ifp (by omega) ?_
      have hx : a.extract 0 n = ⟨m.toArray⟩ := by
        apply bytes_inj
        rw [ByteArray.toList_eq, ByteArray.toList_eq, ByteArray.data_extract, Array.toList_extract, hmb]
        simp [List.extract_eq_take_drop, hml]
      rw [hx]
      have hs : (ByteArray.mk m.toArray).size = n := by simpa [ByteArray.size] using hml
      exact refCut_l0 n ⟨m.toArray⟩ hs (by omega)
    · rw [byte_zero] at hz
      rw [if_neg hz]
      refine Ev.const ?_
      congr 1
      cases a with
      | mk a =>
        congr 1
        rw [← hmb]
theorem refCut (a : ByteArray) (h : a.size ≤ 9223372036854775807) : Ev (fun k => cambiumref03_Cut.f k a) (trimB a) := refCut_l0 _ a rfl h
-- two devices are one
theorem same_l0 (a b : List Bk) (hl : a.length = b.length) (hm : a.length ≤ 4398046511104000) : ∀ d i : Nat, a.length = i + d → ∃ r, Ev (fun k => cambiumref03_sameBlocks.l0 k a b (a.length : Int) (i : Int)) r ∧ (a.drop i = b.drop i → r = true)
  | 0, i, hi => ⟨true, by
      refine Ev.step (fun k => by rw [cambiumref03_sameBlocks.l0]) ?_
      exact Ev.ifn (by omega) (Ev.const rfl), fun _ => rfl⟩
  | d + 1, i, hi => by
    obtain ⟨r, h1, h2⟩ := same_l0 a b hl hm d (i + 1) (by omega)
    have hia : i < a.length := by omega
    have hib : i < b.length := by omega
    have hw : wrap64 ((i : Int) + 1) = ((i + 1 : Nat) : Int) := by rw [w64 (by omega) (by omega)]; omega
    by_cases hc : (!((rd_T39 a (i : Int)).f0 == (rd_T39 b (i : Int)).f0) || (!((rd_T39 a (i : Int)).f1.toList == (rd_T39 b (i : Int)).f1.toList))) = true
    · refine ⟨false, Ev.step (fun k => by rw [cambiumref03_sameBlocks.l0]) ?_, fun he => ?_⟩
      · exact Ev.ifp (by omega) (Ev.ifp (by omega) (Ev.ifp (by omega) (Ev.ifp (by omega) (Ev.ifp hc (Ev.const rfl)))))
      · rw [List.drop_eq_getElem_cons hia, List.drop_eq_getElem_cons hib] at he
        have he := (List.cons.inj he).1
        rw [rd_get a i hia, rd_get b i hib, he] at hc
        simp at hc
    · refine ⟨r, Ev.step (fun k => by rw [cambiumref03_sameBlocks.l0]) ?_, fun he => ?_⟩
      · refine Ev.ifp (by omega) (Ev.ifp (by omega) (Ev.ifp (by omega) (Ev.ifp (by omega) (Ev.ifn hc ?_))))
        rw [hw]; exact h1
      · rw [List.drop_eq_getElem_cons hia, List.drop_eq_getElem_cons hib] at he
        exact h2 (List.cons.inj he).2
theorem sameB_self (a : List Bk) (hm : a.length ≤ 4398046511104000) : Ev (fun k => cambiumref03_sameBlocks.f k a a) true := by
  obtain ⟨r, h1, h2⟩ := same_l0 a a rfl hm a.length 0 (by omega)
  rw [h2 rfl] at h1
  unfold cambiumref03_sameBlocks.f
  exact Ev.ifp rfl h1
theorem same_self (s : Int) (bl wl : List Bk) (d : Bool) (f : Int) (h1 : bl.length ≤ 4398046511104000) (h2 : wl.length ≤ 4398046511104000) : Ev (fun k => cambiumref03_Same.f k s bl wl d f s bl wl d f) true := by
  unfold cambiumref03_Same.f
  refine Ev.ifp rfl (Ev.bind (sameB_self bl h1) (Ev.ifp rfl (Ev.bind (sameB_self wl h2) (Ev.ifp rfl (Ev.ifp (by simp) (Ev.const ?_))))))
  simp
end Go.Proofs.YtcphflfjhkeooaaDoor.Z
end
