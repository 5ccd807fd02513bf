/- TopKeyed: at every input the law's function returns true and leaves its arguments as they were; no condition beyond the row's own. Part 2 of 3: this session's own texts, laid together. -/
import Derived.Test.YthbljhmjppjcjaaMTopKeyed1
import Derived.StillTailTactics
import Derived.Laws.CopyOwn
import Derived.Laws.LoneSync
import Derived.Test.YthbljhmjppjcjaaProg
import Derived.Laws.Strings
section
-- Printed by a program of this session (mp.py) out of the translation.
namespace Go.Proofs.Ythbljhmjppjcjaa.Z
open Go.RowKit Go.Proofs.YthbljhmjppjcjaaW.PrintWords Go.Proofs.YthbljhmjppjcjaaW.PrintLast Go.Proofs.YthbljhmjppjcjaaW.PrintMore
attribute [local go_sem] max2_int min2_int max_two min_two max_three min_three max_four min_four   -- for this text's walks alone
set_option linter.unusedVariables false
set_option linter.unusedSimpArgs false

/-! ### inode_Parse: function 8 -/
def inode_Parse.l0 : Nat → ByteArray → Int → Int → Int → Int → Int → Int → Int → Int → Int → Int → Int → ByteArray → Int → Option (Int × Int × ByteArray × Int × Int)
  | 0, _, _, _, _, _, _, _, _, _, _, _, _, _, _ => none
  | k + 1, x0, x6, x143000, x143001, x143002, x143003, x143004, x143005, x143006, x143007, x144000, x144001, x144002, x144003 => if x6 < 5 then ((inode_letters_letter.f x143000 x143001 x143002 x143003 x143004 x143005 x143006 x143007 x6).bind fun bt144 => (if 0 < (x0.size : Int) then (if bt144.1 = (bt x0 0) then (inode_Parse.l0 k x0 ((x6 + 1) % 256) bt144.2.1 bt144.2.2.1 bt144.2.2.2.1 bt144.2.2.2.2.1 bt144.2.2.2.2.2.1 bt144.2.2.2.2.2.2.1 bt144.2.2.2.2.2.2.2.1 bt144.2.2.2.2.2.2.2.2 x6 x144001 x144002 x144003) else (inode_Parse.l0 k x0 ((x6 + 1) % 256) bt144.2.1 bt144.2.2.1 bt144.2.2.2.1 bt144.2.2.2.2.1 bt144.2.2.2.2.2.1 bt144.2.2.2.2.2.2.1 bt144.2.2.2.2.2.2.2.1 bt144.2.2.2.2.2.2.2.2 x144000 x144001 x144002 x144003)) else (none))) else (if 1 ≤ (x0.size : Int) then ((inode_taker_number.f k (x0.extract 1 x0.size) false 4).bind fun bt154 => (if x144000 = 3 then ((inode_taker_number.f k bt154.2.1 bt154.2.2 4).bind fun bt157 => ((inode_Key.f k x144000 ((bt154.1) % 4294967296) x144002 ((bt157.1) % 4294967296)).bind fun bt160 => (if bt157.2.2 = true then (some (0, 0, (⟨#[]⟩ : ByteArray), 0, 4)) else (if bt160.2 = 0 then (if bt160.1.toList = x0.toList then (some (x144000, (bt154.1) % 4294967296, x144002, (bt157.1) % 4294967296, 0)) else (some (0, 0, (⟨#[]⟩ : ByteArray), 0, 4))) else (some (0, 0, (⟨#[]⟩ : ByteArray), 0, 4)))))) else ((inode_Key.f k x144000 ((bt154.1) % 4294967296) bt154.2.1 x144003).bind fun bt162 => (if bt154.2.2 = true then (some (0, 0, (⟨#[]⟩ : ByteArray), 0, 4)) else (if bt162.2 = 0 then (if bt162.1.toList = x0.toList then (some (x144000, (bt154.1) % 4294967296, bt154.2.1, x144003, 0)) else (some (0, 0, (⟨#[]⟩ : ByteArray), 0, 4))) else (some (0, 0, (⟨#[]⟩ : ByteArray), 0, 4))))))) else (none))
def inode_Parse.f (k : Nat) (a0 : ByteArray) : Option (Int × Int × ByteArray × Int × Int) := if (a0.size : Int) < 5 then (some (0, 0, (⟨#[]⟩ : ByteArray), 0, 4)) else (inode_Parse.l0 k a0 1 0 0 0 0 0 0 0 0 0 0 (⟨#[]⟩ : ByteArray) 0)
theorem inode_Parse.mono_l : ∀ k, (∀ y0 y1 y2 y3 y4 y5 y6 y7 y8 y9 y10 y11 y12 y13, LeO (inode_Parse.l0 k y0 y1 y2 y3 y4 y5 y6 y7 y8 y9 y10 y11 y12 y13) (inode_Parse.l0 (k + 1) y0 y1 y2 y3 y4 y5 y6 y7 y8 y9 y10 y11 y12 y13))
  | 0 => fun _ _ _ _ _ _ _ _ _ _ _ _ _ _ r h => by simp [inode_Parse.l0] at h
  | k + 1 => by
    have ih0 := inode_Parse.mono_l k
    · intro y0 y1 y2 y3 y4 y5 y6 y7 y8 y9 y10 y11 y12 y13
      unfold inode_Parse.l0
      repeat' first
      | (with_reducible exact ih0 _ _ _ _ _ _ _ _ _ _ _ _ _ _)
      | (with_reducible exact inode_Key.mono _ _ _ _ _)
      | (with_reducible exact inode_taker_number.mono _ _ _ _)
      | (with_reducible exact LeO.refl _)
      | (with_reducible exact LeO.none _)
      | (with_reducible refine LeO.ite ?_ ?_)
      | (with_reducible refine LeO.bind ?_ (fun _ => ?_))
      | exact ih0 _ _ _ _ _ _ _ _ _ _ _ _ _ _
      | exact inode_Key.mono _ _ _ _ _
      | exact inode_taker_number.mono _ _ _ _
      | exact LeO.none _
      | refine LeO.ite ?_ ?_
      | refine LeO.bind ?_ (fun _ => ?_)
theorem inode_Parse.mono : ∀ a0 k, LeO (inode_Parse.f k a0) (inode_Parse.f (k + 1) a0) := by
  intro a0 k
  have ih0 := inode_Parse.mono_l k
  unfold inode_Parse.f
  repeat' first
      | (with_reducible exact ih0 _ _ _ _ _ _ _ _ _ _ _ _ _ _)
      | (with_reducible exact inode_Key.mono _ _ _ _ _)
      | (with_reducible exact inode_taker_number.mono _ _ _ _)
      | (with_reducible exact LeO.refl _)
      | (with_reducible exact LeO.none _)
      | (with_reducible refine LeO.ite ?_ ?_)
      | (with_reducible refine LeO.bind ?_ (fun _ => ?_))
      | exact ih0 _ _ _ _ _ _ _ _ _ _ _ _ _ _
      | exact inode_Key.mono _ _ _ _ _
      | exact inode_taker_number.mono _ _ _ _
      | exact LeO.none _
      | refine LeO.ite ?_ ?_
      | refine LeO.bind ?_ (fun _ => ?_)
set_option maxHeartbeats 8000000 in
set_option maxRecDepth 100000 in
theorem inode_Parse.calls (k : Nat) (a0 : ByteArray) (r1 : Int) (r2 : Int) (r3 : ByteArray) (r4 : Int) (r5 : Int) (w : World) (h : inode_Parse.f k a0 = some (r1, r2, r3, r4, r5)) :
    Calls Try.prog 8 #[.string a0] w fun e w' => e = .returned (.tuple #[.agg #[.int .u8 r1, .int .u32 r2, .string r3, .int .u32 r4], .int .i64 r5]) ∧ Below w.heap.size w w' := by
  have hu33 := Try.underlying33
  have hu58 := Try.underlying58
  have hu66 := Try.underlying66
  have HB := Aside0.mk (Below.refl w.heap.size w)
  have H : (if (a0.size : Int) < 5 then (some (0, 0, (⟨#[]⟩ : ByteArray), 0, 4)) else (inode_Parse.l0 k a0 1 0 0 0 0 0 0 0 0 0 0 (⟨#[]⟩ : ByteArray) 0)) = some (r1, r2, r3, r4, r5) := h
  clear h
  by_cases c2 : (a0.size : Int) < 5
  · rw [if_pos c2] at H
    have c2b0 : decide ((a0.size : Int) < 5) = true := decide_eq_true c2
    have c2b1 : decide (a0.size < 5) = true := decide_eq_true (by omega)
    clear c2
    simp only [Option.some.injEq, Prod.mk.injEq] at H
    obtain ⟨rfl, rfl, rfl, rfl, rfl⟩ := H
    go_enter Try.func8, Try.ntmps8
    go_wp2_with (first | ((with_reducible refine gate_dst (N := 2) rfl ?_); refine box_event ?hg (N := 2) ?hd (cs := #[.int .u8 0, .int .u32 0, .string (⟨#[]⟩ : ByteArray), .int .u32 0]) (t := 33) ?hr ?_; (case hd => rfl); (case hg => rfl); (case hr => first | (go_simp; done) | (go_simp; rfl)); intro gb141 hg w3 hbox hb; have n0_ := Aside0.mk (below_step (by repeat (first | (with_reducible first | exact HB.out | apply below_alloc | apply pw_below_drewN | apply below_drew1) | exact HB.out)) hb); have n1_ := Aside0.mk (hbox); have n2_ := Aside0.mk ((by rw [hg]; exact (below_size (by repeat (first | (with_reducible first | exact HB.out | apply below_alloc | apply pw_below_drewN | apply below_drew1) | exact HB.out))) : w.heap.size ≤ gb141)); have n3_ := Aside0.mk ((by rw [hg]; exact (below_size (by repeat (first | (with_reducible first | exact HB.out | apply below_alloc | apply pw_below_drewN | apply below_drew1) | exact HB.out))) : w.heap.size ≤ gb141)); clear HB; have HB := n0_; have BK141 := n1_; have GW141 := n2_; have GE141 := n3_; clear n0_ n1_ n2_ n3_; clear hb hbox hg; have hcz4_0 : w3.cell? ⟨gb141, 0, none⟩ = some (.int .u8 0) := (blk_cell BK141.out 0).trans rfl; have hcz4_1 : w3.cell? ⟨gb141, 1, none⟩ = some (.int .u32 0) := (blk_cell BK141.out 1).trans rfl; have hcz4_2 : w3.cell? ⟨gb141, 2, none⟩ = some (.string (⟨#[]⟩ : ByteArray)) := (blk_cell BK141.out 2).trans rfl; have hcz4_3 : w3.cell? ⟨gb141, 3, none⟩ = some (.int .u32 0) := (blk_cell BK141.out 3).trans rfl; have hfz4_0 := blk_frozen BK141.out 0; have hfz4_1 := blk_frozen BK141.out 1; have hfz4_2 := blk_frozen BK141.out 2; have hfz4_3 := blk_frozen BK141.out 3))
    refine bodyPost_ret (results_ct rfl _ _ gb141 33 #[.int .u8 0, .int .u32 0, .string (⟨#[]⟩ : ByteArray), .int .u32 0] (0, 0) _ rfl (by (with_reducible repeat (first | refine blk_drewN ?_ _ | refine blk_drew ?_ | refine blk_alloc ?_ _)); refine blk_put (cs := #[.int .u8 0, .int .u32 0, .string (⟨#[]⟩ : ByteArray), .int .u32 0]) ?_ 3 _ rfl; (with_reducible repeat (first | refine blk_drewN ?_ _ | refine blk_drew ?_ | refine blk_alloc ?_ _)); refine blk_put (cs := #[.int .u8 0, .int .u32 0, .string (⟨#[]⟩ : ByteArray), .int .u32 0]) ?_ 2 _ rfl; (with_reducible repeat (first | refine blk_drewN ?_ _ | refine blk_drew ?_ | refine blk_alloc ?_ _)); refine blk_put (cs := #[.int .u8 0, .int .u32 0, .string (⟨#[]⟩ : ByteArray), .int .u32 0]) ?_ 1 _ rfl; (with_reducible repeat (first | refine blk_drewN ?_ _ | refine blk_drew ?_ | refine blk_alloc ?_ _)); refine blk_put (cs := #[.int .u8 0, .int .u32 0, .string (⟨#[]⟩ : ByteArray), .int .u32 0]) ?_ 0 _ rfl; (with_reducible repeat (first | refine blk_drewN ?_ _ | refine blk_drew ?_ | refine blk_alloc ?_ _)); exact BK141.out) Try.underlying33 rfl (by kernel_rfl)) rfl ?_
    exact ⟨by first | rfl | (simp [errW_none, errW_some] <;> rfl) | (simp [*, errW_none, errW_some] <;> rfl), by repeat (first | (with_reducible first | exact HB.out | apply below_alloc | apply pw_below_drewN | apply below_drew1 | refine below_set ?_ GE141.out) | exact HB.out)⟩
  · rw [if_neg c2] at H
    have c2b0 : decide ((a0.size : Int) < 5) = false := decide_eq_false c2
    have c2b1 : decide (a0.size < 5) = false := decide_eq_false (by omega)
    clear c2
    have H' := Aside0.mk H
    clear H
    go_enter Try.func8, Try.ntmps8
    go_wp2_with (first | ((with_reducible refine gate_dst (N := 2) rfl ?_); refine box_event ?hg (N := 2) ?hd (cs := #[.int .u8 0, .int .u32 0, .string (⟨#[]⟩ : ByteArray), .int .u32 0]) (t := 33) ?hr ?_; (case hd => rfl); (case hg => rfl); (case hr => first | (go_simp; done) | (go_simp; rfl)); intro gb141 hg w5 hbox hb; have n0_ := Aside0.mk (below_step (by repeat (first | (with_reducible first | exact HB.out | apply below_alloc | apply pw_below_drewN | apply below_drew1) | exact HB.out)) hb); have n1_ := Aside0.mk (hbox); have n2_ := Aside0.mk ((by rw [hg]; exact (below_size (by repeat (first | (with_reducible first | exact HB.out | apply below_alloc | apply pw_below_drewN | apply below_drew1) | exact HB.out))) : w.heap.size ≤ gb141)); have n3_ := Aside0.mk ((by rw [hg]; exact (below_size (by repeat (first | (with_reducible first | exact HB.out | apply below_alloc | apply pw_below_drewN | apply below_drew1) | exact HB.out))) : w.heap.size ≤ gb141)); clear HB; have HB := n0_; have BK141 := n1_; have GW141 := n2_; have GE141 := n3_; clear n0_ n1_ n2_ n3_; clear hb hbox hg) | ((with_reducible refine gate_dst (N := 4) rfl ?_); refine box_event ?hg (N := 4) ?hd (cs := #[.int .u32 0, .int .i32 0, .int .u32 0, .int .u8 0, .int .u8 0, .int .u8 0, .int .u8 0, .int .u8 0]) (t := 58) ?hr ?_; (case hd => rfl); (case hg => rfl); (case hr => first | (go_simp; done) | (go_simp; rfl)); intro gb142 hg w6 hbox hb; have n0_ := Aside0.mk (blk_below (g := gb141) (o := .cells #[.int .u8 0, .int .u32 0, .string (⟨#[]⟩ : ByteArray), .int .u32 0] 33 (0, 0)) (by (with_reducible repeat (first | refine blk_drewN ?_ _ | refine blk_drew ?_ | refine blk_alloc ?_ _)); exact BK141.out) hb); have n1_ := Aside0.mk (below_step (by repeat (first | (with_reducible first | exact HB.out | apply below_alloc | apply pw_below_drewN | apply below_drew1 | refine below_set ?_ GE141.out) | exact HB.out)) hb); have n2_ := Aside0.mk (hbox); have n3_ := Aside0.mk ((by rw [hg]; exact (below_size (by repeat (first | (with_reducible first | exact HB.out | apply below_alloc | apply pw_below_drewN | apply below_drew1 | refine below_set ?_ GE141.out) | exact HB.out))) : w.heap.size ≤ gb142)); have n4_ := Aside0.mk ((by rw [hg]; exact (below_size (by repeat (first | (with_reducible first | exact HB.out | apply below_alloc | apply pw_below_drewN | apply below_drew1 | refine below_set ?_ GE141.out) | exact HB.out))) : w.heap.size ≤ gb142)); have n5_ := Aside0.mk ((by rw [hg]; exact Nat.ne_of_lt (blk_lt (g := gb141) (o := .cells #[.int .u8 0, .int .u32 0, .string (⟨#[]⟩ : ByteArray), .int .u32 0] 33 (0, 0)) (by (with_reducible repeat (first | refine blk_drewN ?_ _ | refine blk_drew ?_ | refine blk_alloc ?_ _)); exact BK141.out)) : gb141 ≠ gb142)); have n6_ := Aside0.mk ((by rw [hg]; exact Nat.ne_of_gt (blk_lt (g := gb141) (o := .cells #[.int .u8 0, .int .u32 0, .string (⟨#[]⟩ : ByteArray), .int .u32 0] 33 (0, 0)) (by (with_reducible repeat (first | refine blk_drewN ?_ _ | refine blk_drew ?_ | refine blk_alloc ?_ _)); exact BK141.out)) : gb142 ≠ gb141)); clear BK141; clear HB; have BK141 := n0_; have HB := n1_; have BK142 := n2_; have GW142 := n3_; have GE142 := n4_; have NB141_142 := n5_; have NB142_141 := n6_; clear n0_ n1_ n2_ n3_ n4_ n5_ n6_; clear hb hbox hg) | ((with_reducible refine gate_dst (N := 5) rfl ?_); refine box_event ?hg (N := 5) ?hd (cs := #[.int .u8 0, .int .u32 0, .string (⟨#[]⟩ : ByteArray), .int .u32 0]) (t := 33) ?hr ?_; (case hd => rfl); (case hg => rfl); (case hr => first | (go_simp; done) | (go_simp; rfl)); intro gb143 hg w7 hbox hb; have n0_ := Aside0.mk (blk_below (g := gb141) (o := .cells #[.int .u8 0, .int .u32 0, .string (⟨#[]⟩ : ByteArray), .int .u32 0] 33 (0, 0)) (by (with_reducible repeat (first | refine blk_drewN ?_ _ | refine blk_drew ?_ | refine blk_alloc ?_ _)); exact BK141.out) hb); have n1_ := Aside0.mk (blk_below (g := gb142) (o := .cells #[.int .u32 0, .int .i32 0, .int .u32 0, .int .u8 0, .int .u8 0, .int .u8 0, .int .u8 0, .int .u8 0] 58 (0, 0)) (by (with_reducible repeat (first | refine blk_drewN ?_ _ | refine blk_drew ?_ | refine blk_alloc ?_ _)); exact BK142.out) hb); have n2_ := Aside0.mk (below_step (by repeat (first | (with_reducible first | exact HB.out | apply below_alloc | apply pw_below_drewN | apply below_drew1 | refine below_set ?_ GE141.out | refine below_set ?_ GE142.out) | exact HB.out)) hb); have n3_ := Aside0.mk (hbox); have n4_ := Aside0.mk ((by rw [hg]; exact (below_size (by repeat (first | (with_reducible first | exact HB.out | apply below_alloc | apply pw_below_drewN | apply below_drew1 | refine below_set ?_ GE141.out | refine below_set ?_ GE142.out) | exact HB.out))) : w.heap.size ≤ gb143)); have n5_ := Aside0.mk ((by rw [hg]; exact (below_size (by repeat (first | (with_reducible first | exact HB.out | apply below_alloc | apply pw_below_drewN | apply below_drew1 | refine below_set ?_ GE141.out | refine below_set ?_ GE142.out) | exact HB.out))) : w.heap.size ≤ gb143)); have n6_ := Aside0.mk ((by rw [hg]; exact Nat.ne_of_lt (blk_lt (g := gb141) (o := .cells #[.int .u8 0, .int .u32 0, .string (⟨#[]⟩ : ByteArray), .int .u32 0] 33 (0, 0)) (by (with_reducible repeat (first | refine blk_drewN ?_ _ | refine blk_drew ?_ | refine blk_alloc ?_ _)); exact BK141.out)) : gb141 ≠ gb143)); have n7_ := Aside0.mk ((by rw [hg]; exact Nat.ne_of_gt (blk_lt (g := gb141) (o := .cells #[.int .u8 0, .int .u32 0, .string (⟨#[]⟩ : ByteArray), .int .u32 0] 33 (0, 0)) (by (with_reducible repeat (first | refine blk_drewN ?_ _ | refine blk_drew ?_ | refine blk_alloc ?_ _)); exact BK141.out)) : gb143 ≠ gb141)); have n8_ := Aside0.mk ((by rw [hg]; exact Nat.ne_of_lt (blk_lt (g := gb142) (o := .cells #[.int .u32 0, .int .i32 0, .int .u32 0, .int .u8 0, .int .u8 0, .int .u8 0, .int .u8 0, .int .u8 0] 58 (0, 0)) (by (with_reducible repeat (first | refine blk_drewN ?_ _ | refine blk_drew ?_ | refine blk_alloc ?_ _)); exact BK142.out)) : gb142 ≠ gb143)); have n9_ := Aside0.mk ((by rw [hg]; exact Nat.ne_of_gt (blk_lt (g := gb142) (o := .cells #[.int .u32 0, .int .i32 0, .int .u32 0, .int .u8 0, .int .u8 0, .int .u8 0, .int .u8 0, .int .u8 0] 58 (0, 0)) (by (with_reducible repeat (first | refine blk_drewN ?_ _ | refine blk_drew ?_ | refine blk_alloc ?_ _)); exact BK142.out)) : gb143 ≠ gb142)); clear BK141; clear BK142; clear HB; have BK141 := n0_; have BK142 := n1_; have HB := n2_; have BK143 := n3_; have GW143 := n4_; have GE143 := n5_; have NB141_143 := n6_; have NB143_141 := n7_; have NB142_143 := n8_; have NB143_142 := n9_; clear n0_ n1_ n2_ n3_ n4_ n5_ n6_ n7_ n8_ n9_; clear hb hbox hg; have hnb8 := NB143_141.out; have hnc8 := NB141_143.out; have hnb9 := NB143_142.out; have hnc9 := NB142_143.out; have hcz10_0 : w7.cell? ⟨gb143, 0, none⟩ = some (.int .u8 0) := (blk_cell BK143.out 0).trans rfl; have hcz10_1 : w7.cell? ⟨gb143, 1, none⟩ = some (.int .u32 0) := (blk_cell BK143.out 1).trans rfl; have hcz10_2 : w7.cell? ⟨gb143, 2, none⟩ = some (.string (⟨#[]⟩ : ByteArray)) := (blk_cell BK143.out 2).trans rfl; have hcz10_3 : w7.cell? ⟨gb143, 3, none⟩ = some (.int .u32 0) := (blk_cell BK143.out 3).trans rfl; have hfz10_0 := blk_frozen BK143.out 0; have hfz10_1 := blk_frozen BK143.out 1; have hfz10_2 := blk_frozen BK143.out 2; have hfz10_3 := blk_frozen BK143.out 3))
    go_loopg [6] k (fun kq v6 w' => ∃ (x6_1 : Int) (x143000_1 : Int) (x143001_1 : Int) (x143002_1 : Int) (x143003_1 : Int) (x143004_1 : Int) (x143005_1 : Int) (x143006_1 : Int) (x143007_1 : Int) (x144000_1 : Int), v6 = .int .u8 x6_1 ∧ Aside0 (inode_Parse.l0 kq a0 x6_1 x143000_1 x143001_1 x143002_1 x143003_1 x143004_1 x143005_1 x143006_1 x143007_1 x144000_1 0 (⟨#[]⟩ : ByteArray) 0 = some (r1, r2, r3, r4, r5)) ∧ Aside0 (kq ≤ k) ∧ Aside0 (w'.heap[gb141]? = some (.cells #[.int .u8 0, .int .u32 0, .string (⟨#[]⟩ : ByteArray), .int .u32 0] 33 (0, 0))) ∧ Aside0 (w'.heap[gb142]? = some (.cells #[.int .u32 x143000_1, .int .i32 x143001_1, .int .u32 x143002_1, .int .u8 x143003_1, .int .u8 x143004_1, .int .u8 x143005_1, .int .u8 x143006_1, .int .u8 x143007_1] 58 (0, 0))) ∧ Aside0 (w'.heap[gb143]? = some (.cells #[.int .u8 x144000_1, .int .u32 0, .string (⟨#[]⟩ : ByteArray), .int .u32 0] 33 (0, 0))) ∧ Aside0 (Below w.heap.size w w'))
    case atStart => exact ⟨(1), (0), (0), (0), (0), (0), (0), (0), (0), (0), (by first | rfl | (simp; done) | (simp [*]; done)), H', ⟨Nat.le_refl _⟩, ⟨by (with_reducible repeat (first | refine blk_drewN ?_ _ | refine blk_drew ?_ | refine blk_alloc ?_ _)); refine blk_far ?_ NB141_143.out _; (with_reducible repeat (first | refine blk_drewN ?_ _ | refine blk_drew ?_ | refine blk_alloc ?_ _)); refine blk_far ?_ NB141_143.out _; (with_reducible repeat (first | refine blk_drewN ?_ _ | refine blk_drew ?_ | refine blk_alloc ?_ _)); refine blk_far ?_ NB141_143.out _; (with_reducible repeat (first | refine blk_drewN ?_ _ | refine blk_drew ?_ | refine blk_alloc ?_ _)); refine blk_far ?_ NB141_143.out _; (with_reducible repeat (first | refine blk_drewN ?_ _ | refine blk_drew ?_ | refine blk_alloc ?_ _)); exact BK141.out⟩, ⟨by (with_reducible repeat (first | refine blk_drewN ?_ _ | refine blk_drew ?_ | refine blk_alloc ?_ _)); refine blk_far ?_ NB142_143.out _; (with_reducible repeat (first | refine blk_drewN ?_ _ | refine blk_drew ?_ | refine blk_alloc ?_ _)); refine blk_far ?_ NB142_143.out _; (with_reducible repeat (first | refine blk_drewN ?_ _ | refine blk_drew ?_ | refine blk_alloc ?_ _)); refine blk_far ?_ NB142_143.out _; (with_reducible repeat (first | refine blk_drewN ?_ _ | refine blk_drew ?_ | refine blk_alloc ?_ _)); refine blk_far ?_ NB142_143.out _; (with_reducible repeat (first | refine blk_drewN ?_ _ | refine blk_drew ?_ | refine blk_alloc ?_ _)); exact BK142.out⟩, ⟨by (with_reducible repeat (first | refine blk_drewN ?_ _ | refine blk_drew ?_ | refine blk_alloc ?_ _)); refine blk_put (cs := #[.int .u8 0, .int .u32 0, .string (⟨#[]⟩ : ByteArray), .int .u32 0]) ?_ 3 _ rfl; (with_reducible repeat (first | refine blk_drewN ?_ _ | refine blk_drew ?_ | refine blk_alloc ?_ _)); refine blk_put (cs := #[.int .u8 0, .int .u32 0, .string (⟨#[]⟩ : ByteArray), .int .u32 0]) ?_ 2 _ rfl; (with_reducible repeat (first | refine blk_drewN ?_ _ | refine blk_drew ?_ | refine blk_alloc ?_ _)); refine blk_put (cs := #[.int .u8 0, .int .u32 0, .string (⟨#[]⟩ : ByteArray), .int .u32 0]) ?_ 1 _ rfl; (with_reducible repeat (first | refine blk_drewN ?_ _ | refine blk_drew ?_ | refine blk_alloc ?_ _)); refine blk_put (cs := #[.int .u8 0, .int .u32 0, .string (⟨#[]⟩ : ByteArray), .int .u32 0]) ?_ 0 _ rfl; (with_reducible repeat (first | refine blk_drewN ?_ _ | refine blk_drew ?_ | refine blk_alloc ?_ _)); exact BK143.out⟩, ⟨by repeat (first | (with_reducible first | exact HB.out | apply below_alloc | apply pw_below_drewN | apply below_drew1 | refine below_set ?_ GE141.out | refine below_set ?_ GE142.out | refine below_set ?_ GE143.out) | exact HB.out)⟩⟩
    case round =>
      clear H'
      try clear c2
      try clear c2b0
      try clear c2b1
      try clear p2
      try clear c8
      try clear c9
      try clear hcz10_0
      try clear hcz10_1
      try clear hcz10_2
      try clear hcz10_3
      try clear hcz4_0
      try clear hcz4_1
      try clear hcz4_2
      try clear hcz4_3
      try clear hfz10_0
      try clear hfz10_1
      try clear hfz10_2
      try clear hfz10_3
      try clear hfz4_0
      try clear hfz4_1
      try clear hfz4_2
      try clear hfz4_3
      obtain ⟨x6_1, x143000_1, x143001_1, x143002_1, x143003_1, x143004_1, x143005_1, x143006_1, x143007_1, x144000_1, rfl, HA, HK1, BK141, BK142, BK143, HB⟩ := hrel
      cases gk with
      | zero => exact absurd HA.out (by simp [inode_Parse.l0])
      | succ k1 =>
        have H := HA.out
        clear HA
        simp only [inode_Parse.l0] at H
        by_cases c11 : x6_1 < 5
        · rw [if_pos c11] at H
          have c11b0 : decide (x6_1 < 5) = true := decide_eq_true c11
          clear c11
          replace H := Option.bind_eq_some_iff.mp H
          obtain ⟨⟨t144, t145, t146, t147, t148, t149, t150, t151, t152⟩, A120, H⟩ := H
          replace H : (if 0 < (a0.size : Int) then (if t144 = (bt a0 0) then (inode_Parse.l0 k1 a0 ((x6_1 + 1) % 256) t145 t146 t147 t148 t149 t150 t151 t152 x6_1 0 (⟨#[]⟩ : ByteArray) 0) else (inode_Parse.l0 k1 a0 ((x6_1 + 1) % 256) t145 t146 t147 t148 t149 t150 t151 t152 x144000_1 0 (⟨#[]⟩ : ByteArray) 0)) else (none)) = some (r1, r2, r3, r4, r5) := H
          have A12 := Aside0.mk A120
          clear A120
          by_cases c13 : 0 < (a0.size : Int)
          · rw [if_pos c13] at H
            have c13b0 : decide (0 < (a0.size : Int)) = true := decide_eq_true c13
            have c13b1 : decide (0 < a0.size) = true := decide_eq_true (by omega)
            clear c13
            by_cases c15 : t144 = (bt a0 0)
            · rw [if_pos c15] at H
              have c15b0 : (t144 == (bt a0 0)) = true := beq_iff_eq.mpr c15
              have c15b1 : (t144 != (bt a0 0)) = false := bne_eq_false_iff_eq.mpr c15
              clear c15
              have H' := Aside0.mk H
              clear H
              try go_wp2
              have n0_ := Aside0.mk (blk_drew BK141.out)
              have n1_ := Aside0.mk (blk_drew BK142.out)
              have n2_ := Aside0.mk (blk_drew BK143.out)
              have n3_ := Aside0.mk (below_drew1 HB.out)
              clear BK141
              clear BK142
              clear BK143
              clear HB
              have BK141 := n0_
              have BK142 := n1_
              have BK143 := n2_
              have HB := n3_
              clear n0_ n1_ n2_ n3_
              have p14 : 0 ≤ (0 : Int) := (by omega)
              have q14 : 0 < a0.size := (by have : (0 : Int) < (a0.size : Int) := of_decide_eq_true (by first | (with_reducible assumption) | assumption); omega)
              have hx14 : ∀ h : 0 < a0.size, ((a0[0]'h).toNat : Int) = bt a0 0 := bt_at a0 0
              clear p14
              have qi14 : (0 < (a0.size : Int)) = True := eq_true (of_decide_eq_true (by first | (with_reducible assumption) | assumption))
              replace q14 := eq_true q14
              refine start_ (n := 5) (S := fun w' => True) (ds := []) #[false, false, false, false, false] (by kernel_rfl) rfl rfl trivial (fun hHeld => ?_)
              generalize wr.drew = w16 at BK141 BK142 BK143 HB hHeld ⊢
              refine pure_ (i := 0) (N := some 19) (v := ?_) (a' := ?_) #[true, false, false, false, false] rfl rfl (by kernel_rfl) (fun _ _ _ h => h) (Or.inl ⟨by rfl, ?_⟩) ?_ ?_
              rotate_left
              · intro w'
                go_simp
                with_reducible rfl
              rotate_left
              · simp only [Act.put, List.setIfInBounds_toArray, List.set_cons_zero, List.set_cons_succ, i64_w, i32_w]
                rfl
              refine pure_ (i := 2) (N := some 21) (v := ?_) (a' := ?_) #[true, false, true, false, false] rfl rfl (by kernel_rfl) (fun _ _ _ h => h) (Or.inl ⟨by rfl, ?_⟩) ?_ ?_
              rotate_left
              · intro w'
                go_simp
                with_reducible rfl
              rotate_left
              · simp only [Act.put, List.setIfInBounds_toArray, List.set_cons_zero, List.set_cons_succ, i64_w, i32_w]
                rfl
              refine take_ (i := 3) (N := some 22) (v := ?_) (a' := ?_) #[true, false, true, true, false] rfl rfl (by kernel_rfl) (fun _ _ _ h => h) (Or.inl ⟨by rfl, ?_⟩) hHeld ?_ ?_
              rotate_left
              · intro w' _
                go_simp
                with_reducible rfl
              rotate_left
              · simp only [Act.put, List.setIfInBounds_toArray, List.set_cons_zero, List.set_cons_succ, i64_w, i32_w]
                rfl
              refine one_ (i := 1) (N := some 20) #[true, true, true, true, false] rfl rfl (by kernel_rfl) (by decide) (fun K hK => ?_)
              refine goes_ Try.func14 (by kernel_rfl) rfl #[.pointer (some ⟨gb142, 0, none⟩), .int .u8 x6_1] (by rfl) rfl rfl (by (try simp only [List.map_toArray, List.map_cons, List.map_nil]); first | done | rfl | (simp only [List.length_drop, List.length_take]; rfl)) ?_
              with_reducible refine (inode_letters_letter.calls gb142 x143000_1 x143001_1 x143002_1 x143003_1 x143004_1 x143005_1 x143006_1 x143007_1 x6_1 t144 t145 t146 t147 t148 t149 t150 t151 t152 w _ ?side1 ?side2 A12.out).mono ?_
              (case side1 => exact ⟨(by (with_reducible repeat (first | refine blk_drewN ?_ _ | refine blk_drew ?_ | refine blk_alloc ?_ _)); exact BK142.out), GE142.out⟩)
              (case side2 => repeat (first | (with_reducible first | exact HB.out | apply below_alloc | apply pw_below_drewN | apply below_drew1 | refine below_set ?_ GE141.out | refine below_set ?_ GE142.out | refine below_set ?_ GE143.out) | exact HB.out))
              rintro e w17 ⟨rfl, hi, hb, hk⟩
              refine ⟨_, rfl, ?_⟩
              have n0_ := Aside0.mk (KeepBut.blk hk (g' := gb141) (o := .cells #[.int .u8 0, .int .u32 0, .string (⟨#[]⟩ : ByteArray), .int .u32 0] 33 (0, 0)) (by (with_reducible repeat (first | refine blk_drewN ?_ _ | refine blk_drew ?_ | refine blk_alloc ?_ _)); exact BK141.out) NB141_142.out (by simp))
              have n1_ := Aside0.mk (KeepBut.blk hk (g' := gb143) (o := .cells #[.int .u8 x144000_1, .int .u32 0, .string (⟨#[]⟩ : ByteArray), .int .u32 0] 33 (0, 0)) (by (with_reducible repeat (first | refine blk_drewN ?_ _ | refine blk_drew ?_ | refine blk_alloc ?_ _)); exact BK143.out) NB143_142.out (by simp))
              have n2_ := Aside0.mk (hb)
              have n3_ := Aside0.mk (hi.1)
              clear BK141
              clear BK143
              clear HB
              clear BK142
              have BK141 := n0_
              have BK143 := n1_
              have HB := n2_
              have BK142 := n3_
              clear n0_ n1_ n2_ n3_
              (try clear hb)
              (try clear hb2)
              (try clear hk)
              (try clear hi)
              refine hK.out _ _ trivial (fun hHeld => ?_)
              clear hK K
              refine norm_ (a' := ?_) ?_ ?_
              rotate_left
              · show Act.put _ (some 20) _ = _
                simp only [Act.put, List.setIfInBounds_toArray, List.set_cons_zero, List.set_cons_succ, i64_w, i32_w]
                rfl
              refine pure_ (i := 4) (N := some 23) (v := ?_) (a' := ?_) #[true, true, true, true, true] rfl rfl (by kernel_rfl) (fun _ _ _ h => h) (Or.inl ⟨by rfl, ?_⟩) ?_ ?_
              rotate_left
              · intro w'
                go_simp
                with_reducible rfl
              rotate_left
              · simp only [Act.put, List.setIfInBounds_toArray, List.set_cons_zero, List.set_cons_succ, i64_w, i32_w]
                rfl
              refine done_ (by kernel_rfl) ?_
              have hnb18 := NB143_141.out
              have hnc18 := NB141_143.out
              have hnb19 := NB143_142.out
              have hnc19 := NB142_143.out
              have hcz20_0 : w17.cell? ⟨gb143, 0, none⟩ = some (.int .u8 x144000_1) := (blk_cell BK143.out 0).trans rfl
              have hcz20_1 : w17.cell? ⟨gb143, 1, none⟩ = some (.int .u32 0) := (blk_cell BK143.out 1).trans rfl
              have hcz20_2 : w17.cell? ⟨gb143, 2, none⟩ = some (.string (⟨#[]⟩ : ByteArray)) := (blk_cell BK143.out 2).trans rfl
              have hcz20_3 : w17.cell? ⟨gb143, 3, none⟩ = some (.int .u32 0) := (blk_cell BK143.out 3).trans rfl
              have hfz20_0 := blk_frozen BK143.out 0
              have hfz20_1 := blk_frozen BK143.out 1
              have hfz20_2 := blk_frozen BK143.out 2
              have hfz20_3 := blk_frozen BK143.out 3
              try go_wp2
              go_roundg k1
              case measure => have := HK1.out; omega
              case rel => exact ⟨((x6_1 + 1) % 256), (t145), (t146), (t147), (t148), (t149), (t150), (t151), (t152), (x6_1), (by first | rfl | (simp; done) | (simp [*]; done)), H', ⟨by have := HK1.out; omega⟩, ⟨by (with_reducible repeat (first | refine blk_drewN ?_ _ | refine blk_drew ?_ | refine blk_alloc ?_ _)); refine blk_far ?_ NB141_143.out _; (with_reducible repeat (first | refine blk_drewN ?_ _ | refine blk_drew ?_ | refine blk_alloc ?_ _)); exact BK141.out⟩, ⟨by (with_reducible repeat (first | refine blk_drewN ?_ _ | refine blk_drew ?_ | refine blk_alloc ?_ _)); refine blk_far ?_ NB142_143.out _; (with_reducible repeat (first | refine blk_drewN ?_ _ | refine blk_drew ?_ | refine blk_alloc ?_ _)); exact BK142.out⟩, ⟨by (with_reducible repeat (first | refine blk_drewN ?_ _ | refine blk_drew ?_ | refine blk_alloc ?_ _)); refine blk_put (cs := #[.int .u8 x144000_1, .int .u32 0, .string (⟨#[]⟩ : ByteArray), .int .u32 0]) ?_ 0 _ rfl; (with_reducible repeat (first | refine blk_drewN ?_ _ | refine blk_drew ?_ | refine blk_alloc ?_ _)); exact BK143.out⟩, ⟨by repeat (first | (with_reducible first | exact HB.out | apply below_alloc | apply pw_below_drewN | apply below_drew1 | refine below_set ?_ GE141.out | refine below_set ?_ GE142.out | refine below_set ?_ GE143.out) | exact HB.out)⟩⟩
            · rw [if_neg c15] at H
              have c15b0 : (t144 == (bt a0 0)) = false := beq_eq_false_iff_ne.mpr c15
              have c15b1 : (t144 != (bt a0 0)) = true := bne_iff_ne.mpr c15
              have H' := Aside0.mk H
              clear H
              try go_wp2
              have n0_ := Aside0.mk (blk_drew BK141.out)
              have n1_ := Aside0.mk (blk_drew BK142.out)
              have n2_ := Aside0.mk (blk_drew BK143.out)
              have n3_ := Aside0.mk (below_drew1 HB.out)
              clear BK141
              clear BK142
              clear BK143
              clear HB
              have BK141 := n0_
              have BK142 := n1_
              have BK143 := n2_
              have HB := n3_
              clear n0_ n1_ n2_ n3_
              have p14 : 0 ≤ (0 : Int) := (by omega)
              have q14 : 0 < a0.size := (by have : (0 : Int) < (a0.size : Int) := of_decide_eq_true (by first | (with_reducible assumption) | assumption); omega)
              have hx14 : ∀ h : 0 < a0.size, ((a0[0]'h).toNat : Int) = bt a0 0 := bt_at a0 0
              clear p14
              have qi14 : (0 < (a0.size : Int)) = True := eq_true (of_decide_eq_true (by first | (with_reducible assumption) | assumption))
              replace q14 := eq_true q14
              refine start_ (n := 5) (S := fun w' => True) (ds := []) #[false, false, false, false, false] (by kernel_rfl) rfl rfl trivial (fun hHeld => ?_)
              generalize wr.drew = w21 at BK141 BK142 BK143 HB hHeld ⊢
              refine pure_ (i := 0) (N := some 19) (v := ?_) (a' := ?_) #[true, false, false, false, false] rfl rfl (by kernel_rfl) (fun _ _ _ h => h) (Or.inl ⟨by rfl, ?_⟩) ?_ ?_
              rotate_left
              · intro w'
                go_simp
                with_reducible rfl
              rotate_left
              · simp only [Act.put, List.setIfInBounds_toArray, List.set_cons_zero, List.set_cons_succ, i64_w, i32_w]
                rfl
              refine pure_ (i := 2) (N := some 21) (v := ?_) (a' := ?_) #[true, false, true, false, false] rfl rfl (by kernel_rfl) (fun _ _ _ h => h) (Or.inl ⟨by rfl, ?_⟩) ?_ ?_
              rotate_left
              · intro w'
                go_simp
                with_reducible rfl
              rotate_left
              · simp only [Act.put, List.setIfInBounds_toArray, List.set_cons_zero, List.set_cons_succ, i64_w, i32_w]
                rfl
              refine take_ (i := 3) (N := some 22) (v := ?_) (a' := ?_) #[true, false, true, true, false] rfl rfl (by kernel_rfl) (fun _ _ _ h => h) (Or.inl ⟨by rfl, ?_⟩) hHeld ?_ ?_
              rotate_left
              · intro w' _
                go_simp
                with_reducible rfl
              rotate_left
              · simp only [Act.put, List.setIfInBounds_toArray, List.set_cons_zero, List.set_cons_succ, i64_w, i32_w]
                rfl
              refine one_ (i := 1) (N := some 20) #[true, true, true, true, false] rfl rfl (by kernel_rfl) (by decide) (fun K hK => ?_)
              refine goes_ Try.func14 (by kernel_rfl) rfl #[.pointer (some ⟨gb142, 0, none⟩), .int .u8 x6_1] (by rfl) rfl rfl (by (try simp only [List.map_toArray, List.map_cons, List.map_nil]); first | done | rfl | (simp only [List.length_drop, List.length_take]; rfl)) ?_
              with_reducible refine (inode_letters_letter.calls gb142 x143000_1 x143001_1 x143002_1 x143003_1 x143004_1 x143005_1 x143006_1 x143007_1 x6_1 t144 t145 t146 t147 t148 t149 t150 t151 t152 w _ ?side1 ?side2 A12.out).mono ?_
              (case side1 => exact ⟨(by (with_reducible repeat (first | refine blk_drewN ?_ _ | refine blk_drew ?_ | refine blk_alloc ?_ _)); exact BK142.out), GE142.out⟩)
              (case side2 => repeat (first | (with_reducible first | exact HB.out | apply below_alloc | apply pw_below_drewN | apply below_drew1 | refine below_set ?_ GE141.out | refine below_set ?_ GE142.out | refine below_set ?_ GE143.out) | exact HB.out))
              rintro e w22 ⟨rfl, hi, hb, hk⟩
              refine ⟨_, rfl, ?_⟩
              have n0_ := Aside0.mk (KeepBut.blk hk (g' := gb141) (o := .cells #[.int .u8 0, .int .u32 0, .string (⟨#[]⟩ : ByteArray), .int .u32 0] 33 (0, 0)) (by (with_reducible repeat (first | refine blk_drewN ?_ _ | refine blk_drew ?_ | refine blk_alloc ?_ _)); exact BK141.out) NB141_142.out (by simp))
              have n1_ := Aside0.mk (KeepBut.blk hk (g' := gb143) (o := .cells #[.int .u8 x144000_1, .int .u32 0, .string (⟨#[]⟩ : ByteArray), .int .u32 0] 33 (0, 0)) (by (with_reducible repeat (first | refine blk_drewN ?_ _ | refine blk_drew ?_ | refine blk_alloc ?_ _)); exact BK143.out) NB143_142.out (by simp))
              have n2_ := Aside0.mk (hb)
              have n3_ := Aside0.mk (hi.1)
              clear BK141
              clear BK143
              clear HB
              clear BK142
              have BK141 := n0_
              have BK143 := n1_
              have HB := n2_
              have BK142 := n3_
              clear n0_ n1_ n2_ n3_
              (try clear hb)
              (try clear hb2)
              (try clear hk)
              (try clear hi)
              refine hK.out _ _ trivial (fun hHeld => ?_)
              clear hK K
              refine norm_ (a' := ?_) ?_ ?_
              rotate_left
              · show Act.put _ (some 20) _ = _
                simp only [Act.put, List.setIfInBounds_toArray, List.set_cons_zero, List.set_cons_succ, i64_w, i32_w]
                rfl
              refine pure_ (i := 4) (N := some 23) (v := ?_) (a' := ?_) #[true, true, true, true, true] rfl rfl (by kernel_rfl) (fun _ _ _ h => h) (Or.inl ⟨by rfl, ?_⟩) ?_ ?_
              rotate_left
              · intro w'
                go_simp
                with_reducible rfl
              rotate_left
              · simp only [Act.put, List.setIfInBounds_toArray, List.set_cons_zero, List.set_cons_succ, i64_w, i32_w]
                rfl
              refine done_ (by kernel_rfl) ?_
              try go_wp2
              go_roundg k1
              case measure => have := HK1.out; omega
              case rel => exact ⟨((x6_1 + 1) % 256), (t145), (t146), (t147), (t148), (t149), (t150), (t151), (t152), (x144000_1), (by first | rfl | (simp; done) | (simp [*]; done)), H', ⟨by have := HK1.out; omega⟩, ⟨by (with_reducible repeat (first | refine blk_drewN ?_ _ | refine blk_drew ?_ | refine blk_alloc ?_ _)); exact BK141.out⟩, ⟨by (with_reducible repeat (first | refine blk_drewN ?_ _ | refine blk_drew ?_ | refine blk_alloc ?_ _)); exact BK142.out⟩, ⟨by (with_reducible repeat (first | refine blk_drewN ?_ _ | refine blk_drew ?_ | refine blk_alloc ?_ _)); exact BK143.out⟩, ⟨by repeat (first | (with_reducible first | exact HB.out | apply below_alloc | apply pw_below_drewN | apply below_drew1 | refine below_set ?_ GE141.out | refine below_set ?_ GE142.out | refine below_set ?_ GE143.out) | exact HB.out)⟩⟩
          · rw [if_neg c13] at H
            exact absurd H (by simp)
        · rw [if_neg c11] at H
          have c11b0 : decide (x6_1 < 5) = false := decide_eq_false c11
          clear c11
          by_cases c23 : 1 ≤ (a0.size : Int)
          · rw [if_pos c23] at H
            have c23b0 := eq_true c23
            have c23b1 : decide (1 ≤ (a0.size : Int)) = true := decide_eq_true c23
            clear c23
            replace H := Option.bind_eq_some_iff.mp H
            obtain ⟨⟨t154, t155, t156⟩, A240, H⟩ := H
            replace H : (if x144000_1 = 3 then ((inode_taker_number.f k1 t155 t156 4).bind fun bt157 => ((inode_Key.f k1 x144000_1 ((t154) % 4294967296) (⟨#[]⟩ : ByteArray) ((bt157.1) % 4294967296)).bind fun bt160 => (if bt157.2.2 = true then (some (0, 0, (⟨#[]⟩ : ByteArray), 0, 4)) else (if bt160.2 = 0 then (if bt160.1.toList = a0.toList then (some (x144000_1, (t154) % 4294967296, (⟨#[]⟩ : ByteArray), (bt157.1) % 4294967296, 0)) else (some (0, 0, (⟨#[]⟩ : ByteArray), 0, 4))) else (some (0, 0, (⟨#[]⟩ : ByteArray), 0, 4)))))) else ((inode_Key.f k1 x144000_1 ((t154) % 4294967296) t155 0).bind fun bt162 => (if t156 = true then (some (0, 0, (⟨#[]⟩ : ByteArray), 0, 4)) else (if bt162.2 = 0 then (if bt162.1.toList = a0.toList then (some (x144000_1, (t154) % 4294967296, t155, 0, 0)) else (some (0, 0, (⟨#[]⟩ : ByteArray), 0, 4))) else (some (0, 0, (⟨#[]⟩ : ByteArray), 0, 4)))))) = some (r1, r2, r3, r4, r5) := H
            have A24 := Aside0.mk A240
            clear A240
            by_cases c25 : x144000_1 = 3
            · rw [if_pos c25] at H
              have c25b0 : (x144000_1 == 3) = true := beq_iff_eq.mpr c25
              have c25b1 : (x144000_1 != 3) = false := bne_eq_false_iff_eq.mpr c25
              clear c25
              replace H := Option.bind_eq_some_iff.mp H
              obtain ⟨⟨t157, t158, t159⟩, A260, H⟩ := H
              replace H : ((inode_Key.f k1 x144000_1 ((t154) % 4294967296) (⟨#[]⟩ : ByteArray) ((t157) % 4294967296)).bind fun bt160 => (if t159 = true then (some (0, 0, (⟨#[]⟩ : ByteArray), 0, 4)) else (if bt160.2 = 0 then (if bt160.1.toList = a0.toList then (some (x144000_1, (t154) % 4294967296, (⟨#[]⟩ : ByteArray), (t157) % 4294967296, 0)) else (some (0, 0, (⟨#[]⟩ : ByteArray), 0, 4))) else (some (0, 0, (⟨#[]⟩ : ByteArray), 0, 4))))) = some (r1, r2, r3, r4, r5) := H
              have A26 := Aside0.mk A260
              clear A260
              replace H := Option.bind_eq_some_iff.mp H
              obtain ⟨⟨t160, t161⟩, A270, H⟩ := H
              replace H : (if t159 = true then (some (0, 0, (⟨#[]⟩ : ByteArray), 0, 4)) else (if t161 = 0 then (if t160.toList = a0.toList then (some (x144000_1, (t154) % 4294967296, (⟨#[]⟩ : ByteArray), (t157) % 4294967296, 0)) else (some (0, 0, (⟨#[]⟩ : ByteArray), 0, 4))) else (some (0, 0, (⟨#[]⟩ : ByteArray), 0, 4)))) = some (r1, r2, r3, r4, r5) := H
              have A27 := Aside0.mk A270
              clear A270
              by_cases c28 : t159 = true
              · subst c28
                have H1 : (some (0, 0, (⟨#[]⟩ : ByteArray), 0, 4)) = some (r1, r2, r3, r4, r5) := by rw [if_pos rfl] at H; exact H
                clear H
                have H := H1
                clear H1
                simp only [Option.some.injEq, Prod.mk.injEq] at H
                obtain ⟨rfl, rfl, rfl, rfl, rfl⟩ := H
                go_wp2_with (first | ((with_reducible refine gate_dst (N := 29) rfl ?_); refine box_event ?hg (N := 29) ?hd (cs := #[.string (a0.extract 1 a0.size), .bool false]) (t := 66) ?hr ?_; (case hd => rfl); (case hg => rfl); (case hr => first | (go_simp; done) | (go_simp; rfl)); intro gb153 hg w29 hbox hb; have n0_ := Aside0.mk (blk_below (g := gb141) (o := .cells #[.int .u8 0, .int .u32 0, .string (⟨#[]⟩ : ByteArray), .int .u32 0] 33 (0, 0)) (by (with_reducible repeat (first | refine blk_drewN ?_ _ | refine blk_drew ?_ | refine blk_alloc ?_ _)); exact BK141.out) hb); have n1_ := Aside0.mk (blk_below (g := gb142) (o := .cells #[.int .u32 x143000_1, .int .i32 x143001_1, .int .u32 x143002_1, .int .u8 x143003_1, .int .u8 x143004_1, .int .u8 x143005_1, .int .u8 x143006_1, .int .u8 x143007_1] 58 (0, 0)) (by (with_reducible repeat (first | refine blk_drewN ?_ _ | refine blk_drew ?_ | refine blk_alloc ?_ _)); exact BK142.out) hb); have n2_ := Aside0.mk (blk_below (g := gb143) (o := .cells #[.int .u8 x144000_1, .int .u32 0, .string (⟨#[]⟩ : ByteArray), .int .u32 0] 33 (0, 0)) (by (with_reducible repeat (first | refine blk_drewN ?_ _ | refine blk_drew ?_ | refine blk_alloc ?_ _)); exact BK143.out) hb); have n3_ := Aside0.mk (below_step (by repeat (first | (with_reducible first | exact HB.out | apply below_alloc | apply pw_below_drewN | apply below_drew1 | refine below_set ?_ GE141.out | refine below_set ?_ GE142.out | refine below_set ?_ GE143.out) | exact HB.out)) hb); have n4_ := Aside0.mk (hbox); have n5_ := Aside0.mk ((by rw [hg]; exact (below_size (by repeat (first | (with_reducible first | exact HB.out | apply below_alloc | apply pw_below_drewN | apply below_drew1 | refine below_set ?_ GE141.out | refine below_set ?_ GE142.out | refine below_set ?_ GE143.out) | exact HB.out))) : w.heap.size ≤ gb153)); have n6_ := Aside0.mk ((by rw [hg]; exact (below_size (by repeat (first | (with_reducible first | exact HB.out | apply below_alloc | apply pw_below_drewN | apply below_drew1 | refine below_set ?_ GE141.out | refine below_set ?_ GE142.out | refine below_set ?_ GE143.out) | exact HB.out))) : w.heap.size ≤ gb153)); have n7_ := Aside0.mk ((by rw [hg]; exact Nat.ne_of_lt (blk_lt (g := gb141) (o := .cells #[.int .u8 0, .int .u32 0, .string (⟨#[]⟩ : ByteArray), .int .u32 0] 33 (0, 0)) (by (with_reducible repeat (first | refine blk_drewN ?_ _ | refine blk_drew ?_ | refine blk_alloc ?_ _)); exact BK141.out)) : gb141 ≠ gb153)); have n8_ := Aside0.mk ((by rw [hg]; exact Nat.ne_of_gt (blk_lt (g := gb141) (o := .cells #[.int .u8 0, .int .u32 0, .string (⟨#[]⟩ : ByteArray), .int .u32 0] 33 (0, 0)) (by (with_reducible repeat (first | refine blk_drewN ?_ _ | refine blk_drew ?_ | refine blk_alloc ?_ _)); exact BK141.out)) : gb153 ≠ gb141)); have n9_ := Aside0.mk ((by rw [hg]; exact Nat.ne_of_lt (blk_lt (g := gb142) (o := .cells #[.int .u32 x143000_1, .int .i32 x143001_1, .int .u32 x143002_1, .int .u8 x143003_1, .int .u8 x143004_1, .int .u8 x143005_1, .int .u8 x143006_1, .int .u8 x143007_1] 58 (0, 0)) (by (with_reducible repeat (first | refine blk_drewN ?_ _ | refine blk_drew ?_ | refine blk_alloc ?_ _)); exact BK142.out)) : gb142 ≠ gb153)); have n10_ := Aside0.mk ((by rw [hg]; exact Nat.ne_of_gt (blk_lt (g := gb142) (o := .cells #[.int .u32 x143000_1, .int .i32 x143001_1, .int .u32 x143002_1, .int .u8 x143003_1, .int .u8 x143004_1, .int .u8 x143005_1, .int .u8 x143006_1, .int .u8 x143007_1] 58 (0, 0)) (by (with_reducible repeat (first | refine blk_drewN ?_ _ | refine blk_drew ?_ | refine blk_alloc ?_ _)); exact BK142.out)) : gb153 ≠ gb142)); have n11_ := Aside0.mk ((by rw [hg]; exact Nat.ne_of_lt (blk_lt (g := gb143) (o := .cells #[.int .u8 x144000_1, .int .u32 0, .string (⟨#[]⟩ : ByteArray), .int .u32 0] 33 (0, 0)) (by (with_reducible repeat (first | refine blk_drewN ?_ _ | refine blk_drew ?_ | refine blk_alloc ?_ _)); exact BK143.out)) : gb143 ≠ gb153)); have n12_ := Aside0.mk ((by rw [hg]; exact Nat.ne_of_gt (blk_lt (g := gb143) (o := .cells #[.int .u8 x144000_1, .int .u32 0, .string (⟨#[]⟩ : ByteArray), .int .u32 0] 33 (0, 0)) (by (with_reducible repeat (first | refine blk_drewN ?_ _ | refine blk_drew ?_ | refine blk_alloc ?_ _)); exact BK143.out)) : gb153 ≠ gb143)); clear BK141; clear BK142; clear BK143; clear HB; have BK141 := n0_; have BK142 := n1_; have BK143 := n2_; have HB := n3_; have BK153 := n4_; have GW153 := n5_; have GE153 := n6_; have NB141_153 := n7_; have NB153_141 := n8_; have NB142_153 := n9_; have NB153_142 := n10_; have NB143_153 := n11_; have NB153_143 := n12_; clear n0_ n1_ n2_ n3_ n4_ n5_ n6_ n7_ n8_ n9_ n10_ n11_ n12_; clear hb hbox hg) | ((with_reducible refine gate_callee (f := 17) rfl ?_); refine goesL_ (some 31) rfl rfl Try.func17 (by kernel_rfl) rfl #[.pointer (some ⟨gb153, 0, none⟩), .int .i64 4] rfl (by (try simp only [List.map_toArray, List.map_cons, List.map_nil]); first | done | rfl | (simp only [List.length_drop, List.length_take]; rfl)) ?_; (with_reducible refine (inode_taker_number.calls k1 gb153 (a0.extract 1 a0.size) false 4 t154 t155 t156 w _ ?side1 ?side2 A24.out).mono ?_); (case side1 => exact ⟨(by (with_reducible repeat (first | refine blk_drewN ?_ _ | refine blk_drew ?_ | refine blk_alloc ?_ _)); exact BK153.out), GE153.out⟩); (case side2 => repeat (first | (with_reducible first | exact HB.out | apply below_alloc | apply pw_below_drewN | apply below_drew1 | refine below_set ?_ GE141.out | refine below_set ?_ GE142.out | refine below_set ?_ GE143.out | refine below_set ?_ GE153.out) | exact HB.out)); rintro e w30 ⟨rfl, hi, hb, hk⟩; refine ⟨_, rfl, ?_⟩; have n0_ := Aside0.mk (KeepBut.blk hk (g' := gb141) (o := .cells #[.int .u8 0, .int .u32 0, .string (⟨#[]⟩ : ByteArray), .int .u32 0] 33 (0, 0)) (by (with_reducible repeat (first | refine blk_drewN ?_ _ | refine blk_drew ?_ | refine blk_alloc ?_ _)); exact BK141.out) NB141_153.out (by simp)); have n1_ := Aside0.mk (KeepBut.blk hk (g' := gb142) (o := .cells #[.int .u32 x143000_1, .int .i32 x143001_1, .int .u32 x143002_1, .int .u8 x143003_1, .int .u8 x143004_1, .int .u8 x143005_1, .int .u8 x143006_1, .int .u8 x143007_1] 58 (0, 0)) (by (with_reducible repeat (first | refine blk_drewN ?_ _ | refine blk_drew ?_ | refine blk_alloc ?_ _)); exact BK142.out) NB142_153.out (by simp)); have n2_ := Aside0.mk (KeepBut.blk hk (g' := gb143) (o := .cells #[.int .u8 x144000_1, .int .u32 0, .string (⟨#[]⟩ : ByteArray), .int .u32 0] 33 (0, 0)) (by (with_reducible repeat (first | refine blk_drewN ?_ _ | refine blk_drew ?_ | refine blk_alloc ?_ _)); exact BK143.out) NB143_153.out (by simp)); have n3_ := Aside0.mk (hb); have n4_ := Aside0.mk (hi.1); clear BK141; clear BK142; clear BK143; clear HB; clear BK153; have BK141 := n0_; have BK142 := n1_; have BK143 := n2_; have HB := n3_; have BK153 := n4_; clear n0_ n1_ n2_ n3_ n4_; (try clear hb); (try clear hb2); (try clear hk); (try clear hi); have hnb31 := NB143_141.out; have hnc31 := NB141_143.out; have hnb32 := NB143_142.out; have hnc32 := NB142_143.out; have hnb33 := NB143_153.out; have hnc33 := NB153_143.out; have hcz34_0 : w30.cell? ⟨gb143, 0, none⟩ = some (.int .u8 x144000_1) := (blk_cell BK143.out 0).trans rfl; have hcz34_1 : w30.cell? ⟨gb143, 1, none⟩ = some (.int .u32 0) := (blk_cell BK143.out 1).trans rfl; have hcz34_2 : w30.cell? ⟨gb143, 2, none⟩ = some (.string (⟨#[]⟩ : ByteArray)) := (blk_cell BK143.out 2).trans rfl; have hcz34_3 : w30.cell? ⟨gb143, 3, none⟩ = some (.int .u32 0) := (blk_cell BK143.out 3).trans rfl; have hfz34_0 := blk_frozen BK143.out 0; have hfz34_1 := blk_frozen BK143.out 1; have hfz34_2 := blk_frozen BK143.out 2; have hfz34_3 := blk_frozen BK143.out 3) | ((with_reducible refine gate_callee (f := 17) rfl ?_); refine goesL_ (some 38) rfl rfl Try.func17 (by kernel_rfl) rfl #[.pointer (some ⟨gb153, 0, none⟩), .int .i64 4] rfl (by (try simp only [List.map_toArray, List.map_cons, List.map_nil]); first | done | rfl | (simp only [List.length_drop, List.length_take]; rfl)) ?_; (with_reducible refine (inode_taker_number.calls k1 gb153 t155 t156 4 t157 t158 true w _ ?side1 ?side2 A26.out).mono ?_); (case side1 => exact ⟨(by (with_reducible repeat (first | refine blk_drewN ?_ _ | refine blk_drew ?_ | refine blk_alloc ?_ _)); refine blk_far ?_ NB153_143.out _; (with_reducible repeat (first | refine blk_drewN ?_ _ | refine blk_drew ?_ | refine blk_alloc ?_ _)); exact BK153.out), GE153.out⟩); (case side2 => repeat (first | (with_reducible first | exact HB.out | apply below_alloc | apply pw_below_drewN | apply below_drew1 | refine below_set ?_ GE141.out | refine below_set ?_ GE142.out | refine below_set ?_ GE143.out | refine below_set ?_ GE153.out) | exact HB.out)); rintro e w35 ⟨rfl, hi, hb, hk⟩; refine ⟨_, rfl, ?_⟩; have n0_ := Aside0.mk (KeepBut.blk hk (g' := gb141) (o := .cells #[.int .u8 0, .int .u32 0, .string (⟨#[]⟩ : ByteArray), .int .u32 0] 33 (0, 0)) (by (with_reducible repeat (first | refine blk_drewN ?_ _ | refine blk_drew ?_ | refine blk_alloc ?_ _)); refine blk_far ?_ NB141_143.out _; (with_reducible repeat (first | refine blk_drewN ?_ _ | refine blk_drew ?_ | refine blk_alloc ?_ _)); exact BK141.out) NB141_153.out (by simp)); have n1_ := Aside0.mk (KeepBut.blk hk (g' := gb142) (o := .cells #[.int .u32 x143000_1, .int .i32 x143001_1, .int .u32 x143002_1, .int .u8 x143003_1, .int .u8 x143004_1, .int .u8 x143005_1, .int .u8 x143006_1, .int .u8 x143007_1] 58 (0, 0)) (by (with_reducible repeat (first | refine blk_drewN ?_ _ | refine blk_drew ?_ | refine blk_alloc ?_ _)); refine blk_far ?_ NB142_143.out _; (with_reducible repeat (first | refine blk_drewN ?_ _ | refine blk_drew ?_ | refine blk_alloc ?_ _)); exact BK142.out) NB142_153.out (by simp)); have n2_ := Aside0.mk (KeepBut.blk hk (g' := gb143) (o := .cells #[.int .u8 x144000_1, .int .u32 ((t154) % 4294967296), .string (⟨#[]⟩ : ByteArray), .int .u32 0] 33 (0, 0)) (by (with_reducible repeat (first | refine blk_drewN ?_ _ | refine blk_drew ?_ | refine blk_alloc ?_ _)); refine blk_put (cs := #[.int .u8 x144000_1, .int .u32 0, .string (⟨#[]⟩ : ByteArray), .int .u32 0]) ?_ 1 _ rfl; (with_reducible repeat (first | refine blk_drewN ?_ _ | refine blk_drew ?_ | refine blk_alloc ?_ _)); exact BK143.out) NB143_153.out (by simp)); have n3_ := Aside0.mk (hb); have n4_ := Aside0.mk (hi.1); clear BK141; clear BK142; clear BK143; clear HB; clear BK153; have BK141 := n0_; have BK142 := n1_; have BK143 := n2_; have HB := n3_; have BK153 := n4_; clear n0_ n1_ n2_ n3_ n4_; (try clear hb); (try clear hb2); (try clear hk); (try clear hi); have hcz36_0 : w35.cell? ⟨gb143, 0, none⟩ = some (.int .u8 x144000_1) := (blk_cell BK143.out 0).trans rfl; have hcz36_1 : w35.cell? ⟨gb143, 1, none⟩ = some (.int .u32 ((t154) % 4294967296)) := (blk_cell BK143.out 1).trans rfl; have hcz36_2 : w35.cell? ⟨gb143, 2, none⟩ = some (.string (⟨#[]⟩ : ByteArray)) := (blk_cell BK143.out 2).trans rfl; have hcz36_3 : w35.cell? ⟨gb143, 3, none⟩ = some (.int .u32 0) := (blk_cell BK143.out 3).trans rfl; have hfz36_0 := blk_frozen BK143.out 0; have hfz36_1 := blk_frozen BK143.out 1; have hfz36_2 := blk_frozen BK143.out 2; have hfz36_3 := blk_frozen BK143.out 3) | ((with_reducible refine gate_callee (f := 7) rfl ?_); refine goesL_ (some 48) rfl rfl Try.func7 (by kernel_rfl) rfl #[.agg #[.int .u8 x144000_1, .int .u32 ((t154) % 4294967296), .string (⟨#[]⟩ : ByteArray), .int .u32 ((t157) % 4294967296)]] rfl (by (try simp only [List.map_toArray, List.map_cons, List.map_nil]); first | done | rfl | (simp only [List.length_drop, List.length_take]; rfl)) ?_; (with_reducible refine (inode_Key.calls k1 x144000_1 ((t154) % 4294967296) (⟨#[]⟩ : ByteArray) ((t157) % 4294967296) t160 t161 _ A27.out).mono ?_); rintro e w37 ⟨rfl, hb⟩; refine ⟨_, rfl, ?_⟩; have n0_ := Aside0.mk (blk_below (g := gb141) (o := .cells #[.int .u8 0, .int .u32 0, .string (⟨#[]⟩ : ByteArray), .int .u32 0] 33 (0, 0)) (by (with_reducible repeat (first | refine blk_drewN ?_ _ | refine blk_drew ?_ | refine blk_alloc ?_ _)); refine blk_far ?_ NB141_143.out _; (with_reducible repeat (first | refine blk_drewN ?_ _ | refine blk_drew ?_ | refine blk_alloc ?_ _)); exact BK141.out) hb); have n1_ := Aside0.mk (blk_below (g := gb142) (o := .cells #[.int .u32 x143000_1, .int .i32 x143001_1, .int .u32 x143002_1, .int .u8 x143003_1, .int .u8 x143004_1, .int .u8 x143005_1, .int .u8 x143006_1, .int .u8 x143007_1] 58 (0, 0)) (by (with_reducible repeat (first | refine blk_drewN ?_ _ | refine blk_drew ?_ | refine blk_alloc ?_ _)); refine blk_far ?_ NB142_143.out _; (with_reducible repeat (first | refine blk_drewN ?_ _ | refine blk_drew ?_ | refine blk_alloc ?_ _)); exact BK142.out) hb); have n2_ := Aside0.mk (blk_below (g := gb143) (o := .cells #[.int .u8 x144000_1, .int .u32 ((t154) % 4294967296), .string (⟨#[]⟩ : ByteArray), .int .u32 ((t157) % 4294967296)] 33 (0, 0)) (by (with_reducible repeat (first | refine blk_drewN ?_ _ | refine blk_drew ?_ | refine blk_alloc ?_ _)); refine blk_put (cs := #[.int .u8 x144000_1, .int .u32 ((t154) % 4294967296), .string (⟨#[]⟩ : ByteArray), .int .u32 0]) ?_ 3 _ rfl; (with_reducible repeat (first | refine blk_drewN ?_ _ | refine blk_drew ?_ | refine blk_alloc ?_ _)); exact BK143.out) hb); have n3_ := Aside0.mk (blk_below (g := gb153) (o := .cells #[.string t158, .bool true] 66 (0, 0)) (by (with_reducible repeat (first | refine blk_drewN ?_ _ | refine blk_drew ?_ | refine blk_alloc ?_ _)); refine blk_far ?_ NB153_143.out _; (with_reducible repeat (first | refine blk_drewN ?_ _ | refine blk_drew ?_ | refine blk_alloc ?_ _)); exact BK153.out) hb); have n4_ := Aside0.mk (below_step (by repeat (first | (with_reducible first | exact HB.out | apply below_alloc | apply pw_below_drewN | apply below_drew1 | refine below_set ?_ GE141.out | refine below_set ?_ GE142.out | refine below_set ?_ GE143.out | refine below_set ?_ GE153.out) | exact HB.out)) hb); clear BK141; clear BK142; clear BK143; clear BK153; clear HB; have BK141 := n0_; have BK142 := n1_; have BK143 := n2_; have BK153 := n3_; have HB := n4_; clear n0_ n1_ n2_ n3_ n4_; (try clear hb); (try clear hb2); (try clear hk); (try clear hi); have hnb38 := NB153_141.out; have hnc38 := NB141_153.out; have hnb39 := NB153_142.out; have hnc39 := NB142_153.out; have hcz40_0 : w37.cell? ⟨gb153, 0, none⟩ = some (.string t158) := (blk_cell BK153.out 0).trans rfl; have hcz40_1 : w37.cell? ⟨gb153, 1, none⟩ = some (.bool true) := (blk_cell BK153.out 1).trans rfl; have hfz40_0 := blk_frozen BK153.out 0; have hfz40_1 := blk_frozen BK153.out 1; have hnb41 := NB141_142.out; have hnc41 := NB142_141.out; have hcz42_0 : w37.cell? ⟨gb141, 0, none⟩ = some (.int .u8 0) := (blk_cell BK141.out 0).trans rfl; have hcz42_1 : w37.cell? ⟨gb141, 1, none⟩ = some (.int .u32 0) := (blk_cell BK141.out 1).trans rfl; have hcz42_2 : w37.cell? ⟨gb141, 2, none⟩ = some (.string (⟨#[]⟩ : ByteArray)) := (blk_cell BK141.out 2).trans rfl; have hcz42_3 : w37.cell? ⟨gb141, 3, none⟩ = some (.int .u32 0) := (blk_cell BK141.out 3).trans rfl; have hfz42_0 := blk_frozen BK141.out 0; have hfz42_1 := blk_frozen BK141.out 1; have hfz42_2 := blk_frozen BK141.out 2; have hfz42_3 := blk_frozen BK141.out 3))
                refine bodyPost_ret (results_ct rfl _ _ gb141 33 #[.int .u8 0, .int .u32 0, .string (⟨#[]⟩ : ByteArray), .int .u32 0] (0, 0) _ rfl (by (with_reducible repeat (first | refine blk_drewN ?_ _ | refine blk_drew ?_ | refine blk_alloc ?_ _)); refine blk_put (cs := #[.int .u8 0, .int .u32 0, .string (⟨#[]⟩ : ByteArray), .int .u32 0]) ?_ 3 _ rfl; (with_reducible repeat (first | refine blk_drewN ?_ _ | refine blk_drew ?_ | refine blk_alloc ?_ _)); refine blk_put (cs := #[.int .u8 0, .int .u32 0, .string (⟨#[]⟩ : ByteArray), .int .u32 0]) ?_ 2 _ rfl; (with_reducible repeat (first | refine blk_drewN ?_ _ | refine blk_drew ?_ | refine blk_alloc ?_ _)); refine blk_put (cs := #[.int .u8 0, .int .u32 0, .string (⟨#[]⟩ : ByteArray), .int .u32 0]) ?_ 1 _ rfl; (with_reducible repeat (first | refine blk_drewN ?_ _ | refine blk_drew ?_ | refine blk_alloc ?_ _)); refine blk_put (cs := #[.int .u8 0, .int .u32 0, .string (⟨#[]⟩ : ByteArray), .int .u32 0]) ?_ 0 _ rfl; (with_reducible repeat (first | refine blk_drewN ?_ _ | refine blk_drew ?_ | refine blk_alloc ?_ _)); exact BK141.out) Try.underlying33 rfl (by kernel_rfl)) rfl ?_
                exact ⟨by first | rfl | (simp [errW_none, errW_some] <;> rfl) | (simp [*, errW_none, errW_some] <;> rfl), by repeat (first | (with_reducible first | exact HB.out | apply below_alloc | apply pw_below_drewN | apply below_drew1 | refine below_set ?_ GE141.out | refine below_set ?_ GE142.out | refine below_set ?_ GE143.out | refine below_set ?_ GE153.out) | exact HB.out)⟩
              · replace c28 := Bool.eq_false_iff.mpr c28
                subst c28
                have H1 : (if t161 = 0 then (if t160.toList = a0.toList then (some (x144000_1, (t154) % 4294967296, (⟨#[]⟩ : ByteArray), (t157) % 4294967296, 0)) else (some (0, 0, (⟨#[]⟩ : ByteArray), 0, 4))) else (some (0, 0, (⟨#[]⟩ : ByteArray), 0, 4))) = some (r1, r2, r3, r4, r5) := by rw [if_neg (show ¬ (false = true) by decide)] at H; exact H
                clear H
                have H := H1
                clear H1
                by_cases c43 : t161 = 0
                · rw [if_pos c43] at H
                  have c43b0 : (t161 == 0) = true := beq_iff_eq.mpr c43
                  have c43b1 : (t161 != 0) = false := bne_eq_false_iff_eq.mpr c43
                  clear c43
                  by_cases c44 : t160.toList = a0.toList
                  · rw [if_pos c44] at H
                    have c44b0 : (t160.toList == a0.toList) = true := beq_iff_eq.mpr c44
                    have c44b1 : (t160.toList != a0.toList) = false := bne_eq_false_iff_eq.mpr c44
                    clear c44
                    simp only [Option.some.injEq, Prod.mk.injEq] at H
                    obtain ⟨rfl, rfl, rfl, rfl, rfl⟩ := H
                    go_wp2_with (first | ((with_reducible refine gate_dst (N := 29) rfl ?_); refine box_event ?hg (N := 29) ?hd (cs := #[.string (a0.extract 1 a0.size), .bool false]) (t := 66) ?hr ?_; (case hd => rfl); (case hg => rfl); (case hr => first | (go_simp; done) | (go_simp; rfl)); intro gb153 hg w45 hbox hb; have n0_ := Aside0.mk (blk_below (g := gb141) (o := .cells #[.int .u8 0, .int .u32 0, .string (⟨#[]⟩ : ByteArray), .int .u32 0] 33 (0, 0)) (by (with_reducible repeat (first | refine blk_drewN ?_ _ | refine blk_drew ?_ | refine blk_alloc ?_ _)); exact BK141.out) hb); have n1_ := Aside0.mk (blk_below (g := gb142) (o := .cells #[.int .u32 x143000_1, .int .i32 x143001_1, .int .u32 x143002_1, .int .u8 x143003_1, .int .u8 x143004_1, .int .u8 x143005_1, .int .u8 x143006_1, .int .u8 x143007_1] 58 (0, 0)) (by (with_reducible repeat (first | refine blk_drewN ?_ _ | refine blk_drew ?_ | refine blk_alloc ?_ _)); exact BK142.out) hb); have n2_ := Aside0.mk (blk_below (g := gb143) (o := .cells #[.int .u8 x144000_1, .int .u32 0, .string (⟨#[]⟩ : ByteArray), .int .u32 0] 33 (0, 0)) (by (with_reducible repeat (first | refine blk_drewN ?_ _ | refine blk_drew ?_ | refine blk_alloc ?_ _)); exact BK143.out) hb); have n3_ := Aside0.mk (below_step (by repeat (first | (with_reducible first | exact HB.out | apply below_alloc | apply pw_below_drewN | apply below_drew1 | refine below_set ?_ GE141.out | refine below_set ?_ GE142.out | refine below_set ?_ GE143.out) | exact HB.out)) hb); have n4_ := Aside0.mk (hbox); have n5_ := Aside0.mk ((by rw [hg]; exact (below_size (by repeat (first | (with_reducible first | exact HB.out | apply below_alloc | apply pw_below_drewN | apply below_drew1 | refine below_set ?_ GE141.out | refine below_set ?_ GE142.out | refine below_set ?_ GE143.out) | exact HB.out))) : w.heap.size ≤ gb153)); have n6_ := Aside0.mk ((by rw [hg]; exact (below_size (by repeat (first | (with_reducible first | exact HB.out | apply below_alloc | apply pw_below_drewN | apply below_drew1 | refine below_set ?_ GE141.out | refine below_set ?_ GE142.out | refine below_set ?_ GE143.out) | exact HB.out))) : w.heap.size ≤ gb153)); have n7_ := Aside0.mk ((by rw [hg]; exact Nat.ne_of_lt (blk_lt (g := gb141) (o := .cells #[.int .u8 0, .int .u32 0, .string (⟨#[]⟩ : ByteArray), .int .u32 0] 33 (0, 0)) (by (with_reducible repeat (first | refine blk_drewN ?_ _ | refine blk_drew ?_ | refine blk_alloc ?_ _)); exact BK141.out)) : gb141 ≠ gb153)); have n8_ := Aside0.mk ((by rw [hg]; exact Nat.ne_of_gt (blk_lt (g := gb141) (o := .cells #[.int .u8 0, .int .u32 0, .string (⟨#[]⟩ : ByteArray), .int .u32 0] 33 (0, 0)) (by (with_reducible repeat (first | refine blk_drewN ?_ _ | refine blk_drew ?_ | refine blk_alloc ?_ _)); exact BK141.out)) : gb153 ≠ gb141)); have n9_ := Aside0.mk ((by rw [hg]; exact Nat.ne_of_lt (blk_lt (g := gb142) (o := .cells #[.int .u32 x143000_1, .int .i32 x143001_1, .int .u32 x143002_1, .int .u8 x143003_1, .int .u8 x143004_1, .int .u8 x143005_1, .int .u8 x143006_1, .int .u8 x143007_1] 58 (0, 0)) (by (with_reducible repeat (first | refine blk_drewN ?_ _ | refine blk_drew ?_ | refine blk_alloc ?_ _)); exact BK142.out)) : gb142 ≠ gb153)); have n10_ := Aside0.mk ((by rw [hg]; exact Nat.ne_of_gt (blk_lt (g := gb142) (o := .cells #[.int .u32 x143000_1, .int .i32 x143001_1, .int .u32 x143002_1, .int .u8 x143003_1, .int .u8 x143004_1, .int .u8 x143005_1, .int .u8 x143006_1, .int .u8 x143007_1] 58 (0, 0)) (by (with_reducible repeat (first | refine blk_drewN ?_ _ | refine blk_drew ?_ | refine blk_alloc ?_ _)); exact BK142.out)) : gb153 ≠ gb142)); have n11_ := Aside0.mk ((by rw [hg]; exact Nat.ne_of_lt (blk_lt (g := gb143) (o := .cells #[.int .u8 x144000_1, .int .u32 0, .string (⟨#[]⟩ : ByteArray), .int .u32 0] 33 (0, 0)) (by (with_reducible repeat (first | refine blk_drewN ?_ _ | refine blk_drew ?_ | refine blk_alloc ?_ _)); exact BK143.out)) : gb143 ≠ gb153)); have n12_ := Aside0.mk ((by rw [hg]; exact Nat.ne_of_gt (blk_lt (g := gb143) (o := .cells #[.int .u8 x144000_1, .int .u32 0, .string (⟨#[]⟩ : ByteArray), .int .u32 0] 33 (0, 0)) (by (with_reducible repeat (first | refine blk_drewN ?_ _ | refine blk_drew ?_ | refine blk_alloc ?_ _)); exact BK143.out)) : gb153 ≠ gb143)); clear BK141; clear BK142; clear BK143; clear HB; have BK141 := n0_; have BK142 := n1_; have BK143 := n2_; have HB := n3_; have BK153 := n4_; have GW153 := n5_; have GE153 := n6_; have NB141_153 := n7_; have NB153_141 := n8_; have NB142_153 := n9_; have NB153_142 := n10_; have NB143_153 := n11_; have NB153_143 := n12_; clear n0_ n1_ n2_ n3_ n4_ n5_ n6_ n7_ n8_ n9_ n10_ n11_ n12_; clear hb hbox hg) | ((with_reducible refine gate_callee (f := 17) rfl ?_); refine goesL_ (some 31) rfl rfl Try.func17 (by kernel_rfl) rfl #[.pointer (some ⟨gb153, 0, none⟩), .int .i64 4] rfl (by (try simp only [List.map_toArray, List.map_cons, List.map_nil]); first | done | rfl | (simp only [List.length_drop, List.length_take]; rfl)) ?_; (with_reducible refine (inode_taker_number.calls k1 gb153 (a0.extract 1 a0.size) false 4 t154 t155 t156 w _ ?side1 ?side2 A24.out).mono ?_); (case side1 => exact ⟨(by (with_reducible repeat (first | refine blk_drewN ?_ _ | refine blk_drew ?_ | refine blk_alloc ?_ _)); exact BK153.out), GE153.out⟩); (case side2 => repeat (first | (with_reducible first | exact HB.out | apply below_alloc | apply pw_below_drewN | apply below_drew1 | refine below_set ?_ GE141.out | refine below_set ?_ GE142.out | refine below_set ?_ GE143.out | refine below_set ?_ GE153.out) | exact HB.out)); rintro e w46 ⟨rfl, hi, hb, hk⟩; refine ⟨_, rfl, ?_⟩; have n0_ := Aside0.mk (KeepBut.blk hk (g' := gb141) (o := .cells #[.int .u8 0, .int .u32 0, .string (⟨#[]⟩ : ByteArray), .int .u32 0] 33 (0, 0)) (by (with_reducible repeat (first | refine blk_drewN ?_ _ | refine blk_drew ?_ | refine blk_alloc ?_ _)); exact BK141.out) NB141_153.out (by simp)); have n1_ := Aside0.mk (KeepBut.blk hk (g' := gb142) (o := .cells #[.int .u32 x143000_1, .int .i32 x143001_1, .int .u32 x143002_1, .int .u8 x143003_1, .int .u8 x143004_1, .int .u8 x143005_1, .int .u8 x143006_1, .int .u8 x143007_1] 58 (0, 0)) (by (with_reducible repeat (first | refine blk_drewN ?_ _ | refine blk_drew ?_ | refine blk_alloc ?_ _)); exact BK142.out) NB142_153.out (by simp)); have n2_ := Aside0.mk (KeepBut.blk hk (g' := gb143) (o := .cells #[.int .u8 x144000_1, .int .u32 0, .string (⟨#[]⟩ : ByteArray), .int .u32 0] 33 (0, 0)) (by (with_reducible repeat (first | refine blk_drewN ?_ _ | refine blk_drew ?_ | refine blk_alloc ?_ _)); exact BK143.out) NB143_153.out (by simp)); have n3_ := Aside0.mk (hb); have n4_ := Aside0.mk (hi.1); clear BK141; clear BK142; clear BK143; clear HB; clear BK153; have BK141 := n0_; have BK142 := n1_; have BK143 := n2_; have HB := n3_; have BK153 := n4_; clear n0_ n1_ n2_ n3_ n4_; (try clear hb); (try clear hb2); (try clear hk); (try clear hi); have hnb47 := NB143_141.out; have hnc47 := NB141_143.out; have hnb48 := NB143_142.out; have hnc48 := NB142_143.out; have hnb49 := NB143_153.out; have hnc49 := NB153_143.out; have hcz50_0 : w46.cell? ⟨gb143, 0, none⟩ = some (.int .u8 x144000_1) := (blk_cell BK143.out 0).trans rfl; have hcz50_1 : w46.cell? ⟨gb143, 1, none⟩ = some (.int .u32 0) := (blk_cell BK143.out 1).trans rfl; have hcz50_2 : w46.cell? ⟨gb143, 2, none⟩ = some (.string (⟨#[]⟩ : ByteArray)) := (blk_cell BK143.out 2).trans rfl; have hcz50_3 : w46.cell? ⟨gb143, 3, none⟩ = some (.int .u32 0) := (blk_cell BK143.out 3).trans rfl; have hfz50_0 := blk_frozen BK143.out 0; have hfz50_1 := blk_frozen BK143.out 1; have hfz50_2 := blk_frozen BK143.out 2; have hfz50_3 := blk_frozen BK143.out 3) | ((with_reducible refine gate_callee (f := 17) rfl ?_); refine goesL_ (some 38) rfl rfl Try.func17 (by kernel_rfl) rfl #[.pointer (some ⟨gb153, 0, none⟩), .int .i64 4] rfl (by (try simp only [List.map_toArray, List.map_cons, List.map_nil]); first | done | rfl | (simp only [List.length_drop, List.length_take]; rfl)) ?_; (with_reducible refine (inode_taker_number.calls k1 gb153 t155 t156 4 t157 t158 false w _ ?side1 ?side2 A26.out).mono ?_); (case side1 => exact ⟨(by (with_reducible repeat (first | refine blk_drewN ?_ _ | refine blk_drew ?_ | refine blk_alloc ?_ _)); refine blk_far ?_ NB153_143.out _; (with_reducible repeat (first | refine blk_drewN ?_ _ | refine blk_drew ?_ | refine blk_alloc ?_ _)); exact BK153.out), GE153.out⟩); (case side2 => repeat (first | (with_reducible first | exact HB.out | apply below_alloc | apply pw_below_drewN | apply below_drew1 | refine below_set ?_ GE141.out | refine below_set ?_ GE142.out | refine below_set ?_ GE143.out | refine below_set ?_ GE153.out) | exact HB.out)); rintro e w51 ⟨rfl, hi, hb, hk⟩; refine ⟨_, rfl, ?_⟩; have n0_ := Aside0.mk (KeepBut.blk hk (g' := gb141) (o := .cells #[.int .u8 0, .int .u32 0, .string (⟨#[]⟩ : ByteArray), .int .u32 0] 33 (0, 0)) (by (with_reducible repeat (first | refine blk_drewN ?_ _ | refine blk_drew ?_ | refine blk_alloc ?_ _)); refine blk_far ?_ NB141_143.out _; (with_reducible repeat (first | refine blk_drewN ?_ _ | refine blk_drew ?_ | refine blk_alloc ?_ _)); exact BK141.out) NB141_153.out (by simp)); have n1_ := Aside0.mk (KeepBut.blk hk (g' := gb142) (o := .cells #[.int .u32 x143000_1, .int .i32 x143001_1, .int .u32 x143002_1, .int .u8 x143003_1, .int .u8 x143004_1, .int .u8 x143005_1, .int .u8 x143006_1, .int .u8 x143007_1] 58 (0, 0)) (by (with_reducible repeat (first | refine blk_drewN ?_ _ | refine blk_drew ?_ | refine blk_alloc ?_ _)); refine blk_far ?_ NB142_143.out _; (with_reducible repeat (first | refine blk_drewN ?_ _ | refine blk_drew ?_ | refine blk_alloc ?_ _)); exact BK142.out) NB142_153.out (by simp)); have n2_ := Aside0.mk (KeepBut.blk hk (g' := gb143) (o := .cells #[.int .u8 x144000_1, .int .u32 ((t154) % 4294967296), .string (⟨#[]⟩ : ByteArray), .int .u32 0] 33 (0, 0)) (by (with_reducible repeat (first | refine blk_drewN ?_ _ | refine blk_drew ?_ | refine blk_alloc ?_ _)); refine blk_put (cs := #[.int .u8 x144000_1, .int .u32 0, .string (⟨#[]⟩ : ByteArray), .int .u32 0]) ?_ 1 _ rfl; (with_reducible repeat (first | refine blk_drewN ?_ _ | refine blk_drew ?_ | refine blk_alloc ?_ _)); exact BK143.out) NB143_153.out (by simp)); have n3_ := Aside0.mk (hb); have n4_ := Aside0.mk (hi.1); clear BK141; clear BK142; clear BK143; clear HB; clear BK153; have BK141 := n0_; have BK142 := n1_; have BK143 := n2_; have HB := n3_; have BK153 := n4_; clear n0_ n1_ n2_ n3_ n4_; (try clear hb); (try clear hb2); (try clear hk); (try clear hi); have hcz52_0 : w51.cell? ⟨gb143, 0, none⟩ = some (.int .u8 x144000_1) := (blk_cell BK143.out 0).trans rfl; have hcz52_1 : w51.cell? ⟨gb143, 1, none⟩ = some (.int .u32 ((t154) % 4294967296)) := (blk_cell BK143.out 1).trans rfl; have hcz52_2 : w51.cell? ⟨gb143, 2, none⟩ = some (.string (⟨#[]⟩ : ByteArray)) := (blk_cell BK143.out 2).trans rfl; have hcz52_3 : w51.cell? ⟨gb143, 3, none⟩ = some (.int .u32 0) := (blk_cell BK143.out 3).trans rfl; have hfz52_0 := blk_frozen BK143.out 0; have hfz52_1 := blk_frozen BK143.out 1; have hfz52_2 := blk_frozen BK143.out 2; have hfz52_3 := blk_frozen BK143.out 3) | ((with_reducible refine gate_callee (f := 7) rfl ?_); refine goesL_ (some 48) rfl rfl Try.func7 (by kernel_rfl) rfl #[.agg #[.int .u8 x144000_1, .int .u32 ((t154) % 4294967296), .string (⟨#[]⟩ : ByteArray), .int .u32 ((t157) % 4294967296)]] rfl (by (try simp only [List.map_toArray, List.map_cons, List.map_nil]); first | done | rfl | (simp only [List.length_drop, List.length_take]; rfl)) ?_; (with_reducible refine (inode_Key.calls k1 x144000_1 ((t154) % 4294967296) (⟨#[]⟩ : ByteArray) ((t157) % 4294967296) t160 t161 _ A27.out).mono ?_); rintro e w53 ⟨rfl, hb⟩; refine ⟨_, rfl, ?_⟩; have n0_ := Aside0.mk (blk_below (g := gb141) (o := .cells #[.int .u8 0, .int .u32 0, .string (⟨#[]⟩ : ByteArray), .int .u32 0] 33 (0, 0)) (by (with_reducible repeat (first | refine blk_drewN ?_ _ | refine blk_drew ?_ | refine blk_alloc ?_ _)); refine blk_far ?_ NB141_143.out _; (with_reducible repeat (first | refine blk_drewN ?_ _ | refine blk_drew ?_ | refine blk_alloc ?_ _)); exact BK141.out) hb); have n1_ := Aside0.mk (blk_below (g := gb142) (o := .cells #[.int .u32 x143000_1, .int .i32 x143001_1, .int .u32 x143002_1, .int .u8 x143003_1, .int .u8 x143004_1, .int .u8 x143005_1, .int .u8 x143006_1, .int .u8 x143007_1] 58 (0, 0)) (by (with_reducible repeat (first | refine blk_drewN ?_ _ | refine blk_drew ?_ | refine blk_alloc ?_ _)); refine blk_far ?_ NB142_143.out _; (with_reducible repeat (first | refine blk_drewN ?_ _ | refine blk_drew ?_ | refine blk_alloc ?_ _)); exact BK142.out) hb); have n2_ := Aside0.mk (blk_below (g := gb143) (o := .cells #[.int .u8 x144000_1, .int .u32 ((t154) % 4294967296), .string (⟨#[]⟩ : ByteArray), .int .u32 ((t157) % 4294967296)] 33 (0, 0)) (by (with_reducible repeat (first | refine blk_drewN ?_ _ | refine blk_drew ?_ | refine blk_alloc ?_ _)); refine blk_put (cs := #[.int .u8 x144000_1, .int .u32 ((t154) % 4294967296), .string (⟨#[]⟩ : ByteArray), .int .u32 0]) ?_ 3 _ rfl; (with_reducible repeat (first | refine blk_drewN ?_ _ | refine blk_drew ?_ | refine blk_alloc ?_ _)); exact BK143.out) hb); have n3_ := Aside0.mk (blk_below (g := gb153) (o := .cells #[.string t158, .bool false] 66 (0, 0)) (by (with_reducible repeat (first | refine blk_drewN ?_ _ | refine blk_drew ?_ | refine blk_alloc ?_ _)); refine blk_far ?_ NB153_143.out _; (with_reducible repeat (first | refine blk_drewN ?_ _ | refine blk_drew ?_ | refine blk_alloc ?_ _)); exact BK153.out) hb); have n4_ := Aside0.mk (below_step (by repeat (first | (with_reducible first | exact HB.out | apply below_alloc | apply pw_below_drewN | apply below_drew1 | refine below_set ?_ GE141.out | refine below_set ?_ GE142.out | refine below_set ?_ GE143.out | refine below_set ?_ GE153.out) | exact HB.out)) hb); clear BK141; clear BK142; clear BK143; clear BK153; clear HB; have BK141 := n0_; have BK142 := n1_; have BK143 := n2_; have BK153 := n3_; have HB := n4_; clear n0_ n1_ n2_ n3_ n4_; (try clear hb); (try clear hb2); (try clear hk); (try clear hi); have hnb54 := NB153_141.out; have hnc54 := NB141_153.out; have hnb55 := NB153_142.out; have hnc55 := NB142_153.out; have hcz56_0 : w53.cell? ⟨gb153, 0, none⟩ = some (.string t158) := (blk_cell BK153.out 0).trans rfl; have hcz56_1 : w53.cell? ⟨gb153, 1, none⟩ = some (.bool false) := (blk_cell BK153.out 1).trans rfl; have hfz56_0 := blk_frozen BK153.out 0; have hfz56_1 := blk_frozen BK153.out 1; have hcz57_0 : w53.cell? ⟨gb143, 0, none⟩ = some (.int .u8 x144000_1) := (blk_cell BK143.out 0).trans rfl; have hcz57_1 : w53.cell? ⟨gb143, 1, none⟩ = some (.int .u32 ((t154) % 4294967296)) := (blk_cell BK143.out 1).trans rfl; have hcz57_2 : w53.cell? ⟨gb143, 2, none⟩ = some (.string (⟨#[]⟩ : ByteArray)) := (blk_cell BK143.out 2).trans rfl; have hcz57_3 : w53.cell? ⟨gb143, 3, none⟩ = some (.int .u32 ((t157) % 4294967296)) := (blk_cell BK143.out 3).trans rfl; have hfz57_0 := blk_frozen BK143.out 0; have hfz57_1 := blk_frozen BK143.out 1; have hfz57_2 := blk_frozen BK143.out 2; have hfz57_3 := blk_frozen BK143.out 3; have hnb58 := NB141_142.out; have hnc58 := NB142_141.out; have hcz59_0 : w53.cell? ⟨gb141, 0, none⟩ = some (.int .u8 0) := (blk_cell BK141.out 0).trans rfl; have hcz59_1 : w53.cell? ⟨gb141, 1, none⟩ = some (.int .u32 0) := (blk_cell BK141.out 1).trans rfl; have hcz59_2 : w53.cell? ⟨gb141, 2, none⟩ = some (.string (⟨#[]⟩ : ByteArray)) := (blk_cell BK141.out 2).trans rfl; have hcz59_3 : w53.cell? ⟨gb141, 3, none⟩ = some (.int .u32 0) := (blk_cell BK141.out 3).trans rfl; have hfz59_0 := blk_frozen BK141.out 0; have hfz59_1 := blk_frozen BK141.out 1; have hfz59_2 := blk_frozen BK141.out 2; have hfz59_3 := blk_frozen BK141.out 3))
                    refine bodyPost_ret (results_ct rfl _ _ gb141 33 #[.int .u8 x144000_1, .int .u32 ((t154) % 4294967296), .string (⟨#[]⟩ : ByteArray), .int .u32 ((t157) % 4294967296)] (0, 0) _ rfl (by (with_reducible repeat (first | refine blk_drewN ?_ _ | refine blk_drew ?_ | refine blk_alloc ?_ _)); refine blk_put (cs := #[.int .u8 x144000_1, .int .u32 ((t154) % 4294967296), .string (⟨#[]⟩ : ByteArray), .int .u32 0]) ?_ 3 _ rfl; (with_reducible repeat (first | refine blk_drewN ?_ _ | refine blk_drew ?_ | refine blk_alloc ?_ _)); refine blk_put (cs := #[.int .u8 x144000_1, .int .u32 ((t154) % 4294967296), .string (⟨#[]⟩ : ByteArray), .int .u32 0]) ?_ 2 _ rfl; (with_reducible repeat (first | refine blk_drewN ?_ _ | refine blk_drew ?_ | refine blk_alloc ?_ _)); refine blk_put (cs := #[.int .u8 x144000_1, .int .u32 0, .string (⟨#[]⟩ : ByteArray), .int .u32 0]) ?_ 1 _ rfl; (with_reducible repeat (first | refine blk_drewN ?_ _ | refine blk_drew ?_ | refine blk_alloc ?_ _)); refine blk_put (cs := #[.int .u8 0, .int .u32 0, .string (⟨#[]⟩ : ByteArray), .int .u32 0]) ?_ 0 _ rfl; (with_reducible repeat (first | refine blk_drewN ?_ _ | refine blk_drew ?_ | refine blk_alloc ?_ _)); exact BK141.out) Try.underlying33 rfl (by kernel_rfl)) rfl ?_
                    exact ⟨by first | rfl | (simp [errW_none, errW_some] <;> rfl) | (simp [*, errW_none, errW_some] <;> rfl), by repeat (first | (with_reducible first | exact HB.out | apply below_alloc | apply pw_below_drewN | apply below_drew1 | refine below_set ?_ GE141.out | refine below_set ?_ GE142.out | refine below_set ?_ GE143.out | refine below_set ?_ GE153.out) | exact HB.out)⟩
                  · rw [if_neg c44] at H
                    have c44b0 : (t160.toList == a0.toList) = false := beq_eq_false_iff_ne.mpr c44
                    have c44b1 : (t160.toList != a0.toList) = true := bne_iff_ne.mpr c44
                    simp only [Option.some.injEq, Prod.mk.injEq] at H
                    obtain ⟨rfl, rfl, rfl, rfl, rfl⟩ := H
                    go_wp2_with (first | ((with_reducible refine gate_dst (N := 29) rfl ?_); refine box_event ?hg (N := 29) ?hd (cs := #[.string (a0.extract 1 a0.size), .bool false]) (t := 66) ?hr ?_; (case hd => rfl); (case hg => rfl); (case hr => first | (go_simp; done) | (go_simp; rfl)); intro gb153 hg w60 hbox hb; have n0_ := Aside0.mk (blk_below (g := gb141) (o := .cells #[.int .u8 0, .int .u32 0, .string (⟨#[]⟩ : ByteArray), .int .u32 0] 33 (0, 0)) (by (with_reducible repeat (first | refine blk_drewN ?_ _ | refine blk_drew ?_ | refine blk_alloc ?_ _)); exact BK141.out) hb); have n1_ := Aside0.mk (blk_below (g := gb142) (o := .cells #[.int .u32 x143000_1, .int .i32 x143001_1, .int .u32 x143002_1, .int .u8 x143003_1, .int .u8 x143004_1, .int .u8 x143005_1, .int .u8 x143006_1, .int .u8 x143007_1] 58 (0, 0)) (by (with_reducible repeat (first | refine blk_drewN ?_ _ | refine blk_drew ?_ | refine blk_alloc ?_ _)); exact BK142.out) hb); have n2_ := Aside0.mk (blk_below (g := gb143) (o := .cells #[.int .u8 x144000_1, .int .u32 0, .string (⟨#[]⟩ : ByteArray), .int .u32 0] 33 (0, 0)) (by (with_reducible repeat (first | refine blk_drewN ?_ _ | refine blk_drew ?_ | refine blk_alloc ?_ _)); exact BK143.out) hb); have n3_ := Aside0.mk (below_step (by repeat (first | (with_reducible first | exact HB.out | apply below_alloc | apply pw_below_drewN | apply below_drew1 | refine below_set ?_ GE141.out | refine below_set ?_ GE142.out | refine below_set ?_ GE143.out) | exact HB.out)) hb); have n4_ := Aside0.mk (hbox); have n5_ := Aside0.mk ((by rw [hg]; exact (below_size (by repeat (first | (with_reducible first | exact HB.out | apply below_alloc | apply pw_below_drewN | apply below_drew1 | refine below_set ?_ GE141.out | refine below_set ?_ GE142.out | refine below_set ?_ GE143.out) | exact HB.out))) : w.heap.size ≤ gb153)); have n6_ := Aside0.mk ((by rw [hg]; exact (below_size (by repeat (first | (with_reducible first | exact HB.out | apply below_alloc | apply pw_below_drewN | apply below_drew1 | refine below_set ?_ GE141.out | refine below_set ?_ GE142.out | refine below_set ?_ GE143.out) | exact HB.out))) : w.heap.size ≤ gb153)); have n7_ := Aside0.mk ((by rw [hg]; exact Nat.ne_of_lt (blk_lt (g := gb141) (o := .cells #[.int .u8 0, .int .u32 0, .string (⟨#[]⟩ : ByteArray), .int .u32 0] 33 (0, 0)) (by (with_reducible repeat (first | refine blk_drewN ?_ _ | refine blk_drew ?_ | refine blk_alloc ?_ _)); exact BK141.out)) : gb141 ≠ gb153)); have n8_ := Aside0.mk ((by rw [hg]; exact Nat.ne_of_gt (blk_lt (g := gb141) (o := .cells #[.int .u8 0, .int .u32 0, .string (⟨#[]⟩ : ByteArray), .int .u32 0] 33 (0, 0)) (by (with_reducible repeat (first | refine blk_drewN ?_ _ | refine blk_drew ?_ | refine blk_alloc ?_ _)); exact BK141.out)) : gb153 ≠ gb141)); have n9_ := Aside0.mk ((by rw [hg]; exact Nat.ne_of_lt (blk_lt (g := gb142) (o := .cells #[.int .u32 x143000_1, .int .i32 x143001_1, .int .u32 x143002_1, .int .u8 x143003_1, .int .u8 x143004_1, .int .u8 x143005_1, .int .u8 x143006_1, .int .u8 x143007_1] 58 (0, 0)) (by (with_reducible repeat (first | refine blk_drewN ?_ _ | refine blk_drew ?_ | refine blk_alloc ?_ _)); exact BK142.out)) : gb142 ≠ gb153)); have n10_ := Aside0.mk ((by rw [hg]; exact Nat.ne_of_gt (blk_lt (g := gb142) (o := .cells #[.int .u32 x143000_1, .int .i32 x143001_1, .int .u32 x143002_1, .int .u8 x143003_1, .int .u8 x143004_1, .int .u8 x143005_1, .int .u8 x143006_1, .int .u8 x143007_1] 58 (0, 0)) (by (with_reducible repeat (first | refine blk_drewN ?_ _ | refine blk_drew ?_ | refine blk_alloc ?_ _)); exact BK142.out)) : gb153 ≠ gb142)); have n11_ := Aside0.mk ((by rw [hg]; exact Nat.ne_of_lt (blk_lt (g := gb143) (o := .cells #[.int .u8 x144000_1, .int .u32 0, .string (⟨#[]⟩ : ByteArray), .int .u32 0] 33 (0, 0)) (by (with_reducible repeat (first | refine blk_drewN ?_ _ | refine blk_drew ?_ | refine blk_alloc ?_ _)); exact BK143.out)) : gb143 ≠ gb153)); have n12_ := Aside0.mk ((by rw [hg]; exact Nat.ne_of_gt (blk_lt (g := gb143) (o := .cells #[.int .u8 x144000_1, .int .u32 0, .string (⟨#[]⟩ : ByteArray), .int .u32 0] 33 (0, 0)) (by (with_reducible repeat (first | refine blk_drewN ?_ _ | refine blk_drew ?_ | refine blk_alloc ?_ _)); exact BK143.out)) : gb153 ≠ gb143)); clear BK141; clear BK142; clear BK143; clear HB; have BK141 := n0_; have BK142 := n1_; have BK143 := n2_; have HB := n3_; have BK153 := n4_; have GW153 := n5_; have GE153 := n6_; have NB141_153 := n7_; have NB153_141 := n8_; have NB142_153 := n9_; have NB153_142 := n10_; have NB143_153 := n11_; have NB153_143 := n12_; clear n0_ n1_ n2_ n3_ n4_ n5_ n6_ n7_ n8_ n9_ n10_ n11_ n12_; clear hb hbox hg) | ((with_reducible refine gate_callee (f := 17) rfl ?_); refine goesL_ (some 31) rfl rfl Try.func17 (by kernel_rfl) rfl #[.pointer (some ⟨gb153, 0, none⟩), .int .i64 4] rfl (by (try simp only [List.map_toArray, List.map_cons, List.map_nil]); first | done | rfl | (simp only [List.length_drop, List.length_take]; rfl)) ?_; (with_reducible refine (inode_taker_number.calls k1 gb153 (a0.extract 1 a0.size) false 4 t154 t155 t156 w _ ?side1 ?side2 A24.out).mono ?_); (case side1 => exact ⟨(by (with_reducible repeat (first | refine blk_drewN ?_ _ | refine blk_drew ?_ | refine blk_alloc ?_ _)); exact BK153.out), GE153.out⟩); (case side2 => repeat (first | (with_reducible first | exact HB.out | apply below_alloc | apply pw_below_drewN | apply below_drew1 | refine below_set ?_ GE141.out | refine below_set ?_ GE142.out | refine below_set ?_ GE143.out | refine below_set ?_ GE153.out) | exact HB.out)); rintro e w61 ⟨rfl, hi, hb, hk⟩; refine ⟨_, rfl, ?_⟩; have n0_ := Aside0.mk (KeepBut.blk hk (g' := gb141) (o := .cells #[.int .u8 0, .int .u32 0, .string (⟨#[]⟩ : ByteArray), .int .u32 0] 33 (0, 0)) (by (with_reducible repeat (first | refine blk_drewN ?_ _ | refine blk_drew ?_ | refine blk_alloc ?_ _)); exact BK141.out) NB141_153.out (by simp)); have n1_ := Aside0.mk (KeepBut.blk hk (g' := gb142) (o := .cells #[.int .u32 x143000_1, .int .i32 x143001_1, .int .u32 x143002_1, .int .u8 x143003_1, .int .u8 x143004_1, .int .u8 x143005_1, .int .u8 x143006_1, .int .u8 x143007_1] 58 (0, 0)) (by (with_reducible repeat (first | refine blk_drewN ?_ _ | refine blk_drew ?_ | refine blk_alloc ?_ _)); exact BK142.out) NB142_153.out (by simp)); have n2_ := Aside0.mk (KeepBut.blk hk (g' := gb143) (o := .cells #[.int .u8 x144000_1, .int .u32 0, .string (⟨#[]⟩ : ByteArray), .int .u32 0] 33 (0, 0)) (by (with_reducible repeat (first | refine blk_drewN ?_ _ | refine blk_drew ?_ | refine blk_alloc ?_ _)); exact BK143.out) NB143_153.out (by simp)); have n3_ := Aside0.mk (hb); have n4_ := Aside0.mk (hi.1); clear BK141; clear BK142; clear BK143; clear HB; clear BK153; have BK141 := n0_; have BK142 := n1_; have BK143 := n2_; have HB := n3_; have BK153 := n4_; clear n0_ n1_ n2_ n3_ n4_; (try clear hb); (try clear hb2); (try clear hk); (try clear hi); have hnb62 := NB143_141.out; have hnc62 := NB141_143.out; have hnb63 := NB143_142.out; have hnc63 := NB142_143.out; have hnb64 := NB143_153.out; have hnc64 := NB153_143.out; have hcz65_0 : w61.cell? ⟨gb143, 0, none⟩ = some (.int .u8 x144000_1) := (blk_cell BK143.out 0).trans rfl; have hcz65_1 : w61.cell? ⟨gb143, 1, none⟩ = some (.int .u32 0) := (blk_cell BK143.out 1).trans rfl; have hcz65_2 : w61.cell? ⟨gb143, 2, none⟩ = some (.string (⟨#[]⟩ : ByteArray)) := (blk_cell BK143.out 2).trans rfl; have hcz65_3 : w61.cell? ⟨gb143, 3, none⟩ = some (.int .u32 0) := (blk_cell BK143.out 3).trans rfl; have hfz65_0 := blk_frozen BK143.out 0; have hfz65_1 := blk_frozen BK143.out 1; have hfz65_2 := blk_frozen BK143.out 2; have hfz65_3 := blk_frozen BK143.out 3) | ((with_reducible refine gate_callee (f := 17) rfl ?_); refine goesL_ (some 38) rfl rfl Try.func17 (by kernel_rfl) rfl #[.pointer (some ⟨gb153, 0, none⟩), .int .i64 4] rfl (by (try simp only [List.map_toArray, List.map_cons, List.map_nil]); first | done | rfl | (simp only [List.length_drop, List.length_take]; rfl)) ?_; (with_reducible refine (inode_taker_number.calls k1 gb153 t155 t156 4 t157 t158 false w _ ?side1 ?side2 A26.out).mono ?_); (case side1 => exact ⟨(by (with_reducible repeat (first | refine blk_drewN ?_ _ | refine blk_drew ?_ | refine blk_alloc ?_ _)); refine blk_far ?_ NB153_143.out _; (with_reducible repeat (first | refine blk_drewN ?_ _ | refine blk_drew ?_ | refine blk_alloc ?_ _)); exact BK153.out), GE153.out⟩); (case side2 => repeat (first | (with_reducible first | exact HB.out | apply below_alloc | apply pw_below_drewN | apply below_drew1 | refine below_set ?_ GE141.out | refine below_set ?_ GE142.out | refine below_set ?_ GE143.out | refine below_set ?_ GE153.out) | exact HB.out)); rintro e w66 ⟨rfl, hi, hb, hk⟩; refine ⟨_, rfl, ?_⟩; have n0_ := Aside0.mk (KeepBut.blk hk (g' := gb141) (o := .cells #[.int .u8 0, .int .u32 0, .string (⟨#[]⟩ : ByteArray), .int .u32 0] 33 (0, 0)) (by (with_reducible repeat (first | refine blk_drewN ?_ _ | refine blk_drew ?_ | refine blk_alloc ?_ _)); refine blk_far ?_ NB141_143.out _; (with_reducible repeat (first | refine blk_drewN ?_ _ | refine blk_drew ?_ | refine blk_alloc ?_ _)); exact BK141.out) NB141_153.out (by simp)); have n1_ := Aside0.mk (KeepBut.blk hk (g' := gb142) (o := .cells #[.int .u32 x143000_1, .int .i32 x143001_1, .int .u32 x143002_1, .int .u8 x143003_1, .int .u8 x143004_1, .int .u8 x143005_1, .int .u8 x143006_1, .int .u8 x143007_1] 58 (0, 0)) (by (with_reducible repeat (first | refine blk_drewN ?_ _ | refine blk_drew ?_ | refine blk_alloc ?_ _)); refine blk_far ?_ NB142_143.out _; (with_reducible repeat (first | refine blk_drewN ?_ _ | refine blk_drew ?_ | refine blk_alloc ?_ _)); exact BK142.out) NB142_153.out (by simp)); have n2_ := Aside0.mk (KeepBut.blk hk (g' := gb143) (o := .cells #[.int .u8 x144000_1, .int .u32 ((t154) % 4294967296), .string (⟨#[]⟩ : ByteArray), .int .u32 0] 33 (0, 0)) (by (with_reducible repeat (first | refine blk_drewN ?_ _ | refine blk_drew ?_ | refine blk_alloc ?_ _)); refine blk_put (cs := #[.int .u8 x144000_1, .int .u32 0, .string (⟨#[]⟩ : ByteArray), .int .u32 0]) ?_ 1 _ rfl; (with_reducible repeat (first | refine blk_drewN ?_ _ | refine blk_drew ?_ | refine blk_alloc ?_ _)); exact BK143.out) NB143_153.out (by simp)); have n3_ := Aside0.mk (hb); have n4_ := Aside0.mk (hi.1); clear BK141; clear BK142; clear BK143; clear HB; clear BK153; have BK141 := n0_; have BK142 := n1_; have BK143 := n2_; have HB := n3_; have BK153 := n4_; clear n0_ n1_ n2_ n3_ n4_; (try clear hb); (try clear hb2); (try clear hk); (try clear hi); have hcz67_0 : w66.cell? ⟨gb143, 0, none⟩ = some (.int .u8 x144000_1) := (blk_cell BK143.out 0).trans rfl; have hcz67_1 : w66.cell? ⟨gb143, 1, none⟩ = some (.int .u32 ((t154) % 4294967296)) := (blk_cell BK143.out 1).trans rfl; have hcz67_2 : w66.cell? ⟨gb143, 2, none⟩ = some (.string (⟨#[]⟩ : ByteArray)) := (blk_cell BK143.out 2).trans rfl; have hcz67_3 : w66.cell? ⟨gb143, 3, none⟩ = some (.int .u32 0) := (blk_cell BK143.out 3).trans rfl; have hfz67_0 := blk_frozen BK143.out 0; have hfz67_1 := blk_frozen BK143.out 1; have hfz67_2 := blk_frozen BK143.out 2; have hfz67_3 := blk_frozen BK143.out 3) | ((with_reducible refine gate_callee (f := 7) rfl ?_); refine goesL_ (some 48) rfl rfl Try.func7 (by kernel_rfl) rfl #[.agg #[.int .u8 x144000_1, .int .u32 ((t154) % 4294967296), .string (⟨#[]⟩ : ByteArray), .int .u32 ((t157) % 4294967296)]] rfl (by (try simp only [List.map_toArray, List.map_cons, List.map_nil]); first | done | rfl | (simp only [List.length_drop, List.length_take]; rfl)) ?_; (with_reducible refine (inode_Key.calls k1 x144000_1 ((t154) % 4294967296) (⟨#[]⟩ : ByteArray) ((t157) % 4294967296) t160 t161 _ A27.out).mono ?_); rintro e w68 ⟨rfl, hb⟩; refine ⟨_, rfl, ?_⟩; have n0_ := Aside0.mk (blk_below (g := gb141) (o := .cells #[.int .u8 0, .int .u32 0, .string (⟨#[]⟩ : ByteArray), .int .u32 0] 33 (0, 0)) (by (with_reducible repeat (first | refine blk_drewN ?_ _ | refine blk_drew ?_ | refine blk_alloc ?_ _)); refine blk_far ?_ NB141_143.out _; (with_reducible repeat (first | refine blk_drewN ?_ _ | refine blk_drew ?_ | refine blk_alloc ?_ _)); exact BK141.out) hb); have n1_ := Aside0.mk (blk_below (g := gb142) (o := .cells #[.int .u32 x143000_1, .int .i32 x143001_1, .int .u32 x143002_1, .int .u8 x143003_1, .int .u8 x143004_1, .int .u8 x143005_1, .int .u8 x143006_1, .int .u8 x143007_1] 58 (0, 0)) (by (with_reducible repeat (first | refine blk_drewN ?_ _ | refine blk_drew ?_ | refine blk_alloc ?_ _)); refine blk_far ?_ NB142_143.out _; (with_reducible repeat (first | refine blk_drewN ?_ _ | refine blk_drew ?_ | refine blk_alloc ?_ _)); exact BK142.out) hb); have n2_ := Aside0.mk (blk_below (g := gb143) (o := .cells #[.int .u8 x144000_1, .int .u32 ((t154) % 4294967296), .string (⟨#[]⟩ : ByteArray), .int .u32 ((t157) % 4294967296)] 33 (0, 0)) (by (with_reducible repeat (first | refine blk_drewN ?_ _ | refine blk_drew ?_ | refine blk_alloc ?_ _)); refine blk_put (cs := #[.int .u8 x144000_1, .int .u32 ((t154) % 4294967296), .string (⟨#[]⟩ : ByteArray), .int .u32 0]) ?_ 3 _ rfl; (with_reducible repeat (first | refine blk_drewN ?_ _ | refine blk_drew ?_ | refine blk_alloc ?_ _)); exact BK143.out) hb); have n3_ := Aside0.mk (blk_below (g := gb153) (o := .cells #[.string t158, .bool false] 66 (0, 0)) (by (with_reducible repeat (first | refine blk_drewN ?_ _ | refine blk_drew ?_ | refine blk_alloc ?_ _)); refine blk_far ?_ NB153_143.out _; (with_reducible repeat (first | refine blk_drewN ?_ _ | refine blk_drew ?_ | refine blk_alloc ?_ _)); exact BK153.out) hb); have n4_ := Aside0.mk (below_step (by repeat (first | (with_reducible first | exact HB.out | apply below_alloc | apply pw_below_drewN | apply below_drew1 | refine below_set ?_ GE141.out | refine below_set ?_ GE142.out | refine below_set ?_ GE143.out | refine below_set ?_ GE153.out) | exact HB.out)) hb); clear BK141; clear BK142; clear BK143; clear BK153; clear HB; have BK141 := n0_; have BK142 := n1_; have BK143 := n2_; have BK153 := n3_; have HB := n4_; clear n0_ n1_ n2_ n3_ n4_; (try clear hb); (try clear hb2); (try clear hk); (try clear hi); have hnb69 := NB153_141.out; have hnc69 := NB141_153.out; have hnb70 := NB153_142.out; have hnc70 := NB142_153.out; have hcz71_0 : w68.cell? ⟨gb153, 0, none⟩ = some (.string t158) := (blk_cell BK153.out 0).trans rfl; have hcz71_1 : w68.cell? ⟨gb153, 1, none⟩ = some (.bool false) := (blk_cell BK153.out 1).trans rfl; have hfz71_0 := blk_frozen BK153.out 0; have hfz71_1 := blk_frozen BK153.out 1; have hnb72 := NB141_142.out; have hnc72 := NB142_141.out; have hcz73_0 : w68.cell? ⟨gb141, 0, none⟩ = some (.int .u8 0) := (blk_cell BK141.out 0).trans rfl; have hcz73_1 : w68.cell? ⟨gb141, 1, none⟩ = some (.int .u32 0) := (blk_cell BK141.out 1).trans rfl; have hcz73_2 : w68.cell? ⟨gb141, 2, none⟩ = some (.string (⟨#[]⟩ : ByteArray)) := (blk_cell BK141.out 2).trans rfl; have hcz73_3 : w68.cell? ⟨gb141, 3, none⟩ = some (.int .u32 0) := (blk_cell BK141.out 3).trans rfl; have hfz73_0 := blk_frozen BK141.out 0; have hfz73_1 := blk_frozen BK141.out 1; have hfz73_2 := blk_frozen BK141.out 2; have hfz73_3 := blk_frozen BK141.out 3))
                    refine bodyPost_ret (results_ct rfl _ _ gb141 33 #[.int .u8 0, .int .u32 0, .string (⟨#[]⟩ : ByteArray), .int .u32 0] (0, 0) _ rfl (by (with_reducible repeat (first | refine blk_drewN ?_ _ | refine blk_drew ?_ | refine blk_alloc ?_ _)); refine blk_put (cs := #[.int .u8 0, .int .u32 0, .string (⟨#[]⟩ : ByteArray), .int .u32 0]) ?_ 3 _ rfl; (with_reducible repeat (first | refine blk_drewN ?_ _ | refine blk_drew ?_ | refine blk_alloc ?_ _)); refine blk_put (cs := #[.int .u8 0, .int .u32 0, .string (⟨#[]⟩ : ByteArray), .int .u32 0]) ?_ 2 _ rfl; (with_reducible repeat (first | refine blk_drewN ?_ _ | refine blk_drew ?_ | refine blk_alloc ?_ _)); refine blk_put (cs := #[.int .u8 0, .int .u32 0, .string (⟨#[]⟩ : ByteArray), .int .u32 0]) ?_ 1 _ rfl; (with_reducible repeat (first | refine blk_drewN ?_ _ | refine blk_drew ?_ | refine blk_alloc ?_ _)); refine blk_put (cs := #[.int .u8 0, .int .u32 0, .string (⟨#[]⟩ : ByteArray), .int .u32 0]) ?_ 0 _ rfl; (with_reducible repeat (first | refine blk_drewN ?_ _ | refine blk_drew ?_ | refine blk_alloc ?_ _)); exact BK141.out) Try.underlying33 rfl (by kernel_rfl)) rfl ?_
                    exact ⟨by first | rfl | (simp [errW_none, errW_some] <;> rfl) | (simp [*, errW_none, errW_some] <;> rfl), by repeat (first | (with_reducible first | exact HB.out | apply below_alloc | apply pw_below_drewN | apply below_drew1 | refine below_set ?_ GE141.out | refine below_set ?_ GE142.out | refine below_set ?_ GE143.out | refine below_set ?_ GE153.out) | exact HB.out)⟩
                · rw [if_neg c43] at H
                  have c43b0 : (t161 == 0) = false := beq_eq_false_iff_ne.mpr c43
                  have c43b1 : (t161 != 0) = true := bne_iff_ne.mpr c43
                  simp only [Option.some.injEq, Prod.mk.injEq] at H
                  obtain ⟨rfl, rfl, rfl, rfl, rfl⟩ := H
                  go_wp2_with (first | ((with_reducible refine gate_dst (N := 29) rfl ?_); refine box_event ?hg (N := 29) ?hd (cs := #[.string (a0.extract 1 a0.size), .bool false]) (t := 66) ?hr ?_; (case hd => rfl); (case hg => rfl); (case hr => first | (go_simp; done) | (go_simp; rfl)); intro gb153 hg w74 hbox hb; have n0_ := Aside0.mk (blk_below (g := gb141) (o := .cells #[.int .u8 0, .int .u32 0, .string (⟨#[]⟩ : ByteArray), .int .u32 0] 33 (0, 0)) (by (with_reducible repeat (first | refine blk_drewN ?_ _ | refine blk_drew ?_ | refine blk_alloc ?_ _)); exact BK141.out) hb); have n1_ := Aside0.mk (blk_below (g := gb142) (o := .cells #[.int .u32 x143000_1, .int .i32 x143001_1, .int .u32 x143002_1, .int .u8 x143003_1, .int .u8 x143004_1, .int .u8 x143005_1, .int .u8 x143006_1, .int .u8 x143007_1] 58 (0, 0)) (by (with_reducible repeat (first | refine blk_drewN ?_ _ | refine blk_drew ?_ | refine blk_alloc ?_ _)); exact BK142.out) hb); have n2_ := Aside0.mk (blk_below (g := gb143) (o := .cells #[.int .u8 x144000_1, .int .u32 0, .string (⟨#[]⟩ : ByteArray), .int .u32 0] 33 (0, 0)) (by (with_reducible repeat (first | refine blk_drewN ?_ _ | refine blk_drew ?_ | refine blk_alloc ?_ _)); exact BK143.out) hb); have n3_ := Aside0.mk (below_step (by repeat (first | (with_reducible first | exact HB.out | apply below_alloc | apply pw_below_drewN | apply below_drew1 | refine below_set ?_ GE141.out | refine below_set ?_ GE142.out | refine below_set ?_ GE143.out) | exact HB.out)) hb); have n4_ := Aside0.mk (hbox); have n5_ := Aside0.mk ((by rw [hg]; exact (below_size (by repeat (first | (with_reducible first | exact HB.out | apply below_alloc | apply pw_below_drewN | apply below_drew1 | refine below_set ?_ GE141.out | refine below_set ?_ GE142.out | refine below_set ?_ GE143.out) | exact HB.out))) : w.heap.size ≤ gb153)); have n6_ := Aside0.mk ((by rw [hg]; exact (below_size (by repeat (first | (with_reducible first | exact HB.out | apply below_alloc | apply pw_below_drewN | apply below_drew1 | refine below_set ?_ GE141.out | refine below_set ?_ GE142.out | refine below_set ?_ GE143.out) | exact HB.out))) : w.heap.size ≤ gb153)); have n7_ := Aside0.mk ((by rw [hg]; exact Nat.ne_of_lt (blk_lt (g := gb141) (o := .cells #[.int .u8 0, .int .u32 0, .string (⟨#[]⟩ : ByteArray), .int .u32 0] 33 (0, 0)) (by (with_reducible repeat (first | refine blk_drewN ?_ _ | refine blk_drew ?_ | refine blk_alloc ?_ _)); exact BK141.out)) : gb141 ≠ gb153)); have n8_ := Aside0.mk ((by rw [hg]; exact Nat.ne_of_gt (blk_lt (g := gb141) (o := .cells #[.int .u8 0, .int .u32 0, .string (⟨#[]⟩ : ByteArray), .int .u32 0] 33 (0, 0)) (by (with_reducible repeat (first | refine blk_drewN ?_ _ | refine blk_drew ?_ | refine blk_alloc ?_ _)); exact BK141.out)) : gb153 ≠ gb141)); have n9_ := Aside0.mk ((by rw [hg]; exact Nat.ne_of_lt (blk_lt (g := gb142) (o := .cells #[.int .u32 x143000_1, .int .i32 x143001_1, .int .u32 x143002_1, .int .u8 x143003_1, .int .u8 x143004_1, .int .u8 x143005_1, .int .u8 x143006_1, .int .u8 x143007_1] 58 (0, 0)) (by (with_reducible repeat (first | refine blk_drewN ?_ _ | refine blk_drew ?_ | refine blk_alloc ?_ _)); exact BK142.out)) : gb142 ≠ gb153)); have n10_ := Aside0.mk ((by rw [hg]; exact Nat.ne_of_gt (blk_lt (g := gb142) (o := .cells #[.int .u32 x143000_1, .int .i32 x143001_1, .int .u32 x143002_1, .int .u8 x143003_1, .int .u8 x143004_1, .int .u8 x143005_1, .int .u8 x143006_1, .int .u8 x143007_1] 58 (0, 0)) (by (with_reducible repeat (first | refine blk_drewN ?_ _ | refine blk_drew ?_ | refine blk_alloc ?_ _)); exact BK142.out)) : gb153 ≠ gb142)); have n11_ := Aside0.mk ((by rw [hg]; exact Nat.ne_of_lt (blk_lt (g := gb143) (o := .cells #[.int .u8 x144000_1, .int .u32 0, .string (⟨#[]⟩ : ByteArray), .int .u32 0] 33 (0, 0)) (by (with_reducible repeat (first | refine blk_drewN ?_ _ | refine blk_drew ?_ | refine blk_alloc ?_ _)); exact BK143.out)) : gb143 ≠ gb153)); have n12_ := Aside0.mk ((by rw [hg]; exact Nat.ne_of_gt (blk_lt (g := gb143) (o := .cells #[.int .u8 x144000_1, .int .u32 0, .string (⟨#[]⟩ : ByteArray), .int .u32 0] 33 (0, 0)) (by (with_reducible repeat (first | refine blk_drewN ?_ _ | refine blk_drew ?_ | refine blk_alloc ?_ _)); exact BK143.out)) : gb153 ≠ gb143)); clear BK141; clear BK142; clear BK143; clear HB; have BK141 := n0_; have BK142 := n1_; have BK143 := n2_; have HB := n3_; have BK153 := n4_; have GW153 := n5_; have GE153 := n6_; have NB141_153 := n7_; have NB153_141 := n8_; have NB142_153 := n9_; have NB153_142 := n10_; have NB143_153 := n11_; have NB153_143 := n12_; clear n0_ n1_ n2_ n3_ n4_ n5_ n6_ n7_ n8_ n9_ n10_ n11_ n12_; clear hb hbox hg) | ((with_reducible refine gate_callee (f := 17) rfl ?_); refine goesL_ (some 31) rfl rfl Try.func17 (by kernel_rfl) rfl #[.pointer (some ⟨gb153, 0, none⟩), .int .i64 4] rfl (by (try simp only [List.map_toArray, List.map_cons, List.map_nil]); first | done | rfl | (simp only [List.length_drop, List.length_take]; rfl)) ?_; (with_reducible refine (inode_taker_number.calls k1 gb153 (a0.extract 1 a0.size) false 4 t154 t155 t156 w _ ?side1 ?side2 A24.out).mono ?_); (case side1 => exact ⟨(by (with_reducible repeat (first | refine blk_drewN ?_ _ | refine blk_drew ?_ | refine blk_alloc ?_ _)); exact BK153.out), GE153.out⟩); (case side2 => repeat (first | (with_reducible first | exact HB.out | apply below_alloc | apply pw_below_drewN | apply below_drew1 | refine below_set ?_ GE141.out | refine below_set ?_ GE142.out | refine below_set ?_ GE143.out | refine below_set ?_ GE153.out) | exact HB.out)); rintro e w75 ⟨rfl, hi, hb, hk⟩; refine ⟨_, rfl, ?_⟩; have n0_ := Aside0.mk (KeepBut.blk hk (g' := gb141) (o := .cells #[.int .u8 0, .int .u32 0, .string (⟨#[]⟩ : ByteArray), .int .u32 0] 33 (0, 0)) (by (with_reducible repeat (first | refine blk_drewN ?_ _ | refine blk_drew ?_ | refine blk_alloc ?_ _)); exact BK141.out) NB141_153.out (by simp)); have n1_ := Aside0.mk (KeepBut.blk hk (g' := gb142) (o := .cells #[.int .u32 x143000_1, .int .i32 x143001_1, .int .u32 x143002_1, .int .u8 x143003_1, .int .u8 x143004_1, .int .u8 x143005_1, .int .u8 x143006_1, .int .u8 x143007_1] 58 (0, 0)) (by (with_reducible repeat (first | refine blk_drewN ?_ _ | refine blk_drew ?_ | refine blk_alloc ?_ _)); exact BK142.out) NB142_153.out (by simp)); have n2_ := Aside0.mk (KeepBut.blk hk (g' := gb143) (o := .cells #[.int .u8 x144000_1, .int .u32 0, .string (⟨#[]⟩ : ByteArray), .int .u32 0] 33 (0, 0)) (by (with_reducible repeat (first | refine blk_drewN ?_ _ | refine blk_drew ?_ | refine blk_alloc ?_ _)); exact BK143.out) NB143_153.out (by simp)); have n3_ := Aside0.mk (hb); have n4_ := Aside0.mk (hi.1); clear BK141; clear BK142; clear BK143; clear HB; clear BK153; have BK141 := n0_; have BK142 := n1_; have BK143 := n2_; have HB := n3_; have BK153 := n4_; clear n0_ n1_ n2_ n3_ n4_; (try clear hb); (try clear hb2); (try clear hk); (try clear hi); have hnb76 := NB143_141.out; have hnc76 := NB141_143.out; have hnb77 := NB143_142.out; have hnc77 := NB142_143.out; have hnb78 := NB143_153.out; have hnc78 := NB153_143.out; have hcz79_0 : w75.cell? ⟨gb143, 0, none⟩ = some (.int .u8 x144000_1) := (blk_cell BK143.out 0).trans rfl; have hcz79_1 : w75.cell? ⟨gb143, 1, none⟩ = some (.int .u32 0) := (blk_cell BK143.out 1).trans rfl; have hcz79_2 : w75.cell? ⟨gb143, 2, none⟩ = some (.string (⟨#[]⟩ : ByteArray)) := (blk_cell BK143.out 2).trans rfl; have hcz79_3 : w75.cell? ⟨gb143, 3, none⟩ = some (.int .u32 0) := (blk_cell BK143.out 3).trans rfl; have hfz79_0 := blk_frozen BK143.out 0; have hfz79_1 := blk_frozen BK143.out 1; have hfz79_2 := blk_frozen BK143.out 2; have hfz79_3 := blk_frozen BK143.out 3) | ((with_reducible refine gate_callee (f := 17) rfl ?_); refine goesL_ (some 38) rfl rfl Try.func17 (by kernel_rfl) rfl #[.pointer (some ⟨gb153, 0, none⟩), .int .i64 4] rfl (by (try simp only [List.map_toArray, List.map_cons, List.map_nil]); first | done | rfl | (simp only [List.length_drop, List.length_take]; rfl)) ?_; (with_reducible refine (inode_taker_number.calls k1 gb153 t155 t156 4 t157 t158 false w _ ?side1 ?side2 A26.out).mono ?_); (case side1 => exact ⟨(by (with_reducible repeat (first | refine blk_drewN ?_ _ | refine blk_drew ?_ | refine blk_alloc ?_ _)); refine blk_far ?_ NB153_143.out _; (with_reducible repeat (first | refine blk_drewN ?_ _ | refine blk_drew ?_ | refine blk_alloc ?_ _)); exact BK153.out), GE153.out⟩); (case side2 => repeat (first | (with_reducible first | exact HB.out | apply below_alloc | apply pw_below_drewN | apply below_drew1 | refine below_set ?_ GE141.out | refine below_set ?_ GE142.out | refine below_set ?_ GE143.out | refine below_set ?_ GE153.out) | exact HB.out)); rintro e w80 ⟨rfl, hi, hb, hk⟩; refine ⟨_, rfl, ?_⟩; have n0_ := Aside0.mk (KeepBut.blk hk (g' := gb141) (o := .cells #[.int .u8 0, .int .u32 0, .string (⟨#[]⟩ : ByteArray), .int .u32 0] 33 (0, 0)) (by (with_reducible repeat (first | refine blk_drewN ?_ _ | refine blk_drew ?_ | refine blk_alloc ?_ _)); refine blk_far ?_ NB141_143.out _; (with_reducible repeat (first | refine blk_drewN ?_ _ | refine blk_drew ?_ | refine blk_alloc ?_ _)); exact BK141.out) NB141_153.out (by simp)); have n1_ := Aside0.mk (KeepBut.blk hk (g' := gb142) (o := .cells #[.int .u32 x143000_1, .int .i32 x143001_1, .int .u32 x143002_1, .int .u8 x143003_1, .int .u8 x143004_1, .int .u8 x143005_1, .int .u8 x143006_1, .int .u8 x143007_1] 58 (0, 0)) (by (with_reducible repeat (first | refine blk_drewN ?_ _ | refine blk_drew ?_ | refine blk_alloc ?_ _)); refine blk_far ?_ NB142_143.out _; (with_reducible repeat (first | refine blk_drewN ?_ _ | refine blk_drew ?_ | refine blk_alloc ?_ _)); exact BK142.out) NB142_153.out (by simp)); have n2_ := Aside0.mk (KeepBut.blk hk (g' := gb143) (o := .cells #[.int .u8 x144000_1, .int .u32 ((t154) % 4294967296), .string (⟨#[]⟩ : ByteArray), .int .u32 0] 33 (0, 0)) (by (with_reducible repeat (first | refine blk_drewN ?_ _ | refine blk_drew ?_ | refine blk_alloc ?_ _)); refine blk_put (cs := #[.int .u8 x144000_1, .int .u32 0, .string (⟨#[]⟩ : ByteArray), .int .u32 0]) ?_ 1 _ rfl; (with_reducible repeat (first | refine blk_drewN ?_ _ | refine blk_drew ?_ | refine blk_alloc ?_ _)); exact BK143.out) NB143_153.out (by simp)); have n3_ := Aside0.mk (hb); have n4_ := Aside0.mk (hi.1); clear BK141; clear BK142; clear BK143; clear HB; clear BK153; have BK141 := n0_; have BK142 := n1_; have BK143 := n2_; have HB := n3_; have BK153 := n4_; clear n0_ n1_ n2_ n3_ n4_; (try clear hb); (try clear hb2); (try clear hk); (try clear hi); have hcz81_0 : w80.cell? ⟨gb143, 0, none⟩ = some (.int .u8 x144000_1) := (blk_cell BK143.out 0).trans rfl; have hcz81_1 : w80.cell? ⟨gb143, 1, none⟩ = some (.int .u32 ((t154) % 4294967296)) := (blk_cell BK143.out 1).trans rfl; have hcz81_2 : w80.cell? ⟨gb143, 2, none⟩ = some (.string (⟨#[]⟩ : ByteArray)) := (blk_cell BK143.out 2).trans rfl; have hcz81_3 : w80.cell? ⟨gb143, 3, none⟩ = some (.int .u32 0) := (blk_cell BK143.out 3).trans rfl; have hfz81_0 := blk_frozen BK143.out 0; have hfz81_1 := blk_frozen BK143.out 1; have hfz81_2 := blk_frozen BK143.out 2; have hfz81_3 := blk_frozen BK143.out 3) | ((with_reducible refine gate_callee (f := 7) rfl ?_); refine goesL_ (some 48) rfl rfl Try.func7 (by kernel_rfl) rfl #[.agg #[.int .u8 x144000_1, .int .u32 ((t154) % 4294967296), .string (⟨#[]⟩ : ByteArray), .int .u32 ((t157) % 4294967296)]] rfl (by (try simp only [List.map_toArray, List.map_cons, List.map_nil]); first | done | rfl | (simp only [List.length_drop, List.length_take]; rfl)) ?_; (with_reducible refine (inode_Key.calls k1 x144000_1 ((t154) % 4294967296) (⟨#[]⟩ : ByteArray) ((t157) % 4294967296) t160 t161 _ A27.out).mono ?_); rintro e w82 ⟨rfl, hb⟩; refine ⟨_, rfl, ?_⟩; have n0_ := Aside0.mk (blk_below (g := gb141) (o := .cells #[.int .u8 0, .int .u32 0, .string (⟨#[]⟩ : ByteArray), .int .u32 0] 33 (0, 0)) (by (with_reducible repeat (first | refine blk_drewN ?_ _ | refine blk_drew ?_ | refine blk_alloc ?_ _)); refine blk_far ?_ NB141_143.out _; (with_reducible repeat (first | refine blk_drewN ?_ _ | refine blk_drew ?_ | refine blk_alloc ?_ _)); exact BK141.out) hb); have n1_ := Aside0.mk (blk_below (g := gb142) (o := .cells #[.int .u32 x143000_1, .int .i32 x143001_1, .int .u32 x143002_1, .int .u8 x143003_1, .int .u8 x143004_1, .int .u8 x143005_1, .int .u8 x143006_1, .int .u8 x143007_1] 58 (0, 0)) (by (with_reducible repeat (first | refine blk_drewN ?_ _ | refine blk_drew ?_ | refine blk_alloc ?_ _)); refine blk_far ?_ NB142_143.out _; (with_reducible repeat (first | refine blk_drewN ?_ _ | refine blk_drew ?_ | refine blk_alloc ?_ _)); exact BK142.out) hb); have n2_ := Aside0.mk (blk_below (g := gb143) (o := .cells #[.int .u8 x144000_1, .int .u32 ((t154) % 4294967296), .string (⟨#[]⟩ : ByteArray), .int .u32 ((t157) % 4294967296)] 33 (0, 0)) (by (with_reducible repeat (first | refine blk_drewN ?_ _ | refine blk_drew ?_ | refine blk_alloc ?_ _)); refine blk_put (cs := #[.int .u8 x144000_1, .int .u32 ((t154) % 4294967296), .string (⟨#[]⟩ : ByteArray), .int .u32 0]) ?_ 3 _ rfl; (with_reducible repeat (first | refine blk_drewN ?_ _ | refine blk_drew ?_ | refine blk_alloc ?_ _)); exact BK143.out) hb); have n3_ := Aside0.mk (blk_below (g := gb153) (o := .cells #[.string t158, .bool false] 66 (0, 0)) (by (with_reducible repeat (first | refine blk_drewN ?_ _ | refine blk_drew ?_ | refine blk_alloc ?_ _)); refine blk_far ?_ NB153_143.out _; (with_reducible repeat (first | refine blk_drewN ?_ _ | refine blk_drew ?_ | refine blk_alloc ?_ _)); exact BK153.out) hb); have n4_ := Aside0.mk (below_step (by repeat (first | (with_reducible first | exact HB.out | apply below_alloc | apply pw_below_drewN | apply below_drew1 | refine below_set ?_ GE141.out | refine below_set ?_ GE142.out | refine below_set ?_ GE143.out | refine below_set ?_ GE153.out) | exact HB.out)) hb); clear BK141; clear BK142; clear BK143; clear BK153; clear HB; have BK141 := n0_; have BK142 := n1_; have BK143 := n2_; have BK153 := n3_; have HB := n4_; clear n0_ n1_ n2_ n3_ n4_; (try clear hb); (try clear hb2); (try clear hk); (try clear hi); have hnb83 := NB153_141.out; have hnc83 := NB141_153.out; have hnb84 := NB153_142.out; have hnc84 := NB142_153.out; have hcz85_0 : w82.cell? ⟨gb153, 0, none⟩ = some (.string t158) := (blk_cell BK153.out 0).trans rfl; have hcz85_1 : w82.cell? ⟨gb153, 1, none⟩ = some (.bool false) := (blk_cell BK153.out 1).trans rfl; have hfz85_0 := blk_frozen BK153.out 0; have hfz85_1 := blk_frozen BK153.out 1; have hnb86 := NB141_142.out; have hnc86 := NB142_141.out; have hcz87_0 : w82.cell? ⟨gb141, 0, none⟩ = some (.int .u8 0) := (blk_cell BK141.out 0).trans rfl; have hcz87_1 : w82.cell? ⟨gb141, 1, none⟩ = some (.int .u32 0) := (blk_cell BK141.out 1).trans rfl; have hcz87_2 : w82.cell? ⟨gb141, 2, none⟩ = some (.string (⟨#[]⟩ : ByteArray)) := (blk_cell BK141.out 2).trans rfl; have hcz87_3 : w82.cell? ⟨gb141, 3, none⟩ = some (.int .u32 0) := (blk_cell BK141.out 3).trans rfl; have hfz87_0 := blk_frozen BK141.out 0; have hfz87_1 := blk_frozen BK141.out 1; have hfz87_2 := blk_frozen BK141.out 2; have hfz87_3 := blk_frozen BK141.out 3))
                  refine bodyPost_ret (results_ct rfl _ _ gb141 33 #[.int .u8 0, .int .u32 0, .string (⟨#[]⟩ : ByteArray), .int .u32 0] (0, 0) _ rfl (by (with_reducible repeat (first | refine blk_drewN ?_ _ | refine blk_drew ?_ | refine blk_alloc ?_ _)); refine blk_put (cs := #[.int .u8 0, .int .u32 0, .string (⟨#[]⟩ : ByteArray), .int .u32 0]) ?_ 3 _ rfl; (with_reducible repeat (first | refine blk_drewN ?_ _ | refine blk_drew ?_ | refine blk_alloc ?_ _)); refine blk_put (cs := #[.int .u8 0, .int .u32 0, .string (⟨#[]⟩ : ByteArray), .int .u32 0]) ?_ 2 _ rfl; (with_reducible repeat (first | refine blk_drewN ?_ _ | refine blk_drew ?_ | refine blk_alloc ?_ _)); refine blk_put (cs := #[.int .u8 0, .int .u32 0, .string (⟨#[]⟩ : ByteArray), .int .u32 0]) ?_ 1 _ rfl; (with_reducible repeat (first | refine blk_drewN ?_ _ | refine blk_drew ?_ | refine blk_alloc ?_ _)); refine blk_put (cs := #[.int .u8 0, .int .u32 0, .string (⟨#[]⟩ : ByteArray), .int .u32 0]) ?_ 0 _ rfl; (with_reducible repeat (first | refine blk_drewN ?_ _ | refine blk_drew ?_ | refine blk_alloc ?_ _)); exact BK141.out) Try.underlying33 rfl (by kernel_rfl)) rfl ?_
                  exact ⟨by first | rfl | (simp [errW_none, errW_some] <;> rfl) | (simp [*, errW_none, errW_some] <;> rfl), by repeat (first | (with_reducible first | exact HB.out | apply below_alloc | apply pw_below_drewN | apply below_drew1 | refine below_set ?_ GE141.out | refine below_set ?_ GE142.out | refine below_set ?_ GE143.out | refine below_set ?_ GE153.out) | exact HB.out)⟩
            · rw [if_neg c25] at H
              have c25b0 : (x144000_1 == 3) = false := beq_eq_false_iff_ne.mpr c25
              have c25b1 : (x144000_1 != 3) = true := bne_iff_ne.mpr c25
              replace H := Option.bind_eq_some_iff.mp H
              obtain ⟨⟨t162, t163⟩, A880, H⟩ := H
              replace H : (if t156 = true then (some (0, 0, (⟨#[]⟩ : ByteArray), 0, 4)) else (if t163 = 0 then (if t162.toList = a0.toList then (some (x144000_1, (t154) % 4294967296, t155, 0, 0)) else (some (0, 0, (⟨#[]⟩ : ByteArray), 0, 4))) else (some (0, 0, (⟨#[]⟩ : ByteArray), 0, 4)))) = some (r1, r2, r3, r4, r5) := H
              have A88 := Aside0.mk A880
              clear A880
              by_cases c89 : t156 = true
              · subst c89
                have H1 : (some (0, 0, (⟨#[]⟩ : ByteArray), 0, 4)) = some (r1, r2, r3, r4, r5) := by rw [if_pos rfl] at H; exact H
                clear H
                have H := H1
                clear H1
                simp only [Option.some.injEq, Prod.mk.injEq] at H
                obtain ⟨rfl, rfl, rfl, rfl, rfl⟩ := H
                go_wp2_with (first | ((with_reducible refine gate_dst (N := 29) rfl ?_); refine box_event ?hg (N := 29) ?hd (cs := #[.string (a0.extract 1 a0.size), .bool false]) (t := 66) ?hr ?_; (case hd => rfl); (case hg => rfl); (case hr => first | (go_simp; done) | (go_simp; rfl)); intro gb153 hg w90 hbox hb; have n0_ := Aside0.mk (blk_below (g := gb141) (o := .cells #[.int .u8 0, .int .u32 0, .string (⟨#[]⟩ : ByteArray), .int .u32 0] 33 (0, 0)) (by (with_reducible repeat (first | refine blk_drewN ?_ _ | refine blk_drew ?_ | refine blk_alloc ?_ _)); exact BK141.out) hb); have n1_ := Aside0.mk (blk_below (g := gb142) (o := .cells #[.int .u32 x143000_1, .int .i32 x143001_1, .int .u32 x143002_1, .int .u8 x143003_1, .int .u8 x143004_1, .int .u8 x143005_1, .int .u8 x143006_1, .int .u8 x143007_1] 58 (0, 0)) (by (with_reducible repeat (first | refine blk_drewN ?_ _ | refine blk_drew ?_ | refine blk_alloc ?_ _)); exact BK142.out) hb); have n2_ := Aside0.mk (blk_below (g := gb143) (o := .cells #[.int .u8 x144000_1, .int .u32 0, .string (⟨#[]⟩ : ByteArray), .int .u32 0] 33 (0, 0)) (by (with_reducible repeat (first | refine blk_drewN ?_ _ | refine blk_drew ?_ | refine blk_alloc ?_ _)); exact BK143.out) hb); have n3_ := Aside0.mk (below_step (by repeat (first | (with_reducible first | exact HB.out | apply below_alloc | apply pw_below_drewN | apply below_drew1 | refine below_set ?_ GE141.out | refine below_set ?_ GE142.out | refine below_set ?_ GE143.out) | exact HB.out)) hb); have n4_ := Aside0.mk (hbox); have n5_ := Aside0.mk ((by rw [hg]; exact (below_size (by repeat (first | (with_reducible first | exact HB.out | apply below_alloc | apply pw_below_drewN | apply below_drew1 | refine below_set ?_ GE141.out | refine below_set ?_ GE142.out | refine below_set ?_ GE143.out) | exact HB.out))) : w.heap.size ≤ gb153)); have n6_ := Aside0.mk ((by rw [hg]; exact (below_size (by repeat (first | (with_reducible first | exact HB.out | apply below_alloc | apply pw_below_drewN | apply below_drew1 | refine below_set ?_ GE141.out | refine below_set ?_ GE142.out | refine below_set ?_ GE143.out) | exact HB.out))) : w.heap.size ≤ gb153)); have n7_ := Aside0.mk ((by rw [hg]; exact Nat.ne_of_lt (blk_lt (g := gb141) (o := .cells #[.int .u8 0, .int .u32 0, .string (⟨#[]⟩ : ByteArray), .int .u32 0] 33 (0, 0)) (by (with_reducible repeat (first | refine blk_drewN ?_ _ | refine blk_drew ?_ | refine blk_alloc ?_ _)); exact BK141.out)) : gb141 ≠ gb153)); have n8_ := Aside0.mk ((by rw [hg]; exact Nat.ne_of_gt (blk_lt (g := gb141) (o := .cells #[.int .u8 0, .int .u32 0, .string (⟨#[]⟩ : ByteArray), .int .u32 0] 33 (0, 0)) (by (with_reducible repeat (first | refine blk_drewN ?_ _ | refine blk_drew ?_ | refine blk_alloc ?_ _)); exact BK141.out)) : gb153 ≠ gb141)); have n9_ := Aside0.mk ((by rw [hg]; exact Nat.ne_of_lt (blk_lt (g := gb142) (o := .cells #[.int .u32 x143000_1, .int .i32 x143001_1, .int .u32 x143002_1, .int .u8 x143003_1, .int .u8 x143004_1, .int .u8 x143005_1, .int .u8 x143006_1, .int .u8 x143007_1] 58 (0, 0)) (by (with_reducible repeat (first | refine blk_drewN ?_ _ | refine blk_drew ?_ | refine blk_alloc ?_ _)); exact BK142.out)) : gb142 ≠ gb153)); have n10_ := Aside0.mk ((by rw [hg]; exact Nat.ne_of_gt (blk_lt (g := gb142) (o := .cells #[.int .u32 x143000_1, .int .i32 x143001_1, .int .u32 x143002_1, .int .u8 x143003_1, .int .u8 x143004_1, .int .u8 x143005_1, .int .u8 x143006_1, .int .u8 x143007_1] 58 (0, 0)) (by (with_reducible repeat (first | refine blk_drewN ?_ _ | refine blk_drew ?_ | refine blk_alloc ?_ _)); exact BK142.out)) : gb153 ≠ gb142)); have n11_ := Aside0.mk ((by rw [hg]; exact Nat.ne_of_lt (blk_lt (g := gb143) (o := .cells #[.int .u8 x144000_1, .int .u32 0, .string (⟨#[]⟩ : ByteArray), .int .u32 0] 33 (0, 0)) (by (with_reducible repeat (first | refine blk_drewN ?_ _ | refine blk_drew ?_ | refine blk_alloc ?_ _)); exact BK143.out)) : gb143 ≠ gb153)); have n12_ := Aside0.mk ((by rw [hg]; exact Nat.ne_of_gt (blk_lt (g := gb143) (o := .cells #[.int .u8 x144000_1, .int .u32 0, .string (⟨#[]⟩ : ByteArray), .int .u32 0] 33 (0, 0)) (by (with_reducible repeat (first | refine blk_drewN ?_ _ | refine blk_drew ?_ | refine blk_alloc ?_ _)); exact BK143.out)) : gb153 ≠ gb143)); clear BK141; clear BK142; clear BK143; clear HB; have BK141 := n0_; have BK142 := n1_; have BK143 := n2_; have HB := n3_; have BK153 := n4_; have GW153 := n5_; have GE153 := n6_; have NB141_153 := n7_; have NB153_141 := n8_; have NB142_153 := n9_; have NB153_142 := n10_; have NB143_153 := n11_; have NB153_143 := n12_; clear n0_ n1_ n2_ n3_ n4_ n5_ n6_ n7_ n8_ n9_ n10_ n11_ n12_; clear hb hbox hg) | ((with_reducible refine gate_callee (f := 17) rfl ?_); refine goesL_ (some 31) rfl rfl Try.func17 (by kernel_rfl) rfl #[.pointer (some ⟨gb153, 0, none⟩), .int .i64 4] rfl (by (try simp only [List.map_toArray, List.map_cons, List.map_nil]); first | done | rfl | (simp only [List.length_drop, List.length_take]; rfl)) ?_; (with_reducible refine (inode_taker_number.calls k1 gb153 (a0.extract 1 a0.size) false 4 t154 t155 true w _ ?side1 ?side2 A24.out).mono ?_); (case side1 => exact ⟨(by (with_reducible repeat (first | refine blk_drewN ?_ _ | refine blk_drew ?_ | refine blk_alloc ?_ _)); exact BK153.out), GE153.out⟩); (case side2 => repeat (first | (with_reducible first | exact HB.out | apply below_alloc | apply pw_below_drewN | apply below_drew1 | refine below_set ?_ GE141.out | refine below_set ?_ GE142.out | refine below_set ?_ GE143.out | refine below_set ?_ GE153.out) | exact HB.out)); rintro e w91 ⟨rfl, hi, hb, hk⟩; refine ⟨_, rfl, ?_⟩; have n0_ := Aside0.mk (KeepBut.blk hk (g' := gb141) (o := .cells #[.int .u8 0, .int .u32 0, .string (⟨#[]⟩ : ByteArray), .int .u32 0] 33 (0, 0)) (by (with_reducible repeat (first | refine blk_drewN ?_ _ | refine blk_drew ?_ | refine blk_alloc ?_ _)); exact BK141.out) NB141_153.out (by simp)); have n1_ := Aside0.mk (KeepBut.blk hk (g' := gb142) (o := .cells #[.int .u32 x143000_1, .int .i32 x143001_1, .int .u32 x143002_1, .int .u8 x143003_1, .int .u8 x143004_1, .int .u8 x143005_1, .int .u8 x143006_1, .int .u8 x143007_1] 58 (0, 0)) (by (with_reducible repeat (first | refine blk_drewN ?_ _ | refine blk_drew ?_ | refine blk_alloc ?_ _)); exact BK142.out) NB142_153.out (by simp)); have n2_ := Aside0.mk (KeepBut.blk hk (g' := gb143) (o := .cells #[.int .u8 x144000_1, .int .u32 0, .string (⟨#[]⟩ : ByteArray), .int .u32 0] 33 (0, 0)) (by (with_reducible repeat (first | refine blk_drewN ?_ _ | refine blk_drew ?_ | refine blk_alloc ?_ _)); exact BK143.out) NB143_153.out (by simp)); have n3_ := Aside0.mk (hb); have n4_ := Aside0.mk (hi.1); clear BK141; clear BK142; clear BK143; clear HB; clear BK153; have BK141 := n0_; have BK142 := n1_; have BK143 := n2_; have HB := n3_; have BK153 := n4_; clear n0_ n1_ n2_ n3_ n4_; (try clear hb); (try clear hb2); (try clear hk); (try clear hi); have hnb92 := NB143_141.out; have hnc92 := NB141_143.out; have hnb93 := NB143_142.out; have hnc93 := NB142_143.out; have hnb94 := NB143_153.out; have hnc94 := NB153_143.out; have hcz95_0 : w91.cell? ⟨gb143, 0, none⟩ = some (.int .u8 x144000_1) := (blk_cell BK143.out 0).trans rfl; have hcz95_1 : w91.cell? ⟨gb143, 1, none⟩ = some (.int .u32 0) := (blk_cell BK143.out 1).trans rfl; have hcz95_2 : w91.cell? ⟨gb143, 2, none⟩ = some (.string (⟨#[]⟩ : ByteArray)) := (blk_cell BK143.out 2).trans rfl; have hcz95_3 : w91.cell? ⟨gb143, 3, none⟩ = some (.int .u32 0) := (blk_cell BK143.out 3).trans rfl; have hfz95_0 := blk_frozen BK143.out 0; have hfz95_1 := blk_frozen BK143.out 1; have hfz95_2 := blk_frozen BK143.out 2; have hfz95_3 := blk_frozen BK143.out 3; have hnb96 := NB153_141.out; have hnc96 := NB141_153.out; have hnb97 := NB153_142.out; have hnc97 := NB142_153.out; have hcz98_0 : w91.cell? ⟨gb153, 0, none⟩ = some (.string t155) := (blk_cell BK153.out 0).trans rfl; have hcz98_1 : w91.cell? ⟨gb153, 1, none⟩ = some (.bool true) := (blk_cell BK153.out 1).trans rfl; have hfz98_0 := blk_frozen BK153.out 0; have hfz98_1 := blk_frozen BK153.out 1) | ((with_reducible refine gate_callee (f := 7) rfl ?_); refine goesL_ (some 48) rfl rfl Try.func7 (by kernel_rfl) rfl #[.agg #[.int .u8 x144000_1, .int .u32 ((t154) % 4294967296), .string t155, .int .u32 0]] rfl (by (try simp only [List.map_toArray, List.map_cons, List.map_nil]); first | done | rfl | (simp only [List.length_drop, List.length_take]; rfl)) ?_; (with_reducible refine (inode_Key.calls k1 x144000_1 ((t154) % 4294967296) t155 0 t162 t163 _ A88.out).mono ?_); rintro e w99 ⟨rfl, hb⟩; refine ⟨_, rfl, ?_⟩; have n0_ := Aside0.mk (blk_below (g := gb141) (o := .cells #[.int .u8 0, .int .u32 0, .string (⟨#[]⟩ : ByteArray), .int .u32 0] 33 (0, 0)) (by (with_reducible repeat (first | refine blk_drewN ?_ _ | refine blk_drew ?_ | refine blk_alloc ?_ _)); refine blk_far ?_ NB141_143.out _; (with_reducible repeat (first | refine blk_drewN ?_ _ | refine blk_drew ?_ | refine blk_alloc ?_ _)); refine blk_far ?_ NB141_143.out _; (with_reducible repeat (first | refine blk_drewN ?_ _ | refine blk_drew ?_ | refine blk_alloc ?_ _)); exact BK141.out) hb); have n1_ := Aside0.mk (blk_below (g := gb142) (o := .cells #[.int .u32 x143000_1, .int .i32 x143001_1, .int .u32 x143002_1, .int .u8 x143003_1, .int .u8 x143004_1, .int .u8 x143005_1, .int .u8 x143006_1, .int .u8 x143007_1] 58 (0, 0)) (by (with_reducible repeat (first | refine blk_drewN ?_ _ | refine blk_drew ?_ | refine blk_alloc ?_ _)); refine blk_far ?_ NB142_143.out _; (with_reducible repeat (first | refine blk_drewN ?_ _ | refine blk_drew ?_ | refine blk_alloc ?_ _)); refine blk_far ?_ NB142_143.out _; (with_reducible repeat (first | refine blk_drewN ?_ _ | refine blk_drew ?_ | refine blk_alloc ?_ _)); exact BK142.out) hb); have n2_ := Aside0.mk (blk_below (g := gb143) (o := .cells #[.int .u8 x144000_1, .int .u32 ((t154) % 4294967296), .string t155, .int .u32 0] 33 (0, 0)) (by (with_reducible repeat (first | refine blk_drewN ?_ _ | refine blk_drew ?_ | refine blk_alloc ?_ _)); refine blk_put (cs := #[.int .u8 x144000_1, .int .u32 ((t154) % 4294967296), .string (⟨#[]⟩ : ByteArray), .int .u32 0]) ?_ 2 _ rfl; (with_reducible repeat (first | refine blk_drewN ?_ _ | refine blk_drew ?_ | refine blk_alloc ?_ _)); refine blk_put (cs := #[.int .u8 x144000_1, .int .u32 0, .string (⟨#[]⟩ : ByteArray), .int .u32 0]) ?_ 1 _ rfl; (with_reducible repeat (first | refine blk_drewN ?_ _ | refine blk_drew ?_ | refine blk_alloc ?_ _)); exact BK143.out) hb); have n3_ := Aside0.mk (blk_below (g := gb153) (o := .cells #[.string t155, .bool true] 66 (0, 0)) (by (with_reducible repeat (first | refine blk_drewN ?_ _ | refine blk_drew ?_ | refine blk_alloc ?_ _)); refine blk_far ?_ NB153_143.out _; (with_reducible repeat (first | refine blk_drewN ?_ _ | refine blk_drew ?_ | refine blk_alloc ?_ _)); refine blk_far ?_ NB153_143.out _; (with_reducible repeat (first | refine blk_drewN ?_ _ | refine blk_drew ?_ | refine blk_alloc ?_ _)); exact BK153.out) hb); have n4_ := Aside0.mk (below_step (by repeat (first | (with_reducible first | exact HB.out | apply below_alloc | apply pw_below_drewN | apply below_drew1 | refine below_set ?_ GE141.out | refine below_set ?_ GE142.out | refine below_set ?_ GE143.out | refine below_set ?_ GE153.out) | exact HB.out)) hb); clear BK141; clear BK142; clear BK143; clear BK153; clear HB; have BK141 := n0_; have BK142 := n1_; have BK143 := n2_; have BK153 := n3_; have HB := n4_; clear n0_ n1_ n2_ n3_ n4_; (try clear hb); (try clear hb2); (try clear hk); (try clear hi); have hcz100_0 : w99.cell? ⟨gb153, 0, none⟩ = some (.string t155) := (blk_cell BK153.out 0).trans rfl; have hcz100_1 : w99.cell? ⟨gb153, 1, none⟩ = some (.bool true) := (blk_cell BK153.out 1).trans rfl; have hfz100_0 := blk_frozen BK153.out 0; have hfz100_1 := blk_frozen BK153.out 1; have hnb101 := NB141_142.out; have hnc101 := NB142_141.out; have hcz102_0 : w99.cell? ⟨gb141, 0, none⟩ = some (.int .u8 0) := (blk_cell BK141.out 0).trans rfl; have hcz102_1 : w99.cell? ⟨gb141, 1, none⟩ = some (.int .u32 0) := (blk_cell BK141.out 1).trans rfl; have hcz102_2 : w99.cell? ⟨gb141, 2, none⟩ = some (.string (⟨#[]⟩ : ByteArray)) := (blk_cell BK141.out 2).trans rfl; have hcz102_3 : w99.cell? ⟨gb141, 3, none⟩ = some (.int .u32 0) := (blk_cell BK141.out 3).trans rfl; have hfz102_0 := blk_frozen BK141.out 0; have hfz102_1 := blk_frozen BK141.out 1; have hfz102_2 := blk_frozen BK141.out 2; have hfz102_3 := blk_frozen BK141.out 3))
                refine bodyPost_ret (results_ct rfl _ _ gb141 33 #[.int .u8 0, .int .u32 0, .string (⟨#[]⟩ : ByteArray), .int .u32 0] (0, 0) _ rfl (by (with_reducible repeat (first | refine blk_drewN ?_ _ | refine blk_drew ?_ | refine blk_alloc ?_ _)); refine blk_put (cs := #[.int .u8 0, .int .u32 0, .string (⟨#[]⟩ : ByteArray), .int .u32 0]) ?_ 3 _ rfl; (with_reducible repeat (first | refine blk_drewN ?_ _ | refine blk_drew ?_ | refine blk_alloc ?_ _)); refine blk_put (cs := #[.int .u8 0, .int .u32 0, .string (⟨#[]⟩ : ByteArray), .int .u32 0]) ?_ 2 _ rfl; (with_reducible repeat (first | refine blk_drewN ?_ _ | refine blk_drew ?_ | refine blk_alloc ?_ _)); refine blk_put (cs := #[.int .u8 0, .int .u32 0, .string (⟨#[]⟩ : ByteArray), .int .u32 0]) ?_ 1 _ rfl; (with_reducible repeat (first | refine blk_drewN ?_ _ | refine blk_drew ?_ | refine blk_alloc ?_ _)); refine blk_put (cs := #[.int .u8 0, .int .u32 0, .string (⟨#[]⟩ : ByteArray), .int .u32 0]) ?_ 0 _ rfl; (with_reducible repeat (first | refine blk_drewN ?_ _ | refine blk_drew ?_ | refine blk_alloc ?_ _)); exact BK141.out) Try.underlying33 rfl (by kernel_rfl)) rfl ?_
                exact ⟨by first | rfl | (simp [errW_none, errW_some] <;> rfl) | (simp [*, errW_none, errW_some] <;> rfl), by repeat (first | (with_reducible first | exact HB.out | apply below_alloc | apply pw_below_drewN | apply below_drew1 | refine below_set ?_ GE141.out | refine below_set ?_ GE142.out | refine below_set ?_ GE143.out | refine below_set ?_ GE153.out) | exact HB.out)⟩
              · replace c89 := Bool.eq_false_iff.mpr c89
                subst c89
                have H1 : (if t163 = 0 then (if t162.toList = a0.toList then (some (x144000_1, (t154) % 4294967296, t155, 0, 0)) else (some (0, 0, (⟨#[]⟩ : ByteArray), 0, 4))) else (some (0, 0, (⟨#[]⟩ : ByteArray), 0, 4))) = some (r1, r2, r3, r4, r5) := by rw [if_neg (show ¬ (false = true) by decide)] at H; exact H
                clear H
                have H := H1
                clear H1
                by_cases c103 : t163 = 0
                · rw [if_pos c103] at H
                  have c103b0 : (t163 == 0) = true := beq_iff_eq.mpr c103
                  have c103b1 : (t163 != 0) = false := bne_eq_false_iff_eq.mpr c103
                  clear c103
                  by_cases c104 : t162.toList = a0.toList
                  · rw [if_pos c104] at H
                    have c104b0 : (t162.toList == a0.toList) = true := beq_iff_eq.mpr c104
                    have c104b1 : (t162.toList != a0.toList) = false := bne_eq_false_iff_eq.mpr c104
                    clear c104
                    simp only [Option.some.injEq, Prod.mk.injEq] at H
                    obtain ⟨rfl, rfl, rfl, rfl, rfl⟩ := H
                    go_wp2_with (first | ((with_reducible refine gate_dst (N := 29) rfl ?_); refine box_event ?hg (N := 29) ?hd (cs := #[.string (a0.extract 1 a0.size), .bool false]) (t := 66) ?hr ?_; (case hd => rfl); (case hg => rfl); (case hr => first | (go_simp; done) | (go_simp; rfl)); intro gb153 hg w105 hbox hb; have n0_ := Aside0.mk (blk_below (g := gb141) (o := .cells #[.int .u8 0, .int .u32 0, .string (⟨#[]⟩ : ByteArray), .int .u32 0] 33 (0, 0)) (by (with_reducible repeat (first | refine blk_drewN ?_ _ | refine blk_drew ?_ | refine blk_alloc ?_ _)); exact BK141.out) hb); have n1_ := Aside0.mk (blk_below (g := gb142) (o := .cells #[.int .u32 x143000_1, .int .i32 x143001_1, .int .u32 x143002_1, .int .u8 x143003_1, .int .u8 x143004_1, .int .u8 x143005_1, .int .u8 x143006_1, .int .u8 x143007_1] 58 (0, 0)) (by (with_reducible repeat (first | refine blk_drewN ?_ _ | refine blk_drew ?_ | refine blk_alloc ?_ _)); exact BK142.out) hb); have n2_ := Aside0.mk (blk_below (g := gb143) (o := .cells #[.int .u8 x144000_1, .int .u32 0, .string (⟨#[]⟩ : ByteArray), .int .u32 0] 33 (0, 0)) (by (with_reducible repeat (first | refine blk_drewN ?_ _ | refine blk_drew ?_ | refine blk_alloc ?_ _)); exact BK143.out) hb); have n3_ := Aside0.mk (below_step (by repeat (first | (with_reducible first | exact HB.out | apply below_alloc | apply pw_below_drewN | apply below_drew1 | refine below_set ?_ GE141.out | refine below_set ?_ GE142.out | refine below_set ?_ GE143.out) | exact HB.out)) hb); have n4_ := Aside0.mk (hbox); have n5_ := Aside0.mk ((by rw [hg]; exact (below_size (by repeat (first | (with_reducible first | exact HB.out | apply below_alloc | apply pw_below_drewN | apply below_drew1 | refine below_set ?_ GE141.out | refine below_set ?_ GE142.out | refine below_set ?_ GE143.out) | exact HB.out))) : w.heap.size ≤ gb153)); have n6_ := Aside0.mk ((by rw [hg]; exact (below_size (by repeat (first | (with_reducible first | exact HB.out | apply below_alloc | apply pw_below_drewN | apply below_drew1 | refine below_set ?_ GE141.out | refine below_set ?_ GE142.out | refine below_set ?_ GE143.out) | exact HB.out))) : w.heap.size ≤ gb153)); have n7_ := Aside0.mk ((by rw [hg]; exact Nat.ne_of_lt (blk_lt (g := gb141) (o := .cells #[.int .u8 0, .int .u32 0, .string (⟨#[]⟩ : ByteArray), .int .u32 0] 33 (0, 0)) (by (with_reducible repeat (first | refine blk_drewN ?_ _ | refine blk_drew ?_ | refine blk_alloc ?_ _)); exact BK141.out)) : gb141 ≠ gb153)); have n8_ := Aside0.mk ((by rw [hg]; exact Nat.ne_of_gt (blk_lt (g := gb141) (o := .cells #[.int .u8 0, .int .u32 0, .string (⟨#[]⟩ : ByteArray), .int .u32 0] 33 (0, 0)) (by (with_reducible repeat (first | refine blk_drewN ?_ _ | refine blk_drew ?_ | refine blk_alloc ?_ _)); exact BK141.out)) : gb153 ≠ gb141)); have n9_ := Aside0.mk ((by rw [hg]; exact Nat.ne_of_lt (blk_lt (g := gb142) (o := .cells #[.int .u32 x143000_1, .int .i32 x143001_1, .int .u32 x143002_1, .int .u8 x143003_1, .int .u8 x143004_1, .int .u8 x143005_1, .int .u8 x143006_1, .int .u8 x143007_1] 58 (0, 0)) (by (with_reducible repeat (first | refine blk_drewN ?_ _ | refine blk_drew ?_ | refine blk_alloc ?_ _)); exact BK142.out)) : gb142 ≠ gb153)); have n10_ := Aside0.mk ((by rw [hg]; exact Nat.ne_of_gt (blk_lt (g := gb142) (o := .cells #[.int .u32 x143000_1, .int .i32 x143001_1, .int .u32 x143002_1, .int .u8 x143003_1, .int .u8 x143004_1, .int .u8 x143005_1, .int .u8 x143006_1, .int .u8 x143007_1] 58 (0, 0)) (by (with_reducible repeat (first | refine blk_drewN ?_ _ | refine blk_drew ?_ | refine blk_alloc ?_ _)); exact BK142.out)) : gb153 ≠ gb142)); have n11_ := Aside0.mk ((by rw [hg]; exact Nat.ne_of_lt (blk_lt (g := gb143) (o := .cells #[.int .u8 x144000_1, .int .u32 0, .string (⟨#[]⟩ : ByteArray), .int .u32 0] 33 (0, 0)) (by (with_reducible repeat (first | refine blk_drewN ?_ _ | refine blk_drew ?_ | refine blk_alloc ?_ _)); exact BK143.out)) : gb143 ≠ gb153)); have n12_ := Aside0.mk ((by rw [hg]; exact Nat.ne_of_gt (blk_lt (g := gb143) (o := .cells #[.int .u8 x144000_1, .int .u32 0, .string (⟨#[]⟩ : ByteArray), .int .u32 0] 33 (0, 0)) (by (with_reducible repeat (first | refine blk_drewN ?_ _ | refine blk_drew ?_ | refine blk_alloc ?_ _)); exact BK143.out)) : gb153 ≠ gb143)); clear BK141; clear BK142; clear BK143; clear HB; have BK141 := n0_; have BK142 := n1_; have BK143 := n2_; have HB := n3_; have BK153 := n4_; have GW153 := n5_; have GE153 := n6_; have NB141_153 := n7_; have NB153_141 := n8_; have NB142_153 := n9_; have NB153_142 := n10_; have NB143_153 := n11_; have NB153_143 := n12_; clear n0_ n1_ n2_ n3_ n4_ n5_ n6_ n7_ n8_ n9_ n10_ n11_ n12_; clear hb hbox hg) | ((with_reducible refine gate_callee (f := 17) rfl ?_); refine goesL_ (some 31) rfl rfl Try.func17 (by kernel_rfl) rfl #[.pointer (some ⟨gb153, 0, none⟩), .int .i64 4] rfl (by (try simp only [List.map_toArray, List.map_cons, List.map_nil]); first | done | rfl | (simp only [List.length_drop, List.length_take]; rfl)) ?_; (with_reducible refine (inode_taker_number.calls k1 gb153 (a0.extract 1 a0.size) false 4 t154 t155 false w _ ?side1 ?side2 A24.out).mono ?_); (case side1 => exact ⟨(by (with_reducible repeat (first | refine blk_drewN ?_ _ | refine blk_drew ?_ | refine blk_alloc ?_ _)); exact BK153.out), GE153.out⟩); (case side2 => repeat (first | (with_reducible first | exact HB.out | apply below_alloc | apply pw_below_drewN | apply below_drew1 | refine below_set ?_ GE141.out | refine below_set ?_ GE142.out | refine below_set ?_ GE143.out | refine below_set ?_ GE153.out) | exact HB.out)); rintro e w106 ⟨rfl, hi, hb, hk⟩; refine ⟨_, rfl, ?_⟩; have n0_ := Aside0.mk (KeepBut.blk hk (g' := gb141) (o := .cells #[.int .u8 0, .int .u32 0, .string (⟨#[]⟩ : ByteArray), .int .u32 0] 33 (0, 0)) (by (with_reducible repeat (first | refine blk_drewN ?_ _ | refine blk_drew ?_ | refine blk_alloc ?_ _)); exact BK141.out) NB141_153.out (by simp)); have n1_ := Aside0.mk (KeepBut.blk hk (g' := gb142) (o := .cells #[.int .u32 x143000_1, .int .i32 x143001_1, .int .u32 x143002_1, .int .u8 x143003_1, .int .u8 x143004_1, .int .u8 x143005_1, .int .u8 x143006_1, .int .u8 x143007_1] 58 (0, 0)) (by (with_reducible repeat (first | refine blk_drewN ?_ _ | refine blk_drew ?_ | refine blk_alloc ?_ _)); exact BK142.out) NB142_153.out (by simp)); have n2_ := Aside0.mk (KeepBut.blk hk (g' := gb143) (o := .cells #[.int .u8 x144000_1, .int .u32 0, .string (⟨#[]⟩ : ByteArray), .int .u32 0] 33 (0, 0)) (by (with_reducible repeat (first | refine blk_drewN ?_ _ | refine blk_drew ?_ | refine blk_alloc ?_ _)); exact BK143.out) NB143_153.out (by simp)); have n3_ := Aside0.mk (hb); have n4_ := Aside0.mk (hi.1); clear BK141; clear BK142; clear BK143; clear HB; clear BK153; have BK141 := n0_; have BK142 := n1_; have BK143 := n2_; have HB := n3_; have BK153 := n4_; clear n0_ n1_ n2_ n3_ n4_; (try clear hb); (try clear hb2); (try clear hk); (try clear hi); have hnb107 := NB143_141.out; have hnc107 := NB141_143.out; have hnb108 := NB143_142.out; have hnc108 := NB142_143.out; have hnb109 := NB143_153.out; have hnc109 := NB153_143.out; have hcz110_0 : w106.cell? ⟨gb143, 0, none⟩ = some (.int .u8 x144000_1) := (blk_cell BK143.out 0).trans rfl; have hcz110_1 : w106.cell? ⟨gb143, 1, none⟩ = some (.int .u32 0) := (blk_cell BK143.out 1).trans rfl; have hcz110_2 : w106.cell? ⟨gb143, 2, none⟩ = some (.string (⟨#[]⟩ : ByteArray)) := (blk_cell BK143.out 2).trans rfl; have hcz110_3 : w106.cell? ⟨gb143, 3, none⟩ = some (.int .u32 0) := (blk_cell BK143.out 3).trans rfl; have hfz110_0 := blk_frozen BK143.out 0; have hfz110_1 := blk_frozen BK143.out 1; have hfz110_2 := blk_frozen BK143.out 2; have hfz110_3 := blk_frozen BK143.out 3; have hnb111 := NB153_141.out; have hnc111 := NB141_153.out; have hnb112 := NB153_142.out; have hnc112 := NB142_153.out; have hcz113_0 : w106.cell? ⟨gb153, 0, none⟩ = some (.string t155) := (blk_cell BK153.out 0).trans rfl; have hcz113_1 : w106.cell? ⟨gb153, 1, none⟩ = some (.bool false) := (blk_cell BK153.out 1).trans rfl; have hfz113_0 := blk_frozen BK153.out 0; have hfz113_1 := blk_frozen BK153.out 1) | ((with_reducible refine gate_callee (f := 7) rfl ?_); refine goesL_ (some 48) rfl rfl Try.func7 (by kernel_rfl) rfl #[.agg #[.int .u8 x144000_1, .int .u32 ((t154) % 4294967296), .string t155, .int .u32 0]] rfl (by (try simp only [List.map_toArray, List.map_cons, List.map_nil]); first | done | rfl | (simp only [List.length_drop, List.length_take]; rfl)) ?_; (with_reducible refine (inode_Key.calls k1 x144000_1 ((t154) % 4294967296) t155 0 t162 t163 _ A88.out).mono ?_); rintro e w114 ⟨rfl, hb⟩; refine ⟨_, rfl, ?_⟩; have n0_ := Aside0.mk (blk_below (g := gb141) (o := .cells #[.int .u8 0, .int .u32 0, .string (⟨#[]⟩ : ByteArray), .int .u32 0] 33 (0, 0)) (by (with_reducible repeat (first | refine blk_drewN ?_ _ | refine blk_drew ?_ | refine blk_alloc ?_ _)); refine blk_far ?_ NB141_143.out _; (with_reducible repeat (first | refine blk_drewN ?_ _ | refine blk_drew ?_ | refine blk_alloc ?_ _)); refine blk_far ?_ NB141_143.out _; (with_reducible repeat (first | refine blk_drewN ?_ _ | refine blk_drew ?_ | refine blk_alloc ?_ _)); exact BK141.out) hb); have n1_ := Aside0.mk (blk_below (g := gb142) (o := .cells #[.int .u32 x143000_1, .int .i32 x143001_1, .int .u32 x143002_1, .int .u8 x143003_1, .int .u8 x143004_1, .int .u8 x143005_1, .int .u8 x143006_1, .int .u8 x143007_1] 58 (0, 0)) (by (with_reducible repeat (first | refine blk_drewN ?_ _ | refine blk_drew ?_ | refine blk_alloc ?_ _)); refine blk_far ?_ NB142_143.out _; (with_reducible repeat (first | refine blk_drewN ?_ _ | refine blk_drew ?_ | refine blk_alloc ?_ _)); refine blk_far ?_ NB142_143.out _; (with_reducible repeat (first | refine blk_drewN ?_ _ | refine blk_drew ?_ | refine blk_alloc ?_ _)); exact BK142.out) hb); have n2_ := Aside0.mk (blk_below (g := gb143) (o := .cells #[.int .u8 x144000_1, .int .u32 ((t154) % 4294967296), .string t155, .int .u32 0] 33 (0, 0)) (by (with_reducible repeat (first | refine blk_drewN ?_ _ | refine blk_drew ?_ | refine blk_alloc ?_ _)); refine blk_put (cs := #[.int .u8 x144000_1, .int .u32 ((t154) % 4294967296), .string (⟨#[]⟩ : ByteArray), .int .u32 0]) ?_ 2 _ rfl; (with_reducible repeat (first | refine blk_drewN ?_ _ | refine blk_drew ?_ | refine blk_alloc ?_ _)); refine blk_put (cs := #[.int .u8 x144000_1, .int .u32 0, .string (⟨#[]⟩ : ByteArray), .int .u32 0]) ?_ 1 _ rfl; (with_reducible repeat (first | refine blk_drewN ?_ _ | refine blk_drew ?_ | refine blk_alloc ?_ _)); exact BK143.out) hb); have n3_ := Aside0.mk (blk_below (g := gb153) (o := .cells #[.string t155, .bool false] 66 (0, 0)) (by (with_reducible repeat (first | refine blk_drewN ?_ _ | refine blk_drew ?_ | refine blk_alloc ?_ _)); refine blk_far ?_ NB153_143.out _; (with_reducible repeat (first | refine blk_drewN ?_ _ | refine blk_drew ?_ | refine blk_alloc ?_ _)); refine blk_far ?_ NB153_143.out _; (with_reducible repeat (first | refine blk_drewN ?_ _ | refine blk_drew ?_ | refine blk_alloc ?_ _)); exact BK153.out) hb); have n4_ := Aside0.mk (below_step (by repeat (first | (with_reducible first | exact HB.out | apply below_alloc | apply pw_below_drewN | apply below_drew1 | refine below_set ?_ GE141.out | refine below_set ?_ GE142.out | refine below_set ?_ GE143.out | refine below_set ?_ GE153.out) | exact HB.out)) hb); clear BK141; clear BK142; clear BK143; clear BK153; clear HB; have BK141 := n0_; have BK142 := n1_; have BK143 := n2_; have BK153 := n3_; have HB := n4_; clear n0_ n1_ n2_ n3_ n4_; (try clear hb); (try clear hb2); (try clear hk); (try clear hi); have hcz115_0 : w114.cell? ⟨gb153, 0, none⟩ = some (.string t155) := (blk_cell BK153.out 0).trans rfl; have hcz115_1 : w114.cell? ⟨gb153, 1, none⟩ = some (.bool false) := (blk_cell BK153.out 1).trans rfl; have hfz115_0 := blk_frozen BK153.out 0; have hfz115_1 := blk_frozen BK153.out 1; have hcz116_0 : w114.cell? ⟨gb143, 0, none⟩ = some (.int .u8 x144000_1) := (blk_cell BK143.out 0).trans rfl; have hcz116_1 : w114.cell? ⟨gb143, 1, none⟩ = some (.int .u32 ((t154) % 4294967296)) := (blk_cell BK143.out 1).trans rfl; have hcz116_2 : w114.cell? ⟨gb143, 2, none⟩ = some (.string t155) := (blk_cell BK143.out 2).trans rfl; have hcz116_3 : w114.cell? ⟨gb143, 3, none⟩ = some (.int .u32 0) := (blk_cell BK143.out 3).trans rfl; have hfz116_0 := blk_frozen BK143.out 0; have hfz116_1 := blk_frozen BK143.out 1; have hfz116_2 := blk_frozen BK143.out 2; have hfz116_3 := blk_frozen BK143.out 3; have hnb117 := NB141_142.out; have hnc117 := NB142_141.out; have hcz118_0 : w114.cell? ⟨gb141, 0, none⟩ = some (.int .u8 0) := (blk_cell BK141.out 0).trans rfl; have hcz118_1 : w114.cell? ⟨gb141, 1, none⟩ = some (.int .u32 0) := (blk_cell BK141.out 1).trans rfl; have hcz118_2 : w114.cell? ⟨gb141, 2, none⟩ = some (.string (⟨#[]⟩ : ByteArray)) := (blk_cell BK141.out 2).trans rfl; have hcz118_3 : w114.cell? ⟨gb141, 3, none⟩ = some (.int .u32 0) := (blk_cell BK141.out 3).trans rfl; have hfz118_0 := blk_frozen BK141.out 0; have hfz118_1 := blk_frozen BK141.out 1; have hfz118_2 := blk_frozen BK141.out 2; have hfz118_3 := blk_frozen BK141.out 3))
                    refine bodyPost_ret (results_ct rfl _ _ gb141 33 #[.int .u8 x144000_1, .int .u32 ((t154) % 4294967296), .string t155, .int .u32 0] (0, 0) _ rfl (by (with_reducible repeat (first | refine blk_drewN ?_ _ | refine blk_drew ?_ | refine blk_alloc ?_ _)); refine blk_put (cs := #[.int .u8 x144000_1, .int .u32 ((t154) % 4294967296), .string t155, .int .u32 0]) ?_ 3 _ rfl; (with_reducible repeat (first | refine blk_drewN ?_ _ | refine blk_drew ?_ | refine blk_alloc ?_ _)); refine blk_put (cs := #[.int .u8 x144000_1, .int .u32 ((t154) % 4294967296), .string (⟨#[]⟩ : ByteArray), .int .u32 0]) ?_ 2 _ rfl; (with_reducible repeat (first | refine blk_drewN ?_ _ | refine blk_drew ?_ | refine blk_alloc ?_ _)); refine blk_put (cs := #[.int .u8 x144000_1, .int .u32 0, .string (⟨#[]⟩ : ByteArray), .int .u32 0]) ?_ 1 _ rfl; (with_reducible repeat (first | refine blk_drewN ?_ _ | refine blk_drew ?_ | refine blk_alloc ?_ _)); refine blk_put (cs := #[.int .u8 0, .int .u32 0, .string (⟨#[]⟩ : ByteArray), .int .u32 0]) ?_ 0 _ rfl; (with_reducible repeat (first | refine blk_drewN ?_ _ | refine blk_drew ?_ | refine blk_alloc ?_ _)); exact BK141.out) Try.underlying33 rfl (by kernel_rfl)) rfl ?_
                    exact ⟨by first | rfl | (simp [errW_none, errW_some] <;> rfl) | (simp [*, errW_none, errW_some] <;> rfl), by repeat (first | (with_reducible first | exact HB.out | apply below_alloc | apply pw_below_drewN | apply below_drew1 | refine below_set ?_ GE141.out | refine below_set ?_ GE142.out | refine below_set ?_ GE143.out | refine below_set ?_ GE153.out) | exact HB.out)⟩
                  · rw [if_neg c104] at H
                    have c104b0 : (t162.toList == a0.toList) = false := beq_eq_false_iff_ne.mpr c104
                    have c104b1 : (t162.toList != a0.toList) = true := bne_iff_ne.mpr c104
                    simp only [Option.some.injEq, Prod.mk.injEq] at H
                    obtain ⟨rfl, rfl, rfl, rfl, rfl⟩ := H
                    go_wp2_with (first | ((with_reducible refine gate_dst (N := 29) rfl ?_); refine box_event ?hg (N := 29) ?hd (cs := #[.string (a0.extract 1 a0.size), .bool false]) (t := 66) ?hr ?_; (case hd => rfl); (case hg => rfl); (case hr => first | (go_simp; done) | (go_simp; rfl)); intro gb153 hg w119 hbox hb; have n0_ := Aside0.mk (blk_below (g := gb141) (o := .cells #[.int .u8 0, .int .u32 0, .string (⟨#[]⟩ : ByteArray), .int .u32 0] 33 (0, 0)) (by (with_reducible repeat (first | refine blk_drewN ?_ _ | refine blk_drew ?_ | refine blk_alloc ?_ _)); exact BK141.out) hb); have n1_ := Aside0.mk (blk_below (g := gb142) (o := .cells #[.int .u32 x143000_1, .int .i32 x143001_1, .int .u32 x143002_1, .int .u8 x143003_1, .int .u8 x143004_1, .int .u8 x143005_1, .int .u8 x143006_1, .int .u8 x143007_1] 58 (0, 0)) (by (with_reducible repeat (first | refine blk_drewN ?_ _ | refine blk_drew ?_ | refine blk_alloc ?_ _)); exact BK142.out) hb); have n2_ := Aside0.mk (blk_below (g := gb143) (o := .cells #[.int .u8 x144000_1, .int .u32 0, .string (⟨#[]⟩ : ByteArray), .int .u32 0] 33 (0, 0)) (by (with_reducible repeat (first | refine blk_drewN ?_ _ | refine blk_drew ?_ | refine blk_alloc ?_ _)); exact BK143.out) hb); have n3_ := Aside0.mk (below_step (by repeat (first | (with_reducible first | exact HB.out | apply below_alloc | apply pw_below_drewN | apply below_drew1 | refine below_set ?_ GE141.out | refine below_set ?_ GE142.out | refine below_set ?_ GE143.out) | exact HB.out)) hb); have n4_ := Aside0.mk (hbox); have n5_ := Aside0.mk ((by rw [hg]; exact (below_size (by repeat (first | (with_reducible first | exact HB.out | apply below_alloc | apply pw_below_drewN | apply below_drew1 | refine below_set ?_ GE141.out | refine below_set ?_ GE142.out | refine below_set ?_ GE143.out) | exact HB.out))) : w.heap.size ≤ gb153)); have n6_ := Aside0.mk ((by rw [hg]; exact (below_size (by repeat (first | (with_reducible first | exact HB.out | apply below_alloc | apply pw_below_drewN | apply below_drew1 | refine below_set ?_ GE141.out | refine below_set ?_ GE142.out | refine below_set ?_ GE143.out) | exact HB.out))) : w.heap.size ≤ gb153)); have n7_ := Aside0.mk ((by rw [hg]; exact Nat.ne_of_lt (blk_lt (g := gb141) (o := .cells #[.int .u8 0, .int .u32 0, .string (⟨#[]⟩ : ByteArray), .int .u32 0] 33 (0, 0)) (by (with_reducible repeat (first | refine blk_drewN ?_ _ | refine blk_drew ?_ | refine blk_alloc ?_ _)); exact BK141.out)) : gb141 ≠ gb153)); have n8_ := Aside0.mk ((by rw [hg]; exact Nat.ne_of_gt (blk_lt (g := gb141) (o := .cells #[.int .u8 0, .int .u32 0, .string (⟨#[]⟩ : ByteArray), .int .u32 0] 33 (0, 0)) (by (with_reducible repeat (first | refine blk_drewN ?_ _ | refine blk_drew ?_ | refine blk_alloc ?_ _)); exact BK141.out)) : gb153 ≠ gb141)); have n9_ := Aside0.mk ((by rw [hg]; exact Nat.ne_of_lt (blk_lt (g := gb142) (o := .cells #[.int .u32 x143000_1, .int .i32 x143001_1, .int .u32 x143002_1, .int .u8 x143003_1, .int .u8 x143004_1, .int .u8 x143005_1, .int .u8 x143006_1, .int .u8 x143007_1] 58 (0, 0)) (by (with_reducible repeat (first | refine blk_drewN ?_ _ | refine blk_drew ?_ | refine blk_alloc ?_ _)); exact BK142.out)) : gb142 ≠ gb153)); have n10_ := Aside0.mk ((by rw [hg]; exact Nat.ne_of_gt (blk_lt (g := gb142) (o := .cells #[.int .u32 x143000_1, .int .i32 x143001_1, .int .u32 x143002_1, .int .u8 x143003_1, .int .u8 x143004_1, .int .u8 x143005_1, .int .u8 x143006_1, .int .u8 x143007_1] 58 (0, 0)) (by (with_reducible repeat (first | refine blk_drewN ?_ _ | refine blk_drew ?_ | refine blk_alloc ?_ _)); exact BK142.out)) : gb153 ≠ gb142)); have n11_ := Aside0.mk ((by rw [hg]; exact Nat.ne_of_lt (blk_lt (g := gb143) (o := .cells #[.int .u8 x144000_1, .int .u32 0, .string (⟨#[]⟩ : ByteArray), .int .u32 0] 33 (0, 0)) (by (with_reducible repeat (first | refine blk_drewN ?_ _ | refine blk_drew ?_ | refine blk_alloc ?_ _)); exact BK143.out)) : gb143 ≠ gb153)); have n12_ := Aside0.mk ((by rw [hg]; exact Nat.ne_of_gt (blk_lt (g := gb143) (o := .cells #[.int .u8 x144000_1, .int .u32 0, .string (⟨#[]⟩ : ByteArray), .int .u32 0] 33 (0, 0)) (by (with_reducible repeat (first | refine blk_drewN ?_ _ | refine blk_drew ?_ | refine blk_alloc ?_ _)); exact BK143.out)) : gb153 ≠ gb143)); clear BK141; clear BK142; clear BK143; clear HB; have BK141 := n0_; have BK142 := n1_; have BK143 := n2_; have HB := n3_; have BK153 := n4_; have GW153 := n5_; have GE153 := n6_; have NB141_153 := n7_; have NB153_141 := n8_; have NB142_153 := n9_; have NB153_142 := n10_; have NB143_153 := n11_; have NB153_143 := n12_; clear n0_ n1_ n2_ n3_ n4_ n5_ n6_ n7_ n8_ n9_ n10_ n11_ n12_; clear hb hbox hg) | ((with_reducible refine gate_callee (f := 17) rfl ?_); refine goesL_ (some 31) rfl rfl Try.func17 (by kernel_rfl) rfl #[.pointer (some ⟨gb153, 0, none⟩), .int .i64 4] rfl (by (try simp only [List.map_toArray, List.map_cons, List.map_nil]); first | done | rfl | (simp only [List.length_drop, List.length_take]; rfl)) ?_; (with_reducible refine (inode_taker_number.calls k1 gb153 (a0.extract 1 a0.size) false 4 t154 t155 false w _ ?side1 ?side2 A24.out).mono ?_); (case side1 => exact ⟨(by (with_reducible repeat (first | refine blk_drewN ?_ _ | refine blk_drew ?_ | refine blk_alloc ?_ _)); exact BK153.out), GE153.out⟩); (case side2 => repeat (first | (with_reducible first | exact HB.out | apply below_alloc | apply pw_below_drewN | apply below_drew1 | refine below_set ?_ GE141.out | refine below_set ?_ GE142.out | refine below_set ?_ GE143.out | refine below_set ?_ GE153.out) | exact HB.out)); rintro e w120 ⟨rfl, hi, hb, hk⟩; refine ⟨_, rfl, ?_⟩; have n0_ := Aside0.mk (KeepBut.blk hk (g' := gb141) (o := .cells #[.int .u8 0, .int .u32 0, .string (⟨#[]⟩ : ByteArray), .int .u32 0] 33 (0, 0)) (by (with_reducible repeat (first | refine blk_drewN ?_ _ | refine blk_drew ?_ | refine blk_alloc ?_ _)); exact BK141.out) NB141_153.out (by simp)); have n1_ := Aside0.mk (KeepBut.blk hk (g' := gb142) (o := .cells #[.int .u32 x143000_1, .int .i32 x143001_1, .int .u32 x143002_1, .int .u8 x143003_1, .int .u8 x143004_1, .int .u8 x143005_1, .int .u8 x143006_1, .int .u8 x143007_1] 58 (0, 0)) (by (with_reducible repeat (first | refine blk_drewN ?_ _ | refine blk_drew ?_ | refine blk_alloc ?_ _)); exact BK142.out) NB142_153.out (by simp)); have n2_ := Aside0.mk (KeepBut.blk hk (g' := gb143) (o := .cells #[.int .u8 x144000_1, .int .u32 0, .string (⟨#[]⟩ : ByteArray), .int .u32 0] 33 (0, 0)) (by (with_reducible repeat (first | refine blk_drewN ?_ _ | refine blk_drew ?_ | refine blk_alloc ?_ _)); exact BK143.out) NB143_153.out (by simp)); have n3_ := Aside0.mk (hb); have n4_ := Aside0.mk (hi.1); clear BK141; clear BK142; clear BK143; clear HB; clear BK153; have BK141 := n0_; have BK142 := n1_; have BK143 := n2_; have HB := n3_; have BK153 := n4_; clear n0_ n1_ n2_ n3_ n4_; (try clear hb); (try clear hb2); (try clear hk); (try clear hi); have hnb121 := NB143_141.out; have hnc121 := NB141_143.out; have hnb122 := NB143_142.out; have hnc122 := NB142_143.out; have hnb123 := NB143_153.out; have hnc123 := NB153_143.out; have hcz124_0 : w120.cell? ⟨gb143, 0, none⟩ = some (.int .u8 x144000_1) := (blk_cell BK143.out 0).trans rfl; have hcz124_1 : w120.cell? ⟨gb143, 1, none⟩ = some (.int .u32 0) := (blk_cell BK143.out 1).trans rfl; have hcz124_2 : w120.cell? ⟨gb143, 2, none⟩ = some (.string (⟨#[]⟩ : ByteArray)) := (blk_cell BK143.out 2).trans rfl; have hcz124_3 : w120.cell? ⟨gb143, 3, none⟩ = some (.int .u32 0) := (blk_cell BK143.out 3).trans rfl; have hfz124_0 := blk_frozen BK143.out 0; have hfz124_1 := blk_frozen BK143.out 1; have hfz124_2 := blk_frozen BK143.out 2; have hfz124_3 := blk_frozen BK143.out 3; have hnb125 := NB153_141.out; have hnc125 := NB141_153.out; have hnb126 := NB153_142.out; have hnc126 := NB142_153.out; have hcz127_0 : w120.cell? ⟨gb153, 0, none⟩ = some (.string t155) := (blk_cell BK153.out 0).trans rfl; have hcz127_1 : w120.cell? ⟨gb153, 1, none⟩ = some (.bool false) := (blk_cell BK153.out 1).trans rfl; have hfz127_0 := blk_frozen BK153.out 0; have hfz127_1 := blk_frozen BK153.out 1) | ((with_reducible refine gate_callee (f := 7) rfl ?_); refine goesL_ (some 48) rfl rfl Try.func7 (by kernel_rfl) rfl #[.agg #[.int .u8 x144000_1, .int .u32 ((t154) % 4294967296), .string t155, .int .u32 0]] rfl (by (try simp only [List.map_toArray, List.map_cons, List.map_nil]); first | done | rfl | (simp only [List.length_drop, List.length_take]; rfl)) ?_; (with_reducible refine (inode_Key.calls k1 x144000_1 ((t154) % 4294967296) t155 0 t162 t163 _ A88.out).mono ?_); rintro e w128 ⟨rfl, hb⟩; refine ⟨_, rfl, ?_⟩; have n0_ := Aside0.mk (blk_below (g := gb141) (o := .cells #[.int .u8 0, .int .u32 0, .string (⟨#[]⟩ : ByteArray), .int .u32 0] 33 (0, 0)) (by (with_reducible repeat (first | refine blk_drewN ?_ _ | refine blk_drew ?_ | refine blk_alloc ?_ _)); refine blk_far ?_ NB141_143.out _; (with_reducible repeat (first | refine blk_drewN ?_ _ | refine blk_drew ?_ | refine blk_alloc ?_ _)); refine blk_far ?_ NB141_143.out _; (with_reducible repeat (first | refine blk_drewN ?_ _ | refine blk_drew ?_ | refine blk_alloc ?_ _)); exact BK141.out) hb); have n1_ := Aside0.mk (blk_below (g := gb142) (o := .cells #[.int .u32 x143000_1, .int .i32 x143001_1, .int .u32 x143002_1, .int .u8 x143003_1, .int .u8 x143004_1, .int .u8 x143005_1, .int .u8 x143006_1, .int .u8 x143007_1] 58 (0, 0)) (by (with_reducible repeat (first | refine blk_drewN ?_ _ | refine blk_drew ?_ | refine blk_alloc ?_ _)); refine blk_far ?_ NB142_143.out _; (with_reducible repeat (first | refine blk_drewN ?_ _ | refine blk_drew ?_ | refine blk_alloc ?_ _)); refine blk_far ?_ NB142_143.out _; (with_reducible repeat (first | refine blk_drewN ?_ _ | refine blk_drew ?_ | refine blk_alloc ?_ _)); exact BK142.out) hb); have n2_ := Aside0.mk (blk_below (g := gb143) (o := .cells #[.int .u8 x144000_1, .int .u32 ((t154) % 4294967296), .string t155, .int .u32 0] 33 (0, 0)) (by (with_reducible repeat (first | refine blk_drewN ?_ _ | refine blk_drew ?_ | refine blk_alloc ?_ _)); refine blk_put (cs := #[.int .u8 x144000_1, .int .u32 ((t154) % 4294967296), .string (⟨#[]⟩ : ByteArray), .int .u32 0]) ?_ 2 _ rfl; (with_reducible repeat (first | refine blk_drewN ?_ _ | refine blk_drew ?_ | refine blk_alloc ?_ _)); refine blk_put (cs := #[.int .u8 x144000_1, .int .u32 0, .string (⟨#[]⟩ : ByteArray), .int .u32 0]) ?_ 1 _ rfl; (with_reducible repeat (first | refine blk_drewN ?_ _ | refine blk_drew ?_ | refine blk_alloc ?_ _)); exact BK143.out) hb); have n3_ := Aside0.mk (blk_below (g := gb153) (o := .cells #[.string t155, .bool false] 66 (0, 0)) (by (with_reducible repeat (first | refine blk_drewN ?_ _ | refine blk_drew ?_ | refine blk_alloc ?_ _)); refine blk_far ?_ NB153_143.out _; (with_reducible repeat (first | refine blk_drewN ?_ _ | refine blk_drew ?_ | refine blk_alloc ?_ _)); refine blk_far ?_ NB153_143.out _; (with_reducible repeat (first | refine blk_drewN ?_ _ | refine blk_drew ?_ | refine blk_alloc ?_ _)); exact BK153.out) hb); have n4_ := Aside0.mk (below_step (by repeat (first | (with_reducible first | exact HB.out | apply below_alloc | apply pw_below_drewN | apply below_drew1 | refine below_set ?_ GE141.out | refine below_set ?_ GE142.out | refine below_set ?_ GE143.out | refine below_set ?_ GE153.out) | exact HB.out)) hb); clear BK141; clear BK142; clear BK143; clear BK153; clear HB; have BK141 := n0_; have BK142 := n1_; have BK143 := n2_; have BK153 := n3_; have HB := n4_; clear n0_ n1_ n2_ n3_ n4_; (try clear hb); (try clear hb2); (try clear hk); (try clear hi); have hcz129_0 : w128.cell? ⟨gb153, 0, none⟩ = some (.string t155) := (blk_cell BK153.out 0).trans rfl; have hcz129_1 : w128.cell? ⟨gb153, 1, none⟩ = some (.bool false) := (blk_cell BK153.out 1).trans rfl; have hfz129_0 := blk_frozen BK153.out 0; have hfz129_1 := blk_frozen BK153.out 1; have hnb130 := NB141_142.out; have hnc130 := NB142_141.out; have hcz131_0 : w128.cell? ⟨gb141, 0, none⟩ = some (.int .u8 0) := (blk_cell BK141.out 0).trans rfl; have hcz131_1 : w128.cell? ⟨gb141, 1, none⟩ = some (.int .u32 0) := (blk_cell BK141.out 1).trans rfl; have hcz131_2 : w128.cell? ⟨gb141, 2, none⟩ = some (.string (⟨#[]⟩ : ByteArray)) := (blk_cell BK141.out 2).trans rfl; have hcz131_3 : w128.cell? ⟨gb141, 3, none⟩ = some (.int .u32 0) := (blk_cell BK141.out 3).trans rfl; have hfz131_0 := blk_frozen BK141.out 0; have hfz131_1 := blk_frozen BK141.out 1; have hfz131_2 := blk_frozen BK141.out 2; have hfz131_3 := blk_frozen BK141.out 3))
                    refine bodyPost_ret (results_ct rfl _ _ gb141 33 #[.int .u8 0, .int .u32 0, .string (⟨#[]⟩ : ByteArray), .int .u32 0] (0, 0) _ rfl (by (with_reducible repeat (first | refine blk_drewN ?_ _ | refine blk_drew ?_ | refine blk_alloc ?_ _)); refine blk_put (cs := #[.int .u8 0, .int .u32 0, .string (⟨#[]⟩ : ByteArray), .int .u32 0]) ?_ 3 _ rfl; (with_reducible repeat (first | refine blk_drewN ?_ _ | refine blk_drew ?_ | refine blk_alloc ?_ _)); refine blk_put (cs := #[.int .u8 0, .int .u32 0, .string (⟨#[]⟩ : ByteArray), .int .u32 0]) ?_ 2 _ rfl; (with_reducible repeat (first | refine blk_drewN ?_ _ | refine blk_drew ?_ | refine blk_alloc ?_ _)); refine blk_put (cs := #[.int .u8 0, .int .u32 0, .string (⟨#[]⟩ : ByteArray), .int .u32 0]) ?_ 1 _ rfl; (with_reducible repeat (first | refine blk_drewN ?_ _ | refine blk_drew ?_ | refine blk_alloc ?_ _)); refine blk_put (cs := #[.int .u8 0, .int .u32 0, .string (⟨#[]⟩ : ByteArray), .int .u32 0]) ?_ 0 _ rfl; (with_reducible repeat (first | refine blk_drewN ?_ _ | refine blk_drew ?_ | refine blk_alloc ?_ _)); exact BK141.out) Try.underlying33 rfl (by kernel_rfl)) rfl ?_
                    exact ⟨by first | rfl | (simp [errW_none, errW_some] <;> rfl) | (simp [*, errW_none, errW_some] <;> rfl), by repeat (first | (with_reducible first | exact HB.out | apply below_alloc | apply pw_below_drewN | apply below_drew1 | refine below_set ?_ GE141.out | refine below_set ?_ GE142.out | refine below_set ?_ GE143.out | refine below_set ?_ GE153.out) | exact HB.out)⟩
                · rw [if_neg c103] at H
                  have c103b0 : (t163 == 0) = false := beq_eq_false_iff_ne.mpr c103
                  have c103b1 : (t163 != 0) = true := bne_iff_ne.mpr c103
                  simp only [Option.some.injEq, Prod.mk.injEq] at H
                  obtain ⟨rfl, rfl, rfl, rfl, rfl⟩ := H
                  go_wp2_with (first | ((with_reducible refine gate_dst (N := 29) rfl ?_); refine box_event ?hg (N := 29) ?hd (cs := #[.string (a0.extract 1 a0.size), .bool false]) (t := 66) ?hr ?_; (case hd => rfl); (case hg => rfl); (case hr => first | (go_simp; done) | (go_simp; rfl)); intro gb153 hg w132 hbox hb; have n0_ := Aside0.mk (blk_below (g := gb141) (o := .cells #[.int .u8 0, .int .u32 0, .string (⟨#[]⟩ : ByteArray), .int .u32 0] 33 (0, 0)) (by (with_reducible repeat (first | refine blk_drewN ?_ _ | refine blk_drew ?_ | refine blk_alloc ?_ _)); exact BK141.out) hb); have n1_ := Aside0.mk (blk_below (g := gb142) (o := .cells #[.int .u32 x143000_1, .int .i32 x143001_1, .int .u32 x143002_1, .int .u8 x143003_1, .int .u8 x143004_1, .int .u8 x143005_1, .int .u8 x143006_1, .int .u8 x143007_1] 58 (0, 0)) (by (with_reducible repeat (first | refine blk_drewN ?_ _ | refine blk_drew ?_ | refine blk_alloc ?_ _)); exact BK142.out) hb); have n2_ := Aside0.mk (blk_below (g := gb143) (o := .cells #[.int .u8 x144000_1, .int .u32 0, .string (⟨#[]⟩ : ByteArray), .int .u32 0] 33 (0, 0)) (by (with_reducible repeat (first | refine blk_drewN ?_ _ | refine blk_drew ?_ | refine blk_alloc ?_ _)); exact BK143.out) hb); have n3_ := Aside0.mk (below_step (by repeat (first | (with_reducible first | exact HB.out | apply below_alloc | apply pw_below_drewN | apply below_drew1 | refine below_set ?_ GE141.out | refine below_set ?_ GE142.out | refine below_set ?_ GE143.out) | exact HB.out)) hb); have n4_ := Aside0.mk (hbox); have n5_ := Aside0.mk ((by rw [hg]; exact (below_size (by repeat (first | (with_reducible first | exact HB.out | apply below_alloc | apply pw_below_drewN | apply below_drew1 | refine below_set ?_ GE141.out | refine below_set ?_ GE142.out | refine below_set ?_ GE143.out) | exact HB.out))) : w.heap.size ≤ gb153)); have n6_ := Aside0.mk ((by rw [hg]; exact (below_size (by repeat (first | (with_reducible first | exact HB.out | apply below_alloc | apply pw_below_drewN | apply below_drew1 | refine below_set ?_ GE141.out | refine below_set ?_ GE142.out | refine below_set ?_ GE143.out) | exact HB.out))) : w.heap.size ≤ gb153)); have n7_ := Aside0.mk ((by rw [hg]; exact Nat.ne_of_lt (blk_lt (g := gb141) (o := .cells #[.int .u8 0, .int .u32 0, .string (⟨#[]⟩ : ByteArray), .int .u32 0] 33 (0, 0)) (by (with_reducible repeat (first | refine blk_drewN ?_ _ | refine blk_drew ?_ | refine blk_alloc ?_ _)); exact BK141.out)) : gb141 ≠ gb153)); have n8_ := Aside0.mk ((by rw [hg]; exact Nat.ne_of_gt (blk_lt (g := gb141) (o := .cells #[.int .u8 0, .int .u32 0, .string (⟨#[]⟩ : ByteArray), .int .u32 0] 33 (0, 0)) (by (with_reducible repeat (first | refine blk_drewN ?_ _ | refine blk_drew ?_ | refine blk_alloc ?_ _)); exact BK141.out)) : gb153 ≠ gb141)); have n9_ := Aside0.mk ((by rw [hg]; exact Nat.ne_of_lt (blk_lt (g := gb142) (o := .cells #[.int .u32 x143000_1, .int .i32 x143001_1, .int .u32 x143002_1, .int .u8 x143003_1, .int .u8 x143004_1, .int .u8 x143005_1, .int .u8 x143006_1, .int .u8 x143007_1] 58 (0, 0)) (by (with_reducible repeat (first | refine blk_drewN ?_ _ | refine blk_drew ?_ | refine blk_alloc ?_ _)); exact BK142.out)) : gb142 ≠ gb153)); have n10_ := Aside0.mk ((by rw [hg]; exact Nat.ne_of_gt (blk_lt (g := gb142) (o := .cells #[.int .u32 x143000_1, .int .i32 x143001_1, .int .u32 x143002_1, .int .u8 x143003_1, .int .u8 x143004_1, .int .u8 x143005_1, .int .u8 x143006_1, .int .u8 x143007_1] 58 (0, 0)) (by (with_reducible repeat (first | refine blk_drewN ?_ _ | refine blk_drew ?_ | refine blk_alloc ?_ _)); exact BK142.out)) : gb153 ≠ gb142)); have n11_ := Aside0.mk ((by rw [hg]; exact Nat.ne_of_lt (blk_lt (g := gb143) (o := .cells #[.int .u8 x144000_1, .int .u32 0, .string (⟨#[]⟩ : ByteArray), .int .u32 0] 33 (0, 0)) (by (with_reducible repeat (first | refine blk_drewN ?_ _ | refine blk_drew ?_ | refine blk_alloc ?_ _)); exact BK143.out)) : gb143 ≠ gb153)); have n12_ := Aside0.mk ((by rw [hg]; exact Nat.ne_of_gt (blk_lt (g := gb143) (o := .cells #[.int .u8 x144000_1, .int .u32 0, .string (⟨#[]⟩ : ByteArray), .int .u32 0] 33 (0, 0)) (by (with_reducible repeat (first | refine blk_drewN ?_ _ | refine blk_drew ?_ | refine blk_alloc ?_ _)); exact BK143.out)) : gb153 ≠ gb143)); clear BK141; clear BK142; clear BK143; clear HB; have BK141 := n0_; have BK142 := n1_; have BK143 := n2_; have HB := n3_; have BK153 := n4_; have GW153 := n5_; have GE153 := n6_; have NB141_153 := n7_; have NB153_141 := n8_; have NB142_153 := n9_; have NB153_142 := n10_; have NB143_153 := n11_; have NB153_143 := n12_; clear n0_ n1_ n2_ n3_ n4_ n5_ n6_ n7_ n8_ n9_ n10_ n11_ n12_; clear hb hbox hg) | ((with_reducible refine gate_callee (f := 17) rfl ?_); refine goesL_ (some 31) rfl rfl Try.func17 (by kernel_rfl) rfl #[.pointer (some ⟨gb153, 0, none⟩), .int .i64 4] rfl (by (try simp only [List.map_toArray, List.map_cons, List.map_nil]); first | done | rfl | (simp only [List.length_drop, List.length_take]; rfl)) ?_; (with_reducible refine (inode_taker_number.calls k1 gb153 (a0.extract 1 a0.size) false 4 t154 t155 false w _ ?side1 ?side2 A24.out).mono ?_); (case side1 => exact ⟨(by (with_reducible repeat (first | refine blk_drewN ?_ _ | refine blk_drew ?_ | refine blk_alloc ?_ _)); exact BK153.out), GE153.out⟩); (case side2 => repeat (first | (with_reducible first | exact HB.out | apply below_alloc | apply pw_below_drewN | apply below_drew1 | refine below_set ?_ GE141.out | refine below_set ?_ GE142.out | refine below_set ?_ GE143.out | refine below_set ?_ GE153.out) | exact HB.out)); rintro e w133 ⟨rfl, hi, hb, hk⟩; refine ⟨_, rfl, ?_⟩; have n0_ := Aside0.mk (KeepBut.blk hk (g' := gb141) (o := .cells #[.int .u8 0, .int .u32 0, .string (⟨#[]⟩ : ByteArray), .int .u32 0] 33 (0, 0)) (by (with_reducible repeat (first | refine blk_drewN ?_ _ | refine blk_drew ?_ | refine blk_alloc ?_ _)); exact BK141.out) NB141_153.out (by simp)); have n1_ := Aside0.mk (KeepBut.blk hk (g' := gb142) (o := .cells #[.int .u32 x143000_1, .int .i32 x143001_1, .int .u32 x143002_1, .int .u8 x143003_1, .int .u8 x143004_1, .int .u8 x143005_1, .int .u8 x143006_1, .int .u8 x143007_1] 58 (0, 0)) (by (with_reducible repeat (first | refine blk_drewN ?_ _ | refine blk_drew ?_ | refine blk_alloc ?_ _)); exact BK142.out) NB142_153.out (by simp)); have n2_ := Aside0.mk (KeepBut.blk hk (g' := gb143) (o := .cells #[.int .u8 x144000_1, .int .u32 0, .string (⟨#[]⟩ : ByteArray), .int .u32 0] 33 (0, 0)) (by (with_reducible repeat (first | refine blk_drewN ?_ _ | refine blk_drew ?_ | refine blk_alloc ?_ _)); exact BK143.out) NB143_153.out (by simp)); have n3_ := Aside0.mk (hb); have n4_ := Aside0.mk (hi.1); clear BK141; clear BK142; clear BK143; clear HB; clear BK153; have BK141 := n0_; have BK142 := n1_; have BK143 := n2_; have HB := n3_; have BK153 := n4_; clear n0_ n1_ n2_ n3_ n4_; (try clear hb); (try clear hb2); (try clear hk); (try clear hi); have hnb134 := NB143_141.out; have hnc134 := NB141_143.out; have hnb135 := NB143_142.out; have hnc135 := NB142_143.out; have hnb136 := NB143_153.out; have hnc136 := NB153_143.out; have hcz137_0 : w133.cell? ⟨gb143, 0, none⟩ = some (.int .u8 x144000_1) := (blk_cell BK143.out 0).trans rfl; have hcz137_1 : w133.cell? ⟨gb143, 1, none⟩ = some (.int .u32 0) := (blk_cell BK143.out 1).trans rfl; have hcz137_2 : w133.cell? ⟨gb143, 2, none⟩ = some (.string (⟨#[]⟩ : ByteArray)) := (blk_cell BK143.out 2).trans rfl; have hcz137_3 : w133.cell? ⟨gb143, 3, none⟩ = some (.int .u32 0) := (blk_cell BK143.out 3).trans rfl; have hfz137_0 := blk_frozen BK143.out 0; have hfz137_1 := blk_frozen BK143.out 1; have hfz137_2 := blk_frozen BK143.out 2; have hfz137_3 := blk_frozen BK143.out 3; have hnb138 := NB153_141.out; have hnc138 := NB141_153.out; have hnb139 := NB153_142.out; have hnc139 := NB142_153.out; have hcz140_0 : w133.cell? ⟨gb153, 0, none⟩ = some (.string t155) := (blk_cell BK153.out 0).trans rfl; have hcz140_1 : w133.cell? ⟨gb153, 1, none⟩ = some (.bool false) := (blk_cell BK153.out 1).trans rfl; have hfz140_0 := blk_frozen BK153.out 0; have hfz140_1 := blk_frozen BK153.out 1) | ((with_reducible refine gate_callee (f := 7) rfl ?_); refine goesL_ (some 48) rfl rfl Try.func7 (by kernel_rfl) rfl #[.agg #[.int .u8 x144000_1, .int .u32 ((t154) % 4294967296), .string t155, .int .u32 0]] rfl (by (try simp only [List.map_toArray, List.map_cons, List.map_nil]); first | done | rfl | (simp only [List.length_drop, List.length_take]; rfl)) ?_; (with_reducible refine (inode_Key.calls k1 x144000_1 ((t154) % 4294967296) t155 0 t162 t163 _ A88.out).mono ?_); rintro e w141 ⟨rfl, hb⟩; refine ⟨_, rfl, ?_⟩; have n0_ := Aside0.mk (blk_below (g := gb141) (o := .cells #[.int .u8 0, .int .u32 0, .string (⟨#[]⟩ : ByteArray), .int .u32 0] 33 (0, 0)) (by (with_reducible repeat (first | refine blk_drewN ?_ _ | refine blk_drew ?_ | refine blk_alloc ?_ _)); refine blk_far ?_ NB141_143.out _; (with_reducible repeat (first | refine blk_drewN ?_ _ | refine blk_drew ?_ | refine blk_alloc ?_ _)); refine blk_far ?_ NB141_143.out _; (with_reducible repeat (first | refine blk_drewN ?_ _ | refine blk_drew ?_ | refine blk_alloc ?_ _)); exact BK141.out) hb); have n1_ := Aside0.mk (blk_below (g := gb142) (o := .cells #[.int .u32 x143000_1, .int .i32 x143001_1, .int .u32 x143002_1, .int .u8 x143003_1, .int .u8 x143004_1, .int .u8 x143005_1, .int .u8 x143006_1, .int .u8 x143007_1] 58 (0, 0)) (by (with_reducible repeat (first | refine blk_drewN ?_ _ | refine blk_drew ?_ | refine blk_alloc ?_ _)); refine blk_far ?_ NB142_143.out _; (with_reducible repeat (first | refine blk_drewN ?_ _ | refine blk_drew ?_ | refine blk_alloc ?_ _)); refine blk_far ?_ NB142_143.out _; (with_reducible repeat (first | refine blk_drewN ?_ _ | refine blk_drew ?_ | refine blk_alloc ?_ _)); exact BK142.out) hb); have n2_ := Aside0.mk (blk_below (g := gb143) (o := .cells #[.int .u8 x144000_1, .int .u32 ((t154) % 4294967296), .string t155, .int .u32 0] 33 (0, 0)) (by (with_reducible repeat (first | refine blk_drewN ?_ _ | refine blk_drew ?_ | refine blk_alloc ?_ _)); refine blk_put (cs := #[.int .u8 x144000_1, .int .u32 ((t154) % 4294967296), .string (⟨#[]⟩ : ByteArray), .int .u32 0]) ?_ 2 _ rfl; (with_reducible repeat (first | refine blk_drewN ?_ _ | refine blk_drew ?_ | refine blk_alloc ?_ _)); refine blk_put (cs := #[.int .u8 x144000_1, .int .u32 0, .string (⟨#[]⟩ : ByteArray), .int .u32 0]) ?_ 1 _ rfl; (with_reducible repeat (first | refine blk_drewN ?_ _ | refine blk_drew ?_ | refine blk_alloc ?_ _)); exact BK143.out) hb); have n3_ := Aside0.mk (blk_below (g := gb153) (o := .cells #[.string t155, .bool false] 66 (0, 0)) (by (with_reducible repeat (first | refine blk_drewN ?_ _ | refine blk_drew ?_ | refine blk_alloc ?_ _)); refine blk_far ?_ NB153_143.out _; (with_reducible repeat (first | refine blk_drewN ?_ _ | refine blk_drew ?_ | refine blk_alloc ?_ _)); refine blk_far ?_ NB153_143.out _; (with_reducible repeat (first | refine blk_drewN ?_ _ | refine blk_drew ?_ | refine blk_alloc ?_ _)); exact BK153.out) hb); have n4_ := Aside0.mk (below_step (by repeat (first | (with_reducible first | exact HB.out | apply below_alloc | apply pw_below_drewN | apply below_drew1 | refine below_set ?_ GE141.out | refine below_set ?_ GE142.out | refine below_set ?_ GE143.out | refine below_set ?_ GE153.out) | exact HB.out)) hb); clear BK141; clear BK142; clear BK143; clear BK153; clear HB; have BK141 := n0_; have BK142 := n1_; have BK143 := n2_; have BK153 := n3_; have HB := n4_; clear n0_ n1_ n2_ n3_ n4_; (try clear hb); (try clear hb2); (try clear hk); (try clear hi); have hcz142_0 : w141.cell? ⟨gb153, 0, none⟩ = some (.string t155) := (blk_cell BK153.out 0).trans rfl; have hcz142_1 : w141.cell? ⟨gb153, 1, none⟩ = some (.bool false) := (blk_cell BK153.out 1).trans rfl; have hfz142_0 := blk_frozen BK153.out 0; have hfz142_1 := blk_frozen BK153.out 1; have hnb143 := NB141_142.out; have hnc143 := NB142_141.out; have hcz144_0 : w141.cell? ⟨gb141, 0, none⟩ = some (.int .u8 0) := (blk_cell BK141.out 0).trans rfl; have hcz144_1 : w141.cell? ⟨gb141, 1, none⟩ = some (.int .u32 0) := (blk_cell BK141.out 1).trans rfl; have hcz144_2 : w141.cell? ⟨gb141, 2, none⟩ = some (.string (⟨#[]⟩ : ByteArray)) := (blk_cell BK141.out 2).trans rfl; have hcz144_3 : w141.cell? ⟨gb141, 3, none⟩ = some (.int .u32 0) := (blk_cell BK141.out 3).trans rfl; have hfz144_0 := blk_frozen BK141.out 0; have hfz144_1 := blk_frozen BK141.out 1; have hfz144_2 := blk_frozen BK141.out 2; have hfz144_3 := blk_frozen BK141.out 3))
                  refine bodyPost_ret (results_ct rfl _ _ gb141 33 #[.int .u8 0, .int .u32 0, .string (⟨#[]⟩ : ByteArray), .int .u32 0] (0, 0) _ rfl (by (with_reducible repeat (first | refine blk_drewN ?_ _ | refine blk_drew ?_ | refine blk_alloc ?_ _)); refine blk_put (cs := #[.int .u8 0, .int .u32 0, .string (⟨#[]⟩ : ByteArray), .int .u32 0]) ?_ 3 _ rfl; (with_reducible repeat (first | refine blk_drewN ?_ _ | refine blk_drew ?_ | refine blk_alloc ?_ _)); refine blk_put (cs := #[.int .u8 0, .int .u32 0, .string (⟨#[]⟩ : ByteArray), .int .u32 0]) ?_ 2 _ rfl; (with_reducible repeat (first | refine blk_drewN ?_ _ | refine blk_drew ?_ | refine blk_alloc ?_ _)); refine blk_put (cs := #[.int .u8 0, .int .u32 0, .string (⟨#[]⟩ : ByteArray), .int .u32 0]) ?_ 1 _ rfl; (with_reducible repeat (first | refine blk_drewN ?_ _ | refine blk_drew ?_ | refine blk_alloc ?_ _)); refine blk_put (cs := #[.int .u8 0, .int .u32 0, .string (⟨#[]⟩ : ByteArray), .int .u32 0]) ?_ 0 _ rfl; (with_reducible repeat (first | refine blk_drewN ?_ _ | refine blk_drew ?_ | refine blk_alloc ?_ _)); exact BK141.out) Try.underlying33 rfl (by kernel_rfl)) rfl ?_
                  exact ⟨by first | rfl | (simp [errW_none, errW_some] <;> rfl) | (simp [*, errW_none, errW_some] <;> rfl), by repeat (first | (with_reducible first | exact HB.out | apply below_alloc | apply pw_below_drewN | apply below_drew1 | refine below_set ?_ GE141.out | refine below_set ?_ GE142.out | refine below_set ?_ GE143.out | refine below_set ?_ GE153.out) | exact HB.out)⟩
          · rw [if_neg c23] at H
            exact absurd H (by simp)

end Go.Proofs.Ythbljhmjppjcjaa.Z
end

section
-- Printed by a program of this session (mp.py) out of the translation.
namespace Go.Proofs.Ythbljhmjppjcjaa.Z
open Go.RowKit Go.Proofs.YthbljhmjppjcjaaW.PrintWords Go.Proofs.YthbljhmjppjcjaaW.PrintLast Go.Proofs.YthbljhmjppjcjaaW.PrintMore
attribute [local go_sem] max2_int min2_int max_two min_two max_three min_three max_four min_four   -- for this text's walks alone
set_option linter.unusedVariables false
set_option linter.unusedSimpArgs false

/-! ### bits_RotateLeft32: function 39 -/
def bits_RotateLeft32.f (a0 : Int) (a1 : Int) : Option (Int) := if 0 ≤ (Go.bits .and .u64 (IntKind.u64.wrap (a1)) 31) then (if 0 ≤ (IntKind.u64.wrap (32 - (Go.bits .and .u64 (IntKind.u64.wrap (a1)) 31))) then (some (Go.bits .or .u32 (shl .u32 a0 (Go.bits .and .u64 (IntKind.u64.wrap (a1)) 31)) (shr .u32 a0 (IntKind.u64.wrap (32 - (Go.bits .and .u64 (IntKind.u64.wrap (a1)) 31)))))) else (none)) else (none)
set_option maxHeartbeats 8000000 in
set_option maxRecDepth 100000 in
theorem bits_RotateLeft32.calls (a0 : Int) (a1 : Int) (r : Int) (w : World) (h : bits_RotateLeft32.f a0 a1 = some r) :
    Calls Try.prog 39 #[.int .u32 a0, .int .i64 a1] w fun e w' => e = .returned (.int .u32 r) ∧ Drawn0 w w' := by
  have H : (if 0 ≤ (Go.bits .and .u64 (IntKind.u64.wrap (a1)) 31) then (if 0 ≤ (IntKind.u64.wrap (32 - (Go.bits .and .u64 (IntKind.u64.wrap (a1)) 31))) then (some (Go.bits .or .u32 (shl .u32 a0 (Go.bits .and .u64 (IntKind.u64.wrap (a1)) 31)) (shr .u32 a0 (IntKind.u64.wrap (32 - (Go.bits .and .u64 (IntKind.u64.wrap (a1)) 31)))))) else (none)) else (none)) = some r := h
  clear h
  obtain ⟨ji3, hji3⟩ : ∃ j_ : Int, (Go.bits .and .u64 (IntKind.u64.wrap (a1)) 31) = j_ := ⟨_, rfl⟩
  replace H : (if 0 ≤ (ji3) then (if 0 ≤ (IntKind.u64.wrap (32 - (ji3))) then (some (Go.bits .or .u32 (shl .u32 a0 (ji3)) (shr .u32 a0 (IntKind.u64.wrap (32 - (ji3)))))) else (none)) else (none)) = some r := by first | (rw [hji3] at H; exact H) | (simp only [hji3] at H ⊢; exact H)
  by_cases c4 : 0 ≤ (ji3)
  · rw [if_pos c4] at H
    have c4b0 := eq_true c4
    have c4b1 : decide (0 ≤ (ji3)) = true := decide_eq_true c4
    clear c4
    obtain ⟨ji5, hji5⟩ : ∃ j_ : Int, (shl .u32 a0 (ji3)) = j_ := ⟨_, rfl⟩
    replace H : (if 0 ≤ (IntKind.u64.wrap (32 - (ji3))) then (some (Go.bits .or .u32 (ji5) (shr .u32 a0 (IntKind.u64.wrap (32 - (ji3)))))) else (none)) = some r := by first | (rw [hji5] at H; exact H) | (simp only [hji5] at H ⊢; exact H)
    have hji5_ : (IntKind.u32.wrap (a0 * 2 ^ min (ji3).toNat 32)) = ji5 := hji5
    have hji5z : (ji3) ≤ 32 → (IntKind.u32.wrap (a0 * 2 ^ (ji3).toNat)) = ji5 := shl_small hji5
    obtain ⟨ji6, hji6⟩ : ∃ j_ : Int, (IntKind.u64.wrap (32 - (ji3))) = j_ := ⟨_, rfl⟩
    replace H : (if 0 ≤ (ji6) then (some (Go.bits .or .u32 (ji5) (shr .u32 a0 (ji6)))) else (none)) = some r := by first | (rw [hji6] at H; exact H) | (simp only [hji6] at H ⊢; exact H)
    by_cases c7 : 0 ≤ (ji6)
    · rw [if_pos c7] at H
      have c7b0 := eq_true c7
      have c7b1 : decide (0 ≤ (ji6)) = true := decide_eq_true c7
      clear c7
      obtain ⟨ji8, hji8⟩ : ∃ j_ : Int, (shr .u32 a0 (ji6)) = j_ := ⟨_, rfl⟩
      replace H : (some (Go.bits .or .u32 (ji5) (ji8))) = some r := by first | (rw [hji8] at H; exact H) | (simp only [hji8] at H ⊢; exact H)
      have hji8_ : (a0 / 2 ^ min (ji6).toNat 32) = ji8 := hji8
      have hji8z : (ji6) ≤ 32 → (a0 / 2 ^ (ji6).toNat) = ji8 := shr_small hji8
      obtain rfl := Option.some.inj H
      go_enter Try.func39, Try.ntmps39
      go_wp2
      go_ret
      exact ⟨by first | rfl | (simp; done) | (simp only [← hji3, ← hji5, ← hji6, ← hji8] <;> (first | rfl | simp)) | (simp [*]; done), by repeat (first | exact Drawn0.refl _ | apply Drawn0.step)⟩
    · rw [if_neg c7] at H
      exact absurd H (by simp)
  · rw [if_neg c4] at H
    exact absurd H (by simp)

end Go.Proofs.Ythbljhmjppjcjaa.Z
end

section
-- Printed by a program of this session (mp.py) out of the translation.
namespace Go.Proofs.Ythbljhmjppjcjaa.Z
open Go.RowKit Go.Proofs.YthbljhmjppjcjaaW.PrintWords Go.Proofs.YthbljhmjppjcjaaW.PrintLast Go.Proofs.YthbljhmjppjcjaaW.PrintMore
attribute [local go_sem] max2_int min2_int max_two min_two max_three min_three max_four min_four   -- for this text's walks alone
set_option linter.unusedVariables false
set_option linter.unusedSimpArgs false

/-! ### hash_right: function 31 -/
def hash_right.f (a0 : Int) (a1 : Int) : Option (Int) := (bits_RotateLeft32.f a0 (wrap64 (-a1))).bind fun t106 => (some t106)
set_option maxHeartbeats 8000000 in
set_option maxRecDepth 100000 in
theorem hash_right.calls (a0 : Int) (a1 : Int) (r : Int) (w : World) (h : hash_right.f a0 a1 = some r) :
    Calls Try.prog 31 #[.int .u32 a0, .int .i64 a1] w fun e w' => e = .returned (.int .u32 r) ∧ Drawn0 w w' := by
  have H : ((bits_RotateLeft32.f a0 (wrap64 (-a1))).bind fun t106 => (some t106)) = some r := h
  clear h
  replace H := Option.bind_eq_some_iff.mp H
  obtain ⟨t106, A30, H⟩ := H
  replace H : (some t106) = some r := H
  have A3 := Aside0.mk A30
  clear A30
  obtain rfl := Option.some.inj H
  go_enter Try.func31, Try.ntmps31
  go_wp2_with (first | ((with_reducible refine gate_callee (f := 39) rfl ?_); refine goesL_ (some 8) rfl rfl Try.func39 (by kernel_rfl) rfl #[.int .u32 a0, .int .i64 (wrap64 (-a1))] rfl (by (try simp only [List.map_toArray, List.map_cons, List.map_nil]); first | done | rfl | (simp only [List.length_drop, List.length_take]; rfl)) ?_; (with_reducible refine (bits_RotateLeft32.calls a0 (wrap64 (-a1)) t106 _ A3.out).mono ?_); rintro e w' ⟨rfl, ⟨nd, rfl⟩⟩; refine ⟨_, rfl, ?_⟩))
  go_ret
  exact ⟨by first | rfl | (simp; done) | (simp [*]; done), by repeat (first | exact Drawn0.refl _ | apply Drawn0.step)⟩

end Go.Proofs.Ythbljhmjppjcjaa.Z
end

section
/- hash.Sum at one block: the words, the rounds. -/
namespace Go.Proofs.Ythbljhmjppjcjaa.Z
open Go.RowKit Go.Proofs.YthbljhmjppjcjaaW.PrintWords Go.Proofs.YthbljhmjppjcjaaW.PrintLast Go.Proofs.YthbljhmjppjcjaaW.PrintMore
set_option linter.unusedVariables false
set_option linter.unusedSimpArgs false
def rot (x k : Int) : Int := (hash_right.f x k).getD 0
theorem rot_some (x k : Int) (h : decide (0 ≤ (Go.bits .and .u64 (IntKind.u64.wrap (wrap64 (-k))) 31)) && decide (0 ≤ (IntKind.u64.wrap (32 - (Go.bits .and .u64 (IntKind.u64.wrap (wrap64 (-k))) 31)))) = true) : hash_right.f x k = some (rot x k) := by
  simp only [Bool.and_eq_true, decide_eq_true_eq] at h
  unfold rot hash_right.f bits_RotateLeft32.f
  rw [if_pos h.1, if_pos h.2]
  rfl
set_option maxRecDepth 100000 in
theorem rotl_same (a0 a1 r : Int) (w : World) (h : bits_RotateLeft32.f a0 a1 = some r) :
    Calls Try.prog 39 #[.int .u32 a0, .int .i64 a1] w fun e w' => e = .returned (.int .u32 r) ∧ w' = w := by
  have H : (if 0 ≤ (Go.bits .and .u64 (IntKind.u64.wrap (a1)) 31) then (if 0 ≤ (IntKind.u64.wrap (32 - (Go.bits .and .u64 (IntKind.u64.wrap (a1)) 31))) then (some (Go.bits .or .u32 (shl .u32 a0 (Go.bits .and .u64 (IntKind.u64.wrap (a1)) 31)) (shr .u32 a0 (IntKind.u64.wrap (32 - (Go.bits .and .u64 (IntKind.u64.wrap (a1)) 31)))))) else (none)) else (none)) = some r := h
  clear h
  obtain ⟨ji3, hji3⟩ : ∃ j_ : Int, (Go.bits .and .u64 (IntKind.u64.wrap (a1)) 31) = j_ := ⟨_, rfl⟩
  simp only [hji3] at H
  by_cases c4 : 0 ≤ (ji3)
  · rw [if_pos c4] at H
    have c4b0 := eq_true c4
    have c4b1 : decide (0 ≤ (ji3)) = true := decide_eq_true c4
    clear c4
    obtain ⟨ji5, hji5⟩ : ∃ j_ : Int, (shl .u32 a0 (ji3)) = j_ := ⟨_, rfl⟩
    simp only [hji5] at H
    have hji5_ : (IntKind.u32.wrap (a0 * 2 ^ min (ji3).toNat 32)) = ji5 := hji5
    have hji5z : (ji3) ≤ 32 → (IntKind.u32.wrap (a0 * 2 ^ (ji3).toNat)) = ji5 := shl_small hji5
    obtain ⟨ji6, hji6⟩ : ∃ j_ : Int, (IntKind.u64.wrap (32 - (ji3))) = j_ := ⟨_, rfl⟩
    simp only [hji6] at H
    by_cases c7 : 0 ≤ (ji6)
    · rw [if_pos c7] at H
      have c7b0 := eq_true c7
      have c7b1 : decide (0 ≤ (ji6)) = true := decide_eq_true c7
      clear c7
      obtain ⟨ji8, hji8⟩ : ∃ j_ : Int, (shr .u32 a0 (ji6)) = j_ := ⟨_, rfl⟩
      simp only [hji8] at H
      have hji8_ : (a0 / 2 ^ min (ji6).toNat 32) = ji8 := hji8
      have hji8z : (ji6) ≤ 32 → (a0 / 2 ^ (ji6).toNat) = ji8 := shr_small hji8
      obtain rfl := Option.some.inj H
      go_enter Try.func39, Try.ntmps39
      go_wp2
      go_ret
      exact ⟨by first | rfl | (simp; done) | (simp only [← hji3, ← hji5, ← hji6, ← hji8] <;> (first | rfl | simp)) | (simp [*]; done), rfl⟩
    · rw [if_neg c7] at H
      exact absurd H (by simp)
  · rw [if_neg c4] at H
    exact absurd H (by simp)
set_option maxRecDepth 100000 in
theorem right_same (a0 a1 r : Int) (w : World) (h : hash_right.f a0 a1 = some r) :
    Calls Try.prog 31 #[.int .u32 a0, .int .i64 a1] w fun e w' => e = .returned (.int .u32 r) ∧ w' = w := by
  have H : ((bits_RotateLeft32.f a0 (wrap64 (-a1))).bind fun t106 => (some t106)) = some r := h
  clear h
  replace H := Option.bind_eq_some_iff.mp H
  obtain ⟨t106, A30, H⟩ := H
  have A3 := Aside0.mk A30
  clear A30
  obtain rfl := Option.some.inj H
  go_enter Try.func31, Try.ntmps31
  go_wp2_with (go_at_call 39; refine (rotl_same a0 (wrap64 (-a1)) t106 _ A3.out).mono ?_; rintro e w' ⟨rfl, rfl⟩)
  go_ret
  exact ⟨rfl, rfl⟩
/-- An array of 32-bit words in memory. -/
def ws (t : TypeId) (l : List Int) : Obj := .cells (l.map (fun x => Value.int .u32 x)).toArray t (0, 0)
theorem ws_cell {w : World} {g : Nat} {t : TypeId} {l : List Int} (h : w.heap[g]? = some (ws t l)) (i : Nat) (hi : i < l.length) : w.cell? ⟨g, i, none⟩ = some (.int .u32 (l.getD i 0)) := by
  rw [blk_cell h, List.getElem?_toArray, List.getElem?_map, List.getD_eq_getElem?_getD, List.getElem?_eq_getElem hi]
  rfl
theorem ws_set {w : World} {g : Nat} {t : TypeId} {l : List Int} (h : w.heap[g]? = some (ws t l)) (i : Nat) (x : Int) : (w.setCell ⟨g, i, none⟩ (.int .u32 x)).heap[g]? = some (ws t (l.set i x)) := by
  rw [blk_set h]
  congr 2
  simp [ws]
theorem Step.ws {g : Nat} {w w1 : World} {t : TypeId} {l : List Int} (h : Step g w w1 (ws t l)) (i : Nat) (x : Int) : Step g w (w1.setCell ⟨g, i, none⟩ (.int .u32 x)) (ws t (l.set i x)) :=
  ⟨ws_set h.1 i x, h.2.1.set_ i _, fun B hB => (h.2.2 B hB).setCell (p := ⟨g, i, none⟩) hB _⟩
theorem ws_info {p : Option Nat} {n : Nat} {l : List Int} (h : p = some n) (hl : l.length = n) : p = some (l.map (fun x => Value.int .u32 x)).toArray.size := by
  rw [h]
  simp [hl]
theorem ws_one (l : List Int) : ((l.map (fun x => Value.int .u32 x)).toArray).all (·.oneCell') = true := by
  simp [Value.oneCell']
def rd (l : List Int) (i : Int) : Int := l.getD i.toNat 0
def wv (s : ByteArray) (t i x : Int) : Int := Go.bits .or .u32 (IntKind.u32.wrap (x * 256)) (IntKind.u32.wrap (bt s (4 * t + i)))
def winner (s : ByteArray) (t : Int) : Nat → Int → List Int → List Int
  | 0, _, l => l
  | d + 1, i, l => winner s t d (i + 1) (l.set t.toNat (wv s t i (rd l t)))
def wouter (s : ByteArray) : Nat → Int → List Int → List Int
  | 0, _, l => l
  | d + 1, t, l => wouter s d (t + 1) (winner s t 4 0 l)
def wnew (l : List Int) (a b c d : Int) : Int := (rd l a + rd l b + Go.bits .xor .u32 (Go.bits .xor .u32 (rot (rd l c) 7) (rot (rd l c) 18)) (rd l c / 8) + Go.bits .xor .u32 (Go.bits .xor .u32 (rot (rd l d) 17) (rot (rd l d) 19)) (rd l d / 1024)) % 4294967296
def wext : Nat → Int → List Int → List Int
  | 0, _, l => l
  | d + 1, t, l => wext d (t + 1) (l.set t.toNat (wnew l (t - 16) (t - 7) (t - 15) (t - 2)))
def wordsF (s : ByteArray) : List Int := wext 48 16 (wouter s 16 0 (List.replicate 64 0))
theorem winner_len (s : ByteArray) (t : Int) : ∀ d i l, (winner s t d i l).length = l.length
  | 0, _, _ => rfl
  | d + 1, i, l => by rw [winner, winner_len s t d]; simp
theorem ws_at {w : World} {g : Nat} {t : TypeId} {l : List Int} (h : w.heap[g]? = some (ws t l)) (i : Int) (h0 : 0 ≤ i) (hi : i < l.length) : w.cell? ⟨g, i.toNat, none⟩ = some (.int .u32 (rd l i)) := ws_cell h i.toNat (by omega)
set_option maxRecDepth 100000 in
set_option maxHeartbeats 3200000 in
theorem words_calls (s : ByteArray) (hs : s.size = 64) (w : World) :
    Calls Try.prog 30 #[.string s] w fun e w' => e = .returned (.agg ((wordsF s).map (fun x => Value.int .u32 x)).toArray) ∧ Below w.heap.size w w' := by
  have HA := Aside0.mk hs
  clear hs
  go_enter Try.func30, Try.ntmps30
  go_wp2_with ((with_reducible refine gate_dst (N := 2) rfl ?_); refine box_event ?hg (N := 2) ?hd (cs := ((List.replicate 64 (0 : Int)).map (fun x => Value.int .u32 x)).toArray) (t := 92) ?hr ?_; (case hd => rfl); (case hg => rfl); (case hr => first | (go_simp; done) | (go_simp; rfl)); intro g hg w1 hx hb; have BX := Aside0.mk (show w1.heap[g]? = some (ws 92 (List.replicate 64 0)) from hx); have BB := Aside0.mk hb; have GG := Aside0.mk (show w.heap.size ≤ g by omega); clear hx hb hg)
  go_loopw [8] (fun i wr => ∃ (x : Int) (l : List Int), i = .int .i64 x ∧ Aside0 (0 ≤ x ∧ x ≤ 16) ∧ Aside0 (Below w.heap.size w wr ∧ wr.heap[g]? = some (ws 92 l) ∧ l.length = 64) ∧ Aside0 (wouter s (16 - x.toNat) x l = wouter s 16 0 (List.replicate 64 0))) (fun i _ => 16 - (intOf i).toNat)
  case atStart => exact ⟨0, _, rfl, ⟨by omega⟩, ⟨BB.out, BX.out, by simp⟩, ⟨rfl⟩⟩
  case round =>
    obtain ⟨x, l, rfl, HX, HS, HF⟩ := hrel
    obtain ⟨hx0, hx1⟩ := HX.out
    have hsz := HA.out
    by_cases hlt : x < 16
    · have hlt2 : decide (x < 16) = true := decide_eq_true hlt
      have L := Aside0.mk hlt
      clear hlt hsz hx0 hx1 BX BB
      go_wp2
      go_loopw [11] (fun i wr => ∃ (y : Int) (l' : List Int), i = .int .i64 y ∧ Aside0 (0 ≤ y ∧ y ≤ 4) ∧ Aside0 (Below w.heap.size w wr ∧ wr.heap[g]? = some (ws 92 l') ∧ l'.length = 64) ∧ Aside0 (winner s x (4 - y.toNat) y l' = winner s x 4 0 l)) (fun i _ => 4 - (intOf i).toNat)
      case atStart => exact ⟨0, _, rfl, ⟨by omega⟩, HS, ⟨rfl⟩⟩
      case round =>
        obtain ⟨y, l', rfl, HY, HT, HG⟩ := hrel
        obtain ⟨hy0, hy1⟩ := HY.out
        have hx := HX.out
        have hsz := HA.out
        have hl := L.out
        have hll := HT.out.2.2
        by_cases hly : y < 4
        · have hly2 : decide (y < 4) = true := decide_eq_true hly
          have q0 : ((0 : Int) ≤ x) = True := eq_true (by omega)
          have q1 : (x < (64 : Int)) = True := eq_true (by omega)
          have e0 : IntKind.i64.wrap (4 * x) = 4 * x := by rw [IntKind.wrap_i64]; omega
          have e1 : IntKind.i64.wrap (4 * x + y) = 4 * x + y := by rw [IntKind.wrap_i64]; omega
          have ew : wrap64 (y + 1) = y + 1 := by unfold wrap64; omega
          have q2 : ((0 : Int) ≤ 4 * x + y) = True := eq_true (by omega)
          have q3 : (4 * x + y < (s.size : Int)) = True := eq_true (by omega)
          have hbt := bt_at s (4 * x + y)
          have hF : winner s x (4 - (y + 1).toNat) (y + 1) (l'.set x.toNat (wv s x y (rd l' x))) = winner s x 4 0 l := by
            have h := HG.out
            rw [show 4 - y.toNat = (4 - (y + 1).toNat) + 1 by omega, winner] at h
            exact h
          have HF' := Aside0.mk hF
          have EW := Aside0.mk ew
          have LY := Aside0.mk hly
          have HD := Aside0.mk (show Below w.heap.size w wr.drew ∧ wr.drew.heap[g]? = some (ws 92 l') ∧ l'.length = 64 from ⟨below_drew1 HT.out.1, blk_drew HT.out.2.1, HT.out.2.2⟩)
          have k0 := ws_at HT.out.2.1 x (by omega) (by omega)
          clear hF hx hsz hl hll hly ew hy0 hy1
          go_wp2
          go_still_tail 14, (by kernel_rfl)
          change wpList _ _ _ _ _ wr.drew
          obtain ⟨wd, hwd⟩ : ∃ wd, wd = wr.drew := ⟨_, rfl⟩
          rw [← hwd] at HD ⊢
          have k1 := ws_at HD.out.2.1 x (of_eq_true q0) (by have := HD.out.2.2; have := of_eq_true q1; omega)
          have y1 : wd.frozen? ⟨g, x.toNat, none⟩ = false := blk_frozen HD.out.2.1 _
          clear hwd k0
          go_wp2
          have hl := LY.out
          have hy := HY.out
          go_roundw
          case rel => exact ⟨y + 1, _, by rw [EW.out], ⟨by omega⟩, ⟨HD.out.1.setCell (p := ⟨g, x.toNat, none⟩) GG.out _, ws_set HD.out.2.1 _ _, by rw [List.length_set]; exact HD.out.2.2⟩, HF'⟩
          case measure =>
            simp [EW.out, intOf]
            omega
        · have hge : decide (y < 4) = false := decide_eq_false hly
          have hF := HG.out
          rw [show 4 - y.toNat = 0 by omega, winner] at hF
          have hF2 := HF.out
          rw [show 16 - x.toNat = (16 - (x + 1).toNat) + 1 by omega, wouter, ← hF] at hF2
          have HF' := Aside0.mk hF2
          have ew : wrap64 (x + 1) = x + 1 := by unfold wrap64; omega
          have EW := Aside0.mk ew
          clear hx hsz hl hll hly hy0 hy1 hF hF2 ew
          go_wp2
          have hl := L.out
          have hx := HX.out
          go_roundw
          case rel => exact ⟨x + 1, _, by rw [EW.out], ⟨by omega⟩, HT, HF'⟩
          case measure =>
            simp [EW.out, intOf]
            omega
    · have hge : decide (x < 16) = false := decide_eq_false hlt
      have hF := HF.out
      rw [show 16 - x.toNat = 0 by omega, wouter] at hF
      obtain ⟨L0, hL0⟩ : ∃ L0, L0 = wouter s 16 0 (List.replicate 64 0) := ⟨_, rfl⟩
      rw [← hL0] at hF
      have HL0 := Aside0.mk hL0
      subst hF
      clear hx0 hx1 hlt hsz hL0 HF BX BB
      go_wp2
      go_loopw [5] (fun i wr => ∃ (y : Int) (l' : List Int), i = .int .i64 y ∧ Aside0 (16 ≤ y ∧ y ≤ 64) ∧ Aside0 (Below w.heap.size w wr ∧ wr.heap[g]? = some (ws 92 l') ∧ l'.length = 64) ∧ Aside0 (wext (64 - y.toNat) y l' = wext 48 16 l)) (fun i _ => 64 - (intOf i).toNat)
      case atStart => exact ⟨16, _, rfl, ⟨by omega⟩, HS, ⟨rfl⟩⟩
      case round =>
        obtain ⟨y, l', rfl, HY, HT, HG⟩ := hrel
        obtain ⟨hy0, hy1⟩ := HY.out
        have hll := HT.out.2.2
        by_cases hly : y < 64
        · have hly2 : decide (y < 64) = true := decide_eq_true hly
          have q0 : ((0 : Int) ≤ y) = True := eq_true (by omega)
          have q1 : (y < (64 : Int)) = True := eq_true (by omega)
          obtain ⟨j15, hj15⟩ : ∃ j, j = y - 15 := ⟨_, rfl⟩
          have e15 : IntKind.i64.wrap (y - 15) = j15 := by rw [IntKind.wrap_i64]; omega
          have a15 : ((0 : Int) ≤ j15) = True := eq_true (by omega)
          have b15 : (j15 < (64 : Int)) = True := eq_true (by omega)
          have k15 := ws_at HT.out.2.1 j15 (by omega) (by omega)
          obtain ⟨j2, hj2⟩ : ∃ j, j = y - 2 := ⟨_, rfl⟩
          have e2 : IntKind.i64.wrap (y - 2) = j2 := by rw [IntKind.wrap_i64]; omega
          have a2 : ((0 : Int) ≤ j2) = True := eq_true (by omega)
          have b2 : (j2 < (64 : Int)) = True := eq_true (by omega)
          have k2 := ws_at HT.out.2.1 j2 (by omega) (by omega)
          obtain ⟨j16, hj16⟩ : ∃ j, j = y - 16 := ⟨_, rfl⟩
          have e16 : IntKind.i64.wrap (y - 16) = j16 := by rw [IntKind.wrap_i64]; omega
          have a16 : ((0 : Int) ≤ j16) = True := eq_true (by omega)
          have b16 : (j16 < (64 : Int)) = True := eq_true (by omega)
          have k16 := ws_at HT.out.2.1 j16 (by omega) (by omega)
          obtain ⟨j7, hj7⟩ : ∃ j, j = y - 7 := ⟨_, rfl⟩
          have e7 : IntKind.i64.wrap (y - 7) = j7 := by rw [IntKind.wrap_i64]; omega
          have a7 : ((0 : Int) ≤ j7) = True := eq_true (by omega)
          have b7 : (j7 < (64 : Int)) = True := eq_true (by omega)
          have k7 := ws_at HT.out.2.1 j7 (by omega) (by omega)
          have ew : wrap64 (y + 1) = y + 1 := by unfold wrap64; omega
          have EW := Aside0.mk ew
          have LY := Aside0.mk hly
          have hF := HG.out
          rw [show 64 - y.toNat = (64 - (y + 1).toNat) + 1 by omega, wext, ← hj16, ← hj7, ← hj15, ← hj2] at hF
          have HF' := Aside0.mk hF
          clear hy0 hy1 hll hly ew hj16 hj7 hj15 hj2 hF
          go_wp2
          go_still (by kernel_rfl)
          change Exit.then _ _ _ _ wr.drew
          have HD := Aside0.mk (show Below w.heap.size w wr.drew ∧ wr.drew.heap[g]? = some (ws 92 l') ∧ l'.length = 64 from ⟨below_drew1 HT.out.1, blk_drew HT.out.2.1, HT.out.2.2⟩)
          obtain ⟨wd, hwd⟩ : ∃ wd, wd = wr.drew := ⟨_, rfl⟩
          rw [← hwd] at HD ⊢
          clear hwd k15 k2 k16 k7
          have k16 := ws_at HD.out.2.1 j16 (of_eq_true a16) (by have := HD.out.2.2; have := of_eq_true b16; omega)
          have k7 := ws_at HD.out.2.1 j7 (of_eq_true a7) (by have := HD.out.2.2; have := of_eq_true b7; omega)
          go_wp2
          go_still_tail 29, (by kernel_rfl)
          still_call (right_same _ 7 _ _ (rot_some _ 7 (by kernel_rfl)))
          repeat still_step
          still_call (right_same _ 18 _ _ (rot_some _ 18 (by kernel_rfl)))
          repeat still_step
          still_call (right_same _ 17 _ _ (rot_some _ 17 (by kernel_rfl)))
          repeat still_step
          still_call (right_same _ 19 _ _ (rot_some _ 19 (by kernel_rfl)))
          repeat still_step
          refine wpStill_nil ?_
          change wpList _ _ _ _ _ wd.drew
          have HE := Aside0.mk (show Below w.heap.size w wd.drew ∧ wd.drew.heap[g]? = some (ws 92 l') ∧ l'.length = 64 from ⟨below_drew1 HD.out.1, blk_drew HD.out.2.1, HD.out.2.2⟩)
          obtain ⟨we, hwe⟩ : ∃ we, we = wd.drew := ⟨_, rfl⟩
          rw [← hwe] at HE ⊢
          clear hwe k16 k7
          have k1 := ws_at HE.out.2.1 y (of_eq_true q0) (by have := HE.out.2.2; have := of_eq_true q1; omega)
          have y1 : we.frozen? ⟨g, y.toNat, none⟩ = false := blk_frozen HE.out.2.1 _
          go_wp2
          have hl := LY.out
          have hy := HY.out
          go_roundw
          case rel => exact ⟨y + 1, _, by rw [EW.out], ⟨by omega⟩, ⟨HE.out.1.setCell (p := ⟨g, y.toNat, none⟩) GG.out _, ws_set HE.out.2.1 _ _, by rw [List.length_set]; exact HE.out.2.2⟩, HF'⟩
          case measure =>
            simp [EW.out, intOf]
            omega
        · have hge : decide (y < 64) = false := decide_eq_false hly
          have hF := HG.out
          rw [show 64 - y.toNat = 0 by omega, wext] at hF
          have HF' := Aside0.mk hF
          have HI := Aside0.mk (ws_info (l := l') (by kernel_rfl : (Try.prog.info? 92).map (·.size) = some 64) hll)
          clear hF hy0 hy1 hll hly
          go_wp2_with (first
            | ((with_reducible refine gate_dst (N := 71) rfl ?_); refine wpList_load_row rfl 92 _ rfl g rfl 92 _ (0, 0) _ HT.out.2.1 Try.underlying92 rfl HI.out ?_)
            | (refine wpList_store_row rfl 92 _ _ rfl g _ rfl rfl 92 _ HT.out.2.1 HI.out rfl (ws_one l') ?_))
          (try simp only [Exit.inBlock, Exit.then])
          refine bodyPost_ret (results_cell_row rfl _ _ g 92 _ (0, 0) _ rfl (setRow_heap _ g _ _ 92 (0, 0) HT.out.2.1) Try.underlying92 rfl HI.out) rfl ?_
          exact ⟨by rw [HF'.out, HL0.out]; rfl, below_setRow HT.out.1 GG.out _⟩
end Go.Proofs.Ythbljhmjppjcjaa.Z
end

section
/- hash.state.take: one block's rounds. -/
namespace Go.Proofs.Ythbljhmjppjcjaa.Z
open Go.RowKit Go.Proofs.YthbljhmjppjcjaaW.PrintWords Go.Proofs.YthbljhmjppjcjaaW.PrintLast Go.Proofs.YthbljhmjppjcjaaW.PrintMore
set_option linter.unusedVariables false
set_option linter.unusedSimpArgs false
theorem wordsF_len (s : ByteArray) : (wordsF s).length = 64 := by
  have h1 : ∀ d t l, (wouter s d t l).length = l.length := by
    intro d
    induction d with
    | zero => intro t l; rfl
    | succ d ih => intro t l; rw [wouter, ih, winner_len]
  have h2 : ∀ d t l, (wext d t l).length = l.length := by
    intro d
    induction d with
    | zero => intro t l; rfl
    | succ d ih => intro t l; rw [wext, ih, List.length_set]
  rw [wordsF, h2, h1]
  rfl
theorem agg_at {l : List Int} {V : Array Value} (h : V = (l.map (fun x => Value.int .u32 x)).toArray) (i : Int) (h0 : 0 ≤ i) (hi : i < l.length) : V[i.toNat]? = some (.int .u32 (rd l i)) := by
  subst h
  rw [List.getElem?_toArray, List.getElem?_map, rd, List.getD_eq_getElem?_getD, List.getElem?_eq_getElem (show i.toNat < l.length by omega)]
  rfl
theorem index_words {V : Array Value} {x v : Int} (h0 : 0 ≤ x) (h1 : x < 64) (hV : V[x.toNat]? = some (.int .u32 v)) (W : World) : (Instr.index 92 (.agg V) (.int .i64 x)).run Try.prog W = .ok (.int .u32 v) W := by
  have hs : (Try.prog.info? 22).map (·.size) = some 1 := by kernel_rfl
  cases hq : Try.prog.info? 22 with
  | none => simp [hq] at hs
  | some i =>
    have hi : i.size = 1 := by simpa [hq] using hs
    simp [Instr.index, asIntOf, run_underlying Try.underlying92, go_sem, h0, h1, sizeOf, typeInfo, hq, hi, Sem.run_bind]
    rw [hV]
    rfl
theorem index_eight {V : Array Value} {x v : Int} (h0 : 0 ≤ x) (h1 : x < 8) (hV : V[x.toNat]? = some (.int .u32 v)) (W : World) : (Instr.index 76 (.agg V) (.int .i64 x)).run Try.prog W = .ok (.int .u32 v) W := by
  have hs : (Try.prog.info? 22).map (·.size) = some 1 := by kernel_rfl
  cases hq : Try.prog.info? 22 with
  | none => simp [hq] at hs
  | some i =>
    have hi : i.size = 1 := by simpa [hq] using hs
    simp [Instr.index, asIntOf, run_underlying Try.underlying76, go_sem, h0, h1, sizeOf, typeInfo, hq, hi, Sem.run_bind]
    rw [hV]
    rfl
theorem below_le {A B : Nat} {w w' : World} (h : Below A w w') (hle : B ≤ A) : Below B w w' := ⟨h.os, h.tape, h.output, h.size, fun k hk => h.block k (by omega)⟩
theorem Step.below {g : Nat} {w w1 w2 : World} {o : Obj} (h : Step g w w1 o) (hb : Below w1.heap.size w1 w2) : Step g w w2 o := by
  have hg : g < w1.heap.size := blk_lt h.1
  exact h.trans ⟨blk_below h.1 hb, ⟨hb.size, fun k hk _ _ => hb.block k hk⟩, fun B hB => below_le hb (by omega)⟩
def T1 (K W : List Int) (x e f g z : Int) : Int := IntKind.u32.wrap (IntKind.u32.wrap (IntKind.u32.wrap (IntKind.u32.wrap (z + Go.bits .xor .u32 (Go.bits .xor .u32 (rot e 6) (rot e 11)) (rot e 25)) + Go.bits .xor .u32 g (Go.bits .and .u32 e (Go.bits .xor .u32 f g))) + rd K x) + rd W x)
def T2 (a b c : Int) : Int := (Go.bits .xor .u32 (Go.bits .xor .u32 (rot a 2) (rot a 13)) (rot a 22) + Go.bits .or .u32 (Go.bits .and .u32 a b) (Go.bits .and .u32 c (Go.bits .or .u32 a b))) % 4294967296
structure Sha where (a b c d e f g z : Int)
def rounds (K W : List Int) : Nat → Int → Sha → Sha
  | 0, _, s => s
  | n + 1, x, s => rounds K W n (x + 1) ⟨(T1 K W x s.e s.f s.g s.z + T2 s.a s.b s.c) % 4294967296, s.a, s.b, s.c, (s.d + T1 K W x s.e s.f s.g s.z) % 4294967296, s.e, s.f, s.g⟩
def addF (v : List Int) : Nat → Int → List Int → List Int
  | 0, _, l => l
  | n + 1, x, l => addF v n (x + 1) (l.set x.toNat ((rd l x + rd v x) % 4294967296))
def Sha.list (s : Sha) : List Int := [s.a, s.b, s.c, s.d, s.e, s.f, s.g, s.z]
set_option maxRecDepth 100000 in
set_option maxHeartbeats 6400000 in
theorem take_calls (s : ByteArray) (hs : s.size = 64) (gh gk : Nat) (K : List Int) (hK : K.length = 64) (a0 a1 a2 a3 a4 a5 a6 a7 : Int) (w : World) (hh : w.heap[gh]? = some (ws 77 [a0, a1, a2, a3, a4, a5, a6, a7])) (hk : w.heap[gk]? = some (ws 92 K)) :
    Calls Try.prog 20 #[.pointer (some ⟨gh, 0, none⟩), .string s, .pointer (some ⟨gk, 0, none⟩)] w fun e w' => e = .returned (.tuple #[]) ∧ Step gh w w' (ws 77 (addF (rounds K (wordsF s) 64 0 ⟨a0, a1, a2, a3, a4, a5, a6, a7⟩).list 8 0 [a0, a1, a2, a3, a4, a5, a6, a7])) := by
  have HA := Aside0.mk hs
  have HKL := Aside0.mk hK
  have NE := Aside0.mk (show gk ≠ gh by
    intro e
    subst e
    have := hh.symm.trans hk
    simp [ws] at this)
  have HH := Aside0.mk (Step.refl hh)
  have HK := Aside0.mk hk
  have r0 : w.cell? ⟨gh, 0, none⟩ = some (.int .u32 a0) := (blk_cell hh 0).trans rfl
  have r1 : w.cell? ⟨gh, 1, none⟩ = some (.int .u32 a1) := (blk_cell hh 1).trans rfl
  have r2 : w.cell? ⟨gh, 2, none⟩ = some (.int .u32 a2) := (blk_cell hh 2).trans rfl
  have r3 : w.cell? ⟨gh, 3, none⟩ = some (.int .u32 a3) := (blk_cell hh 3).trans rfl
  have r4 : w.cell? ⟨gh, 4, none⟩ = some (.int .u32 a4) := (blk_cell hh 4).trans rfl
  have r5 : w.cell? ⟨gh, 5, none⟩ = some (.int .u32 a5) := (blk_cell hh 5).trans rfl
  have r6 : w.cell? ⟨gh, 6, none⟩ = some (.int .u32 a6) := (blk_cell hh 6).trans rfl
  have r7 : w.cell? ⟨gh, 7, none⟩ = some (.int .u32 a7) := (blk_cell hh 7).trans rfl
  clear hs hK hh hk
  go_enter Try.func20, Try.ntmps20
  go_wp2
  refine wp_region_still_lit (by kernel_rfl) (by kernel_rfl) ?_
  repeat still_step
  refine wpStill_nil ?_
  change Exit.then _ _ _ _ w.drew
  have HD := Aside0.mk (And.intro HH.out.drew (blk_drew HK.out))
  obtain ⟨wd, hwd⟩ : ∃ wd, wd = w.drew := ⟨_, rfl⟩
  rw [← hwd] at HD ⊢
  clear hwd r0 r1 r2 r3 r4 r5 r6 r7
  go_wp2_with (go_at_call 30; refine (words_calls s HA.out _).mono ?_; rintro e w2 ⟨rfl, hb⟩; have H2 := Aside0.mk (And.intro (HD.out.1.below hb) (blk_below HD.out.2 hb)); obtain ⟨V, hV⟩ : ∃ V : Array Value, V = ((wordsF s).map (fun x => Value.int .u32 x)).toArray := ⟨_, rfl⟩; rw [← hV]; have HV := Aside0.mk hV; clear hb hV)
  go_loopw [6, 7, 8, 9, 10, 11, 12, 13, 54] (fun va vb vc vd ve vf vg vz i wr => ∃ (x a b c d e f g z : Int), i = .int .i64 x ∧ va = .int .u32 a ∧ vb = .int .u32 b ∧ vc = .int .u32 c ∧ vd = .int .u32 d ∧ ve = .int .u32 e ∧ vf = .int .u32 f ∧ vg = .int .u32 g ∧ vz = .int .u32 z ∧ Aside0 (0 ≤ x ∧ x ≤ 64) ∧ Aside0 (Step gh w wr (ws 77 [a0, a1, a2, a3, a4, a5, a6, a7]) ∧ wr.heap[gk]? = some (ws 92 K)) ∧ Aside0 (rounds K (wordsF s) (64 - x.toNat) x ⟨a, b, c, d, e, f, g, z⟩ = rounds K (wordsF s) 64 0 ⟨a0, a1, a2, a3, a4, a5, a6, a7⟩)) (fun _ _ _ _ _ _ _ _ i _ => 64 - (intOf i).toNat)
  case atStart => exact ⟨0, _, _, _, _, _, _, _, _, rfl, rfl, rfl, rfl, rfl, rfl, rfl, rfl, rfl, ⟨by omega⟩, H2, ⟨rfl⟩⟩
  case round =>
    obtain ⟨x, a, b, c, d, e, f, g, z, rfl, rfl, rfl, rfl, rfl, rfl, rfl, rfl, rfl, HX, HS, HF⟩ := hrel
    obtain ⟨hx0, hx1⟩ := HX.out
    by_cases hlt : x < 64
    · have hlt2 : decide (x < 64) = true := decide_eq_true hlt
      have q0 : ((0 : Int) ≤ x) = True := eq_true hx0
      have q1 : (x < (64 : Int)) = True := eq_true hlt
      have q2 := agg_at HV.out x hx0 (by rw [wordsF_len]; exact hlt)
      have k0 := ws_at HS.out.2 x hx0 (by rw [HKL.out]; exact hlt)
      have ix := index_words hx0 hlt q2
      have L := Aside0.mk hlt
      have hF := HF.out
      rw [show 64 - x.toNat = (64 - (x + 1).toNat) + 1 by omega, rounds] at hF
      have HF' := Aside0.mk hF
      have ew : wrap64 (x + 1) = x + 1 := by unfold wrap64; omega
      have EW := Aside0.mk ew
      clear hlt hx0 hx1 hF ew
      go_wp2
      refine wp_region_still_lit (by kernel_rfl) (by kernel_rfl) ?_
      repeat still_step
      still_call (right_same _ 6 _ _ (rot_some _ 6 (by kernel_rfl)))
      repeat still_step
      still_call (right_same _ 11 _ _ (rot_some _ 11 (by kernel_rfl)))
      repeat still_step
      still_call (right_same _ 25 _ _ (rot_some _ 25 (by kernel_rfl)))
      repeat still_step
      refine wpStill_nil ?_
      change Exit.then _ _ _ _ wr.drew
      have HE := Aside0.mk (And.intro HS.out.1.drew (blk_drew HS.out.2))
      obtain ⟨we, hwe⟩ : ∃ we, we = wr.drew := ⟨_, rfl⟩
      rw [← hwe] at HE ⊢
      obtain ⟨t1, ht1⟩ : ∃ t1, t1 = T1 K (wordsF s) x e f g z := ⟨_, rfl⟩
      have ht1' := ht1
      unfold T1 at ht1'
      rw [← ht1']
      have HT1 := Aside0.mk ht1
      clear hwe k0 ix q2 ht1 ht1'
      go_wp2_with (first
        | (go_at_call 31; with_reducible refine (right_same _ 2 _ _ (rot_some _ 2 (by kernel_rfl))).mono ?_; rintro e w' ⟨rfl, rfl⟩)
        | (go_at_call 31; with_reducible refine (right_same _ 13 _ _ (rot_some _ 13 (by kernel_rfl))).mono ?_; rintro e w' ⟨rfl, rfl⟩)
        | (go_at_call 31; with_reducible refine (right_same _ 22 _ _ (rot_some _ 22 (by kernel_rfl))).mono ?_; rintro e w' ⟨rfl, rfl⟩))
      have hl := L.out
      have hx := HX.out
      have hF := HF'.out
      simp only [← HT1.out] at hF
      go_roundw
      case rel => exact ⟨x + 1, _, _, _, _, _, _, _, _, by rw [EW.out], rfl, rfl, rfl, rfl, rfl, rfl, rfl, rfl, ⟨by omega⟩, HE, ⟨hF⟩⟩
      case measure =>
        simp [EW.out, intOf]
        omega
    · have hge : decide (x < 64) = false := decide_eq_false hlt
      have hF := HF.out
      rw [show 64 - x.toNat = 0 by omega, rounds] at hF
      have HF2 := Aside0.mk hF
      clear hlt hx0 hx1 hF HF
      go_wp2
      go_loopw [124] (fun i wr => ∃ (y : Int) (l : List Int), i = .int .i64 y ∧ Aside0 (0 ≤ y ∧ y ≤ 8) ∧ Aside0 (Step gh w wr (ws 77 l) ∧ l.length = 8) ∧ Aside0 (addF (Sha.list ⟨a, b, c, d, e, f, g, z⟩) (8 - y.toNat) y l = addF (Sha.list ⟨a, b, c, d, e, f, g, z⟩) 8 0 [a0, a1, a2, a3, a4, a5, a6, a7])) (fun i _ => 8 - (intOf i).toNat)
      case atStart => exact ⟨0, _, rfl, ⟨by omega⟩, ⟨HS.out.1, rfl⟩, ⟨rfl⟩⟩
      case round =>
        obtain ⟨y, l, rfl, HY, HT, HG⟩ := hrel
        obtain ⟨hy0, hy1⟩ := HY.out
        have hll := HT.out.2
        by_cases hly : y < 8
        · have hly2 : decide (y < 8) = true := decide_eq_true hly
          have q0 : ((0 : Int) ≤ y) = True := eq_true hy0
          have q1 : (y < (8 : Int)) = True := eq_true hly
          have q2 := agg_at (V := #[.int .u32 a, .int .u32 b, .int .u32 c, .int .u32 d, .int .u32 e, .int .u32 f, .int .u32 g, .int .u32 z]) (l := Sha.list ⟨a, b, c, d, e, f, g, z⟩) rfl y hy0 hly
          have ix := index_eight hy0 hly q2
          have hG := HG.out
          rw [show 8 - y.toNat = (8 - (y + 1).toNat) + 1 by omega, addF] at hG
          obtain ⟨X, hX⟩ : ∃ X, X = rd (Sha.list ⟨a, b, c, d, e, f, g, z⟩) y := ⟨_, rfl⟩
          rw [← hX] at ix hG
          have HG' := Aside0.mk hG
          have k0 := ws_at HT.out.1.1 y hy0 (by rw [hll]; exact hly)
          have LY := Aside0.mk hly
          have ew : wrap64 (y + 1) = y + 1 := by unfold wrap64; omega
          have EW := Aside0.mk ew
          clear hly hy0 hy1 hG ew q2 hX hll
          go_wp2
          go_still_tail 9, (by kernel_rfl)
          change wpList _ _ _ _ _ wr.drew
          have HE := Aside0.mk HT.out.1.drew
          obtain ⟨we, hwe⟩ : ∃ we, we = wr.drew := ⟨_, rfl⟩
          rw [← hwe] at HE ⊢
          have k1 := ws_at HE.out.1 y (of_eq_true q0) (by rw [HT.out.2]; exact of_eq_true q1)
          have y1 : we.frozen? ⟨gh, y.toNat, none⟩ = false := blk_frozen HE.out.1 _
          clear hwe k0
          go_wp2
          have hl := LY.out
          have hy := HY.out
          go_roundw
          case rel => exact ⟨y + 1, _, by rw [EW.out], ⟨by omega⟩, ⟨HE.out.ws _ _, by rw [List.length_set]; exact HT.out.2⟩, HG'⟩
          case measure =>
            simp [EW.out, intOf]
            omega
        · have hge : decide (y < 8) = false := decide_eq_false hly
          have hG := HG.out
          rw [show 8 - y.toNat = 0 by omega, addF] at hG
          clear hly hy0 hy1 hll HG
          go_wp2
          go_end0
          exact ⟨rfl, by rw [← HF2.out, ← hG]; exact HT.out.1⟩
def sK : List Int := [1116352408, 1899447441, 3049323471, 3921009573, 961987163, 1508970993, 2453635748, 2870763221, 3624381080, 310598401, 607225278, 1426881987, 1925078388, 2162078206, 2614888103, 3248222580, 3835390401, 4022224774, 264347078, 604807628, 770255983, 1249150122, 1555081692, 1996064986, 2554220882, 2821834349, 2952996808, 3210313671, 3336571891, 3584528711, 113926993, 338241895, 666307205, 773529912, 1294757372, 1396182291, 1695183700, 1986661051, 2177026350, 2456956037, 2730485921, 2820302411, 3259730800, 3345764771, 3516065817, 3600352804, 4094571909, 275423344, 430227734, 506948616, 659060556, 883997877, 958139571, 1322822218, 1537002063, 1747873779, 1955562222, 2024104815, 2227730452, 2361852424, 2428436474, 2756734187, 3204031479, 3329325298]
def sIV : List Int := [1779033703, 3144134277, 1013904242, 2773480762, 1359893119, 2600822924, 528734635, 1541459225]
/-- One block: "abc", as it is filled up. -/
def blk1 : ByteArray := ⟨#[97, 98, 99, 128, 0, 0, 0, 0, 0, 0, 0, 0, 0, 0, 0, 0, 0, 0, 0, 0, 0, 0, 0, 0, 0, 0, 0, 0, 0, 0, 0, 0, 0, 0, 0, 0, 0, 0, 0, 0, 0, 0, 0, 0, 0, 0, 0, 0, 0, 0, 0, 0, 0, 0, 0, 0, 0, 0, 0, 0, 0, 0, 0, 24]⟩
theorem sha_abc : addF (rounds sK (wordsF blk1) 64 0 ⟨1779033703, 3144134277, 1013904242, 2773480762, 1359893119, 2600822924, 528734635, 1541459225⟩).list 8 0 sIV = [3128432319, 2399260650, 1094795486, 1571693091, 2953011619, 2518121116, 3021012833, 4060091821] := by kernel_rfl
end Go.Proofs.Ythbljhmjppjcjaa.Z
end

section
-- Printed by a program of this session (mp.py) out of the translation.
namespace Go.Proofs.Ythbljhmjppjcjaa.Z
open Go.RowKit Go.Proofs.YthbljhmjppjcjaaW.PrintWords Go.Proofs.YthbljhmjppjcjaaW.PrintLast Go.Proofs.YthbljhmjppjcjaaW.PrintMore
attribute [local go_sem] max2_int min2_int max_two min_two max_three min_three max_four min_four   -- for this text's walks alone
set_option linter.unusedVariables false
set_option linter.unusedSimpArgs false

/-! ### hash_tail: function 21 -/
def hash_tail.l0 : Nat → Int → List Int → Int → Option (ByteArray)
  | 0, _, _, _ => none
  | k + 1, x0, x4, x16 => if x16 < 8 then (if 0 ≤ (wrap64 (8 * x16)) then (if 0 ≤ (wrap64 ((wrap64 ((x4.length : Int) - 1)) - x16)) then (if (wrap64 ((wrap64 ((x4.length : Int) - 1)) - x16)) < (x4.length : Int) then (hash_tail.l0 k x0 (x4.set ((wrap64 ((wrap64 ((x4.length : Int) - 1)) - x16)) : Int).toNat ((shr .u64 (IntKind.u64.wrap ((IntKind.u64.wrap (x0)) * 8)) (wrap64 (8 * x16))) % 256)) (wrap64 (x16 + 1))) else (none)) else (none)) else (none)) else (some (strOfNums x4))
def hash_tail.f (k : Nat) (a0 : Int) : Option (ByteArray) := if 0 ≤ (wrap64 ((wrap64 (1 + (Int.tmod (wrap64 (119 - (Int.tmod a0 64))) 64))) + 8)) then (if (wrap64 ((wrap64 (1 + (Int.tmod (wrap64 (119 - (Int.tmod a0 64))) 64))) + 8) : Int).toNat ≤ 281474976710656 then ((some (List.replicate (wrap64 ((wrap64 (1 + (Int.tmod (wrap64 (119 - (Int.tmod a0 64))) 64))) + 8) : Int).toNat 0 : List Int)).bind fun y101 => (if 0 < (y101.length : Int) then (hash_tail.l0 k a0 (y101.set (0 : Int).toNat 128) 0) else (none))) else (none)) else (none)
theorem hash_tail.mono_l : ∀ k, (∀ y0 y1 y2, LeO (hash_tail.l0 k y0 y1 y2) (hash_tail.l0 (k + 1) y0 y1 y2))
  | 0 => fun _ _ _ r h => by simp [hash_tail.l0] at h
  | k + 1 => by
    have ih0 := hash_tail.mono_l k
    · intro y0 y1 y2
      unfold hash_tail.l0
      repeat' first
      | (with_reducible exact ih0 _ _ _)
      | (with_reducible exact LeO.refl _)
      | (with_reducible exact LeO.none _)
      | (with_reducible refine LeO.ite ?_ ?_)
      | (with_reducible refine LeO.bind ?_ (fun _ => ?_))
      | exact ih0 _ _ _
      | exact LeO.none _
      | refine LeO.ite ?_ ?_
      | refine LeO.bind ?_ (fun _ => ?_)
theorem hash_tail.mono : ∀ a0 k, LeO (hash_tail.f k a0) (hash_tail.f (k + 1) a0) := by
  intro a0 k
  have ih0 := hash_tail.mono_l k
  unfold hash_tail.f
  repeat' first
      | (with_reducible exact ih0 _ _ _)
      | (with_reducible exact LeO.refl _)
      | (with_reducible exact LeO.none _)
      | (with_reducible refine LeO.ite ?_ ?_)
      | (with_reducible refine LeO.bind ?_ (fun _ => ?_))
      | exact ih0 _ _ _
      | exact LeO.none _
      | refine LeO.ite ?_ ?_
      | refine LeO.bind ?_ (fun _ => ?_)
set_option maxHeartbeats 8000000 in
set_option maxRecDepth 100000 in
theorem hash_tail.calls (k : Nat) (a0 : Int) (r : ByteArray) (w : World) (h : hash_tail.f k a0 = some r) :
    Calls Try.prog 21 #[.int .i64 a0] w fun e w' => e = .returned (.string r) ∧ Below w.heap.size w w' := by
  have HB := Aside0.mk (Below.refl w.heap.size w)
  have H : (if 0 ≤ (wrap64 ((wrap64 (1 + (Int.tmod (wrap64 (119 - (Int.tmod a0 64))) 64))) + 8)) then (if (wrap64 ((wrap64 (1 + (Int.tmod (wrap64 (119 - (Int.tmod a0 64))) 64))) + 8) : Int).toNat ≤ 281474976710656 then ((some (List.replicate (wrap64 ((wrap64 (1 + (Int.tmod (wrap64 (119 - (Int.tmod a0 64))) 64))) + 8) : Int).toNat 0 : List Int)).bind fun y101 => (if 0 < (y101.length : Int) then (hash_tail.l0 k a0 (y101.set (0 : Int).toNat 128) 0) else (none))) else (none)) else (none)) = some r := h
  clear h
  obtain ⟨ji2, hji2⟩ : ∃ j_ : Int, (wrap64 ((wrap64 (1 + (Int.tmod (wrap64 (119 - (Int.tmod a0 64))) 64))) + 8)) = j_ := ⟨_, rfl⟩
  replace H : (if 0 ≤ (ji2) then (if (ji2 : Int).toNat ≤ 281474976710656 then ((some (List.replicate (ji2 : Int).toNat 0 : List Int)).bind fun y101 => (if 0 < (y101.length : Int) then (hash_tail.l0 k a0 (y101.set (0 : Int).toNat 128) 0) else (none))) else (none)) else (none)) = some r := by first | (rw [hji2] at H; exact H) | (simp only [hji2] at H ⊢; exact H)
  have hji2w : (IntKind.i64.wrap ((wrap64 (1 + (Int.tmod (wrap64 (119 - (Int.tmod a0 64))) 64))) + 8)) = ji2 := (i64_w _).trans hji2
  by_cases c3 : 0 ≤ (ji2)
  · rw [if_pos c3] at H
    have c3b0 := eq_true c3
    have c3b1 : decide (0 ≤ (ji2)) = true := decide_eq_true c3
    clear c3
    by_cases c4 : (ji2 : Int).toNat ≤ 281474976710656
    · rw [if_pos c4] at H
      have c4b0 := eq_true c4
      have c4b1 : decide ((ji2 : Int).toNat ≤ 281474976710656) = true := decide_eq_true c4
      (try simp only [Int.toNat_natCast] at c4b1)
      clear c4
      obtain ⟨y101, hy101⟩ : ∃ y_ : List Int, y_ = (List.replicate (ji2 : Int).toNat 0) := ⟨_, rfl⟩
      replace H : (if 0 < (y101.length : Int) then (hash_tail.l0 k a0 (y101.set (0 : Int).toNat 128) 0) else (none)) = some r := by first | (rw [hy101]; with_reducible exact H) | (have H2_ := (Option.bind_some _ _).symm.trans H; rw [hy101]; with_reducible exact H2_) | (have H2_ := (Option.bind_some _ _).symm.trans H; with_reducible exact H2_) | with_reducible exact H | (rw [hy101]; exact H) | exact H
      have Ny101 := Aside0.mk hy101
      clear hy101
      by_cases c5 : 0 < (y101.length : Int)
      · rw [if_pos c5] at H
        have c5b0 : decide (0 < (y101.length : Int)) = true := decide_eq_true c5
        have c5b1 : decide (0 < y101.length) = true := decide_eq_true (by omega)
        clear c5
        obtain ⟨y104, hy104⟩ : ∃ y_ : List Int, y_ = (y101.set (0 : Int).toNat 128) := ⟨_, rfl⟩
        replace H : (hash_tail.l0 k a0 y104 0) = some r := by first | (rw [hy104]; with_reducible exact H) | (have H2_ := (Option.bind_some _ _).symm.trans H; rw [hy104]; with_reducible exact H2_) | (have H2_ := (Option.bind_some _ _).symm.trans H; with_reducible exact H2_) | with_reducible exact H | (rw [hy104]; exact H) | exact H
        have Ny104 := Aside0.mk hy104
        clear hy104
        have H' := Aside0.mk H
        clear H
        go_enter Try.func21, Try.ntmps21
        go_wp2_with (first | ((with_reducible refine gate_dst (N := 13) rfl ?_); refine Kd.R_make (Kd.int .u8) _ 5 rfl (N := 13) rfl 60 _ _ rfl ji2 rfl rfl Try.underlying60 (.int .u8 0) 1 info5 rfl (by decide) (by omega) 0 (ok := fun _ => True) (okp := fun _ => True) rfl (fun _ hk => hk) trivial (of_decide_eq_true (by first | (with_reducible assumption) | assumption)) (Nat.le_trans (Nat.mul_le_mul_right _ (of_decide_eq_true (by first | (with_reducible assumption) | assumption) : ji2.toNat ≤ 281474976710656)) (by omega)) (Below.refl _ _) (Nat.le_refl _) ?_; intro v102 w7 ho8 hb hg_ hnew_; clear hg_ hnew_; (first | rw [← Ny101.out] at ho8 | (simp only [Int.reduceToNat] at ho8; rw [← Ny101.out] at ho8)); have n0_ := Aside0.mk (Kd.R_lower ho8 (below_size (by repeat (first | (with_reducible first | exact HB.out | apply below_alloc | apply pw_below_drewN | apply below_drew1) | exact HB.out)))); have n1_ := Aside0.mk (below_step (by repeat (first | (with_reducible first | exact HB.out | apply below_alloc | apply pw_below_drewN | apply below_drew1) | exact HB.out)) hb); clear HB; have HO103 := n0_; have HB := n1_; clear n0_ n1_; clear hb ho8; have p6 : 0 ≤ (0 : Int) := (by omega); have q6 : (0 : Int) < ((y101.length : Int) : Int) := of_decide_eq_true (by first | (with_reducible assumption) | assumption); have qi6 : (0 < y101.length) = True := eq_true (by omega); obtain ⟨go6, co6, eo6, gb6, gl6, cl6, HG6⟩ := Kd.R_form HO103.out (by omega); (first | cases eo6 | (injection eo6 with ea_ en_ ec_; (first | subst ea_ | (injection ea_ with ea_; subst ea_)); subst ec_; clear en_)); have GB6 := Aside0.mk gb6; have GG6 := Aside0.mk HG6; clear gb6 gl6 HG6; obtain ⟨hx6_0, hf6_0⟩ := Kd.R_celln 0 HO103.out (0 : Int) p6 q6; (try rw [show ((0 : Int)).toNat = 0 from rfl] at hx6_0); (try simp only [Nat.reduceMul, Nat.zero_mul, Nat.zero_add, Nat.reduceAdd] at hx6_0); (try rw [show ((0 : Int)).toNat = 0 from rfl] at hf6_0); (try simp only [Nat.reduceMul, Nat.zero_mul, Nat.zero_add, Nat.reduceAdd] at hf6_0); replace p6 := eq_true p6; replace q6 := eq_true q6; obtain ⟨hy9_, hz9_⟩ := Kd.R_celln 0 HO103.out (0 : Int) (by omega) (of_decide_eq_true (by first | (with_reducible assumption) | assumption)); (try simp only [Int.reduceToNat, Int.toNat_zero, Int.toNat_ofNat, Nat.reduceMul, Nat.zero_mul, Nat.zero_add] at hy9_ hz9_); (try rw [show ((0 : Int)).toNat = 0 from rfl] at hy9_); (try rw [show ((0 : Int)).toNat = 0 from rfl] at hz9_); have HP9 := Kd.R_putg HO103.out (0 : Int) 128) | ((with_reducible refine gate_store (t := 5) (p := 15) rfl ?_); refine store_event (t := 5) (p := 15) (v := ?vo_w10) (w1 := (w7.setCell ⟨go6, (0 : Int).toNat, none⟩ (.int .u8 128))) ?hg ?ho ?hn ?hr ?_; (case ho => rfl); (case hg => rfl); (case hn => rfl); (case hr => first | (go_simp; done) | (go_simp; rfl)); intro w10 hw; have hg : w7.grownBy w10 (some go6) := (by rw [hw]; exact HP9.2); have hp_ : Kd.R (Kd.int .u8) 5 w10 w.heap.size (fun _ => True) (.slice (some ⟨go6, 0, none⟩) y101.length co6) y104 := (by rw [hw, Ny104.out]; exact HP9.1); clear HP9; have n0_ := Aside0.mk (hp_); have n1_ := Aside0.mk ((by rw [hw]; exact below_set (HB.out) GB6.out : Below w.heap.size w w10)); clear HO103; clear HB; have HO103 := n0_; have HB := n1_; clear n0_ n1_; clear hg hw hp_))
        go_loopg [16] k (fun kq v16 w' => ∃ (x4_1 : List Int) (x16_1 : Int), v16 = .int .i64 x16_1 ∧ Aside0 (hash_tail.l0 kq a0 x4_1 x16_1 = some r) ∧ Aside0 (kq ≤ k) ∧ Aside0 (Kd.R (Kd.int .u8) 5 w' w.heap.size (fun _ => True) (.slice (some ⟨go6, 0, none⟩) y101.length co6) x4_1) ∧ Aside0 (Below w.heap.size w w'))
        case atStart => exact ⟨(y104), (0), (by first | rfl | (simp; done) | (simp [*]; done)), H', ⟨Nat.le_refl _⟩, ⟨by (with_reducible repeat (first | apply Kd.R_alloc | apply Kd.R_drewN | apply Kd.R_drew)); exact HO103.out⟩, ⟨by repeat (first | (with_reducible first | exact HB.out | apply below_alloc | apply pw_below_drewN | apply below_drew1) | exact HB.out)⟩⟩
        case round =>
          clear H'
          try clear c2
          try clear p2
          try clear c3
          try clear c3b0
          try clear c3b1
          try clear c4
          try clear c4b0
          try clear c4b1
          try clear c5
          try clear c5b0
          try clear c5b1
          try clear p6
          try clear q6
          try clear hx6
          try clear qi6
          try clear hf6
          try clear hx6_0
          try clear p6
          try clear q6
          obtain ⟨x4_1, x16_1, rfl, HA, HK1, HO_4, HB⟩ := hrel
          have hl4_1 := (Kd.R_reads' HO_4.out).1
          rw [hl4_1] at HO_4
          (try simp only [hl4_1])
          cases gk with
          | zero => exact absurd HA.out (by simp [hash_tail.l0])
          | succ k1 =>
            have H := HA.out
            clear HA
            simp only [hash_tail.l0] at H
            by_cases c11 : x16_1 < 8
            · rw [if_pos c11] at H
              have c11b0 : decide (x16_1 < 8) = true := decide_eq_true c11
              clear c11
              obtain ⟨ji12, hji12⟩ : ∃ j_ : Int, (wrap64 (8 * x16_1)) = j_ := ⟨_, rfl⟩
              replace H : (if 0 ≤ (ji12) then (if 0 ≤ (wrap64 ((wrap64 ((x4_1.length : Int) - 1)) - x16_1)) then (if (wrap64 ((wrap64 ((x4_1.length : Int) - 1)) - x16_1)) < (x4_1.length : Int) then (hash_tail.l0 k1 a0 (x4_1.set ((wrap64 ((wrap64 ((x4_1.length : Int) - 1)) - x16_1)) : Int).toNat ((shr .u64 (IntKind.u64.wrap ((IntKind.u64.wrap (a0)) * 8)) (ji12)) % 256)) (wrap64 (x16_1 + 1))) else (none)) else (none)) else (none)) = some r := by first | (rw [hji12] at H; exact H) | (simp only [hji12] at H ⊢; exact H)
              have hji12w : (IntKind.i64.wrap (8 * x16_1)) = ji12 := (i64_w _).trans hji12
              by_cases c13 : 0 ≤ (ji12)
              · rw [if_pos c13] at H
                have c13b0 := eq_true c13
                have c13b1 : decide (0 ≤ (ji12)) = true := decide_eq_true c13
                clear c13
                obtain ⟨ji14, hji14⟩ : ∃ j_ : Int, (shr .u64 (IntKind.u64.wrap ((IntKind.u64.wrap (a0)) * 8)) (ji12)) = j_ := ⟨_, rfl⟩
                replace H : (if 0 ≤ (wrap64 ((wrap64 ((x4_1.length : Int) - 1)) - x16_1)) then (if (wrap64 ((wrap64 ((x4_1.length : Int) - 1)) - x16_1)) < (x4_1.length : Int) then (hash_tail.l0 k1 a0 (x4_1.set ((wrap64 ((wrap64 ((x4_1.length : Int) - 1)) - x16_1)) : Int).toNat ((ji14) % 256)) (wrap64 (x16_1 + 1))) else (none)) else (none)) = some r := by first | (rw [hji14] at H; exact H) | (simp only [hji14] at H ⊢; exact H)
                have hji14_ : ((IntKind.u64.wrap ((IntKind.u64.wrap (a0)) * 8)) / 2 ^ min (ji12).toNat 64) = ji14 := hji14
                have hji14z : (ji12) ≤ 64 → ((IntKind.u64.wrap ((IntKind.u64.wrap (a0)) * 8)) / 2 ^ (ji12).toNat) = ji14 := shr_small hji14
                obtain ⟨ji15, hji15⟩ : ∃ j_ : Int, (wrap64 ((wrap64 ((x4_1.length : Int) - 1)) - x16_1)) = j_ := ⟨_, rfl⟩
                replace H : (if 0 ≤ (ji15) then (if (ji15) < (x4_1.length : Int) then (hash_tail.l0 k1 a0 (x4_1.set ((ji15) : Int).toNat ((ji14) % 256)) (wrap64 (x16_1 + 1))) else (none)) else (none)) = some r := by first | (rw [hji15] at H; exact H) | (simp only [hji15] at H ⊢; exact H)
                have hji15w : (IntKind.i64.wrap ((wrap64 ((x4_1.length : Int) - 1)) - x16_1)) = ji15 := (i64_w _).trans hji15
                by_cases c16 : 0 ≤ (ji15)
                · rw [if_pos c16] at H
                  have c16b0 : decide (0 ≤ (ji15)) = true := decide_eq_true c16
                  clear c16
                  by_cases c17 : (ji15) < (x4_1.length : Int)
                  · rw [if_pos c17] at H
                    have c17b0 : decide ((ji15) < (x4_1.length : Int)) = true := decide_eq_true c17
                    try (have c17b0y := c17b0; simp only [hl4_1] at c17b0y)
                    clear c17
                    obtain ⟨y105, hy105⟩ : ∃ y_ : List Int, y_ = (x4_1.set ((ji15) : Int).toNat ((ji14) % 256)) := ⟨_, rfl⟩
                    replace H : (hash_tail.l0 k1 a0 y105 (wrap64 (x16_1 + 1))) = some r := by first | (rw [hy105]; with_reducible exact H) | (have H2_ := (Option.bind_some _ _).symm.trans H; rw [hy105]; with_reducible exact H2_) | (have H2_ := (Option.bind_some _ _).symm.trans H; with_reducible exact H2_) | with_reducible exact H | (rw [hy105]; exact H) | exact H
                    have Ny105 := Aside0.mk hy105
                    clear hy105
                    have H' := Aside0.mk H
                    clear H
                    have p18 : 0 ≤ ((ji15) : Int) := of_decide_eq_true (by first | (with_reducible assumption) | assumption)
                    have q18 : ((ji15) : Int) < ((x4_1.length : Int) : Int) := of_decide_eq_true (by first | (with_reducible assumption) | assumption)
                    obtain ⟨hx18_0, hf18_0⟩ := Kd.R_celln 0 HO_4.out ((ji15) : Int) p18 q18
                    replace p18 := eq_true p18
                    replace q18 := eq_true q18
                    have HP19 := Kd.R_putg HO_4.out ((ji15) : Int) ((ji14) % 256)
                    go_wp2_with (first | ((with_reducible refine gate_store (t := 5) (p := 32) rfl ?_); refine store_event (t := 5) (p := 32) (v := ?vo_w20) (w1 := (wr.setCell ⟨go6, ((ji15) : Int).toNat, none⟩ (.int .u8 ((ji14) % 256)))) ?hg ?ho ?hn ?hr ?_; (case ho => rfl); (case hg => rfl); (case hn => rfl); (case hr => first | (go_simp; done) | (go_simp; rfl)); intro w20 hw; have hg : wr.grownBy w20 (some go6) := (by rw [hw]; exact HP19.2); have hp_ : Kd.R (Kd.int .u8) 5 w20 w.heap.size (fun _ => True) (.slice (some ⟨go6, 0, none⟩) x4_1.length co6) y105 := (by rw [hw, Ny105.out]; exact HP19.1); clear HP19; have n0_ := Aside0.mk (hp_); have n1_ := Aside0.mk ((by rw [hw]; exact below_set (HB.out) GB6.out : Below w.heap.size w w20)); clear HO_4; clear HB; have HO_4 := n0_; have HB := n1_; clear n0_ n1_; clear hg hw hp_))
                    (try simp only [← hl4_1])
                    go_roundg k1
                    case measure => have := HK1.out; omega
                    case rel => exact ⟨(y105), (wrap64 (x16_1 + 1)), (by first | rfl | (simp; done) | (simp [*]; done)), H', ⟨by have := HK1.out; omega⟩, ⟨by (try simp only [hl4_1]); (with_reducible repeat (first | apply Kd.R_alloc | apply Kd.R_drewN | apply Kd.R_drew)); exact HO_4.out⟩, ⟨by repeat (first | (with_reducible first | exact HB.out | apply below_alloc | apply pw_below_drewN | apply below_drew1) | exact HB.out)⟩⟩
                  · rw [if_neg c17] at H
                    exact absurd H (by simp)
                · rw [if_neg c16] at H
                  exact absurd H (by simp)
              · rw [if_neg c13] at H
                exact absurd H (by simp)
            · rw [if_neg c11] at H
              have c11b0 : decide (x16_1 < 8) = false := decide_eq_false c11
              clear c11
              obtain rfl := Option.some.inj H
              have hcv21 := own_string (P := Try.prog) Try.underlying60 Try.underlying5 Try.underlying9 (Kd.own_of_R HO_4.out)
              go_wp2
              go_ret
              exact ⟨by first | rfl | (simp [errW_none, errW_some] <;> rfl) | (simp only [← hji2]; first | rfl | (simp [errW_none, errW_some] <;> rfl)) | (simp [*, errW_none, errW_some] <;> rfl), by repeat (first | (with_reducible first | exact HB.out | apply below_alloc | apply pw_below_drewN | apply below_drew1) | exact HB.out)⟩
      · rw [if_neg c5] at H
        exact absurd H (by simp)
    · rw [if_neg c4] at H
      exact absurd H (by simp)
  · rw [if_neg c3] at H
    exact absurd H (by simp)

end Go.Proofs.Ythbljhmjppjcjaa.Z
end

section
/- hash.Sum of "abc": its first byte. -/
namespace Go.Proofs.Ythbljhmjppjcjaa.Z
open Go.RowKit Go.Proofs.YthbljhmjppjcjaaW.PrintWords Go.Proofs.YthbljhmjppjcjaaW.PrintLast Go.Proofs.YthbljhmjppjcjaaW.PrintMore
set_option linter.unusedVariables false
set_option linter.unusedSimpArgs false
set_option maxRecDepth 100000 in
set_option maxHeartbeats 3200000 in
theorem rounds_calls (w : World) : Calls Try.prog 19 #[] w fun e w' => ∃ g, e = .returned (.pointer (some ⟨g, 0, none⟩)) ∧ w.heap.size ≤ g ∧ w'.heap[g]? = some (ws 92 sK) ∧ Below w.heap.size w w' := by
  go_enter Try.func19, Try.ntmps19
  go_wp2_with ((with_reducible refine gate_dst (N := 2) rfl ?_); refine box_event ?hg (N := 2) ?hd (cs := (sK.map (fun x => Value.int .u32 x)).toArray) (t := 92) ?hr ?_; (case hd => rfl); (case hg => rfl); (case hr => first | (go_simp; done) | (go_simp; rfl)); intro g hg w1 hx hb; have BX := Aside0.mk (show w1.heap[g]? = some (ws 92 sK) from hx); have BB := Aside0.mk hb; have GG := Aside0.mk (show w.heap.size ≤ g by omega); clear hx hb hg)
  go_ret
  exact ⟨g, rfl, GG.out, BX.out, BB.out⟩
/-- An array of bytes in memory. -/
def bs (t : TypeId) (l : List Int) : Obj := .cells (l.map (fun x => Value.int .u8 x)).toArray t (0, 0)
theorem bs_cell {w : World} {g : Nat} {t : TypeId} {l : List Int} (h : w.heap[g]? = some (bs t l)) (i : Int) (h0 : 0 ≤ i) (hi : i < l.length) : ∃ v, w.cell? ⟨g, i.toNat, none⟩ = some v := by
  rw [blk_cell h, List.getElem?_toArray, List.getElem?_map, List.getElem?_eq_getElem (show i.toNat < l.length by omega)]
  exact ⟨_, rfl⟩
theorem bs_set {w : World} {g : Nat} {t : TypeId} {l : List Int} (h : w.heap[g]? = some (bs t l)) (i : Nat) (x : Int) : (w.setCell ⟨g, i, none⟩ (.int .u8 x)).heap[g]? = some (bs t (l.set i x)) := by
  rw [blk_set h]
  congr 2
  simp [bs]
theorem bs_info {p : Option Nat} {n : Nat} {l : List Int} (h : p = some n) (hl : l.length = n) : p = some (l.map (fun x => Value.int .u8 x)).toArray.size := by
  rw [h]
  simp [hl]
theorem bs_one (l : List Int) : ((l.map (fun x => Value.int .u8 x)).toArray).all (·.oneCell') = true := by
  simp [Value.oneCell']
theorem setRow_far (w : World) (g k : Nat) (cs : Array Value) (h : k ≠ g) : (w.setRow g cs).heap[k]? = w.heap[k]? := by
  simp only [World.setRow, Array.getElem?_modify]
  rw [if_neg (fun e => h e.symm)]
theorem info8 : (Try.prog.info? 77).map (·.size) = some (#[.int .u32 1779033703, .int .u32 3144134277, .int .u32 1013904242, .int .u32 2773480762, .int .u32 1359893119, .int .u32 2600822924, .int .u32 528734635, .int .u32 1541459225] : Array Value).size := by kernel_rfl
def abcT : ByteArray := ⟨#[128, 0, 0, 0, 0, 0, 0, 0, 0, 0, 0, 0, 0, 0, 0, 0, 0, 0, 0, 0, 0, 0, 0, 0, 0, 0, 0, 0, 0, 0, 0, 0, 0, 0, 0, 0, 0, 0, 0, 0, 0, 0, 0, 0, 0, 0, 0, 0, 0, 0, 0, 0, 0, 0, 0, 0, 0, 0, 0, 0, 24]⟩
theorem abc_tail : hash_tail.f 20 3 = some abcT := by kernel_rfl
def H0 : List Int := addF (rounds sK (wordsF blk1) 64 0 ⟨1779033703, 3144134277, 1013904242, 2773480762, 1359893119, 2600822924, 528734635, 1541459225⟩).list 8 0 sIV
theorem H0_len : H0.length = 8 := by unfold H0; rw [sha_abc]; rfl
theorem H0_rd : rd H0 0 = 3128432319 := by unfold H0; rw [sha_abc]; rfl
set_option maxRecDepth 100000 in
set_option maxHeartbeats 6400000 in
theorem hsum_calls (w : World) :
    Calls Try.prog 10 #[.string ⟨#[97, 98, 99]⟩] w fun e w' => ∃ l : List Int, e = .returned (.agg (l.map (fun x => Value.int .u8 x)).toArray) ∧ l.length = 32 ∧ rd l 0 = 186 ∧ Below w.heap.size w w' := by
  go_enter Try.func10, Try.ntmps10
  go_wp2_with (first
    | ((with_reducible refine gate_dst (N := 2) rfl ?_); refine box_event ?hg (N := 2) ?hd (cs := ((List.replicate 32 (0 : Int)).map (fun x => Value.int .u8 x)).toArray) (t := 38) ?hr ?_; (case hd => rfl); (case hg => rfl); (case hr => first | (go_simp; done) | (go_simp; rfl)); intro go hgo w1 hx hb; have O1 := Aside0.mk (show w1.heap[go]? = some (bs 38 (List.replicate 32 0)) from hx); have B1 := Aside0.mk hb; have GO := Aside0.mk (show w.heap.size ≤ go by omega); clear hx hb hgo)
    | ((with_reducible refine gate_dst (N := 3) rfl ?_); refine box_event ?hg (N := 3) ?hd (cs := ((List.replicate 8 (0 : Int)).map (fun x => Value.int .u32 x)).toArray) (t := 77) ?hr ?_; (case hd => rfl); (case hg => rfl); (case hr => first | (go_simp; done) | (go_simp; rfl)); intro gh hgh w2 hx hb; have I2 := Aside0.mk (show w2.heap[gh]? = some (ws 77 (List.replicate 8 0)) from hx); have O2 := Aside0.mk (blk_below O1.out hb); have B2 := Aside0.mk (below_step B1.out hb); have GH := Aside0.mk (show w.heap.size ≤ gh ∧ go ≠ gh from ⟨by have := B1.out.size; omega, by rw [hgh]; exact Nat.ne_of_lt (blk_lt O1.out)⟩);  have q0 : w2.cell? ⟨gh, 0, none⟩ = some (.int .u32 0) := (blk_cell I2.out 0).trans rfl; have f0 : w2.frozen? ⟨gh, 0, none⟩ = false := blk_frozen I2.out 0; have q1 : w2.cell? ⟨gh, 1, none⟩ = some (.int .u32 0) := (blk_cell I2.out 1).trans rfl; have f1 : w2.frozen? ⟨gh, 1, none⟩ = false := blk_frozen I2.out 1; have q2 : w2.cell? ⟨gh, 2, none⟩ = some (.int .u32 0) := (blk_cell I2.out 2).trans rfl; have f2 : w2.frozen? ⟨gh, 2, none⟩ = false := blk_frozen I2.out 2; have q3 : w2.cell? ⟨gh, 3, none⟩ = some (.int .u32 0) := (blk_cell I2.out 3).trans rfl; have f3 : w2.frozen? ⟨gh, 3, none⟩ = false := blk_frozen I2.out 3; have q4 : w2.cell? ⟨gh, 4, none⟩ = some (.int .u32 0) := (blk_cell I2.out 4).trans rfl; have f4 : w2.frozen? ⟨gh, 4, none⟩ = false := blk_frozen I2.out 4; have q5 : w2.cell? ⟨gh, 5, none⟩ = some (.int .u32 0) := (blk_cell I2.out 5).trans rfl; have f5 : w2.frozen? ⟨gh, 5, none⟩ = false := blk_frozen I2.out 5; have q6 : w2.cell? ⟨gh, 6, none⟩ = some (.int .u32 0) := (blk_cell I2.out 6).trans rfl; have f6 : w2.frozen? ⟨gh, 6, none⟩ = false := blk_frozen I2.out 6; have q7 : w2.cell? ⟨gh, 7, none⟩ = some (.int .u32 0) := (blk_cell I2.out 7).trans rfl; have f7 : w2.frozen? ⟨gh, 7, none⟩ = false := blk_frozen I2.out 7; have S8 := Aside0.mk (show Step gh w2 ((((((((w2.setCell ⟨gh, 0, none⟩ (.int .u32 1779033703)).setCell ⟨gh, 1, none⟩ (.int .u32 3144134277)).setCell ⟨gh, 2, none⟩ (.int .u32 1013904242)).setCell ⟨gh, 3, none⟩ (.int .u32 2773480762)).setCell ⟨gh, 4, none⟩ (.int .u32 1359893119)).setCell ⟨gh, 5, none⟩ (.int .u32 2600822924)).setCell ⟨gh, 6, none⟩ (.int .u32 528734635)).setCell ⟨gh, 7, none⟩ (.int .u32 1541459225)) (ws 77 sIV) from (((((((((Step.refl I2.out).ws 0 1779033703).ws 1 3144134277).ws 2 1013904242).ws 3 2773480762).ws 4 1359893119).ws 5 2600822924).ws 6 528734635).ws 7 1541459225)); clear hx hb hgh)
    | (go_at_call 19; have S8' := S8.out; clear S8 q0 q1 q2 q3 q4 q5 q6 q7 f0 f1 f2 f3 f4 f5 f6 f7; obtain ⟨w3, hw3⟩ : ∃ w3, w3 = ((((((((w2.setCell ⟨gh, 0, none⟩ (.int .u32 1779033703)).setCell ⟨gh, 1, none⟩ (.int .u32 3144134277)).setCell ⟨gh, 2, none⟩ (.int .u32 1013904242)).setCell ⟨gh, 3, none⟩ (.int .u32 2773480762)).setCell ⟨gh, 4, none⟩ (.int .u32 1359893119)).setCell ⟨gh, 5, none⟩ (.int .u32 2600822924)).setCell ⟨gh, 6, none⟩ (.int .u32 528734635)).setCell ⟨gh, 7, none⟩ (.int .u32 1541459225)) := ⟨_, rfl⟩; rw [← hw3] at S8' ⊢; have I3 := Aside0.mk S8'.1; have O3 := Aside0.mk ((S8'.2.1.2 go (blk_lt O2.out) GH.out.2 (by simp)).trans O2.out); have B3 := Aside0.mk (B2.out.trans (S8'.2.2 _ GH.out.1)); clear hw3 S8'; refine (rounds_calls _).mono ?_; rintro e w4 ⟨gk, rfl, hgk, hk, hb⟩; have I4 := Aside0.mk (blk_below I3.out hb); have O4 := Aside0.mk (blk_below O3.out hb); have K4 := Aside0.mk hk; have B4 := Aside0.mk (below_step B3.out hb); clear hk hb hgk)
    | (go_at_call 21; refine (hash_tail.calls 20 3 abcT _ abc_tail).mono ?_; rintro e w5 ⟨rfl, hb⟩; have I5 := Aside0.mk (blk_below I4.out hb); have O5 := Aside0.mk (blk_below O4.out hb); have K5 := Aside0.mk (blk_below K4.out hb); have B5 := Aside0.mk (below_step B4.out hb); clear hb))
  obtain ⟨w6, hw6⟩ : ∃ w6, w6 = w5 := ⟨_, rfl⟩
  go_loopw [0] (fun sv wr => ∃ B : ByteArray, sv = .string B ∧ Aside0 (Below w.heap.size w wr ∧ wr.heap[go]? = some (bs 38 (List.replicate 32 0)) ∧ wr.heap[gk]? = some (ws 92 sK) ∧ (B = blk1 ∧ wr.heap[gh]? = some (ws 77 sIV) ∨ B = ⟨#[]⟩ ∧ wr.heap[gh]? = some (ws 77 H0)))) (fun sv _ => match sv with | .string b => b.size | _ => 0)
  case atStart => exact ⟨_, rfl, ⟨B5.out, O5.out, K5.out, .inl ⟨by decide, I5.out⟩⟩⟩
  case round =>
    obtain ⟨B, rfl, HS⟩ := hrel
    obtain ⟨hB, hO, hK, hc | hc⟩ := HS.out
    · have hsz : B.toList.isEmpty = false := by rw [hc.1]; kernel_rfl
      have hs0 : ((64 : Int) ≤ (B.size : Int)) = True := eq_true (by rw [hc.1]; decide)
      have he : B.extract 0 64 = blk1 := by rw [hc.1]; kernel_rfl
      have hr : B.extract 64 B.size = ⟨#[]⟩ := by rw [hc.1]; kernel_rfl
      have HBS := Aside0.mk (show B.size = 64 by rw [hc.1]; rfl)
      have NK := Aside0.mk (show gk ≠ gh ∧ go ≠ gh from ⟨by
        intro e
        rw [e] at hK
        have := hK.symm.trans hc.2
        simp [ws] at this, GH.out.2⟩)
      have CC := Aside0.mk hc.2
      clear hB hO hK hc
      go_wp2_with (go_at_call 20; refine (take_calls blk1 rfl gh gk sK rfl _ _ _ _ _ _ _ _ wr CC.out HS.out.2.2.1).mono ?_; rintro e w7 ⟨rfl, h7⟩; have S7 := Aside0.mk h7; clear h7)
      have hs := HS.out
      have nk := NK.out
      have s7 := S7.out
      have hz := HBS.out
      go_roundw
      case rel => exact ⟨⟨#[]⟩, rfl, ⟨hs.1.trans (s7.2.2 _ GH.out.1), (s7.2.1.2 go (blk_lt hs.2.1) nk.2 (by simp)).trans hs.2.1, (s7.2.1.2 gk (blk_lt hs.2.2.1) nk.1 (by simp)).trans hs.2.2.1, .inr ⟨rfl, s7.1⟩⟩⟩
      case measure =>
        show 0 < B.size
        omega
    · have hsz : B.toList.isEmpty = true := by rw [hc.1]; kernel_rfl
      have HR := Aside0.mk (And.intro hB (And.intro hO hc.2))
      clear hB hO hK hc HS
      go_wp2
      go_loopw [23] (fun i wr => ∃ (y : Int) (l : List Int), i = .int .i64 y ∧ Aside0 (0 ≤ y ∧ y ≤ 32) ∧ Aside0 (Below w.heap.size w wr ∧ wr.heap[go]? = some (bs 38 l) ∧ wr.heap[gh]? = some (ws 77 H0) ∧ l.length = 32) ∧ Aside0 (0 < y → rd l 0 = 186)) (fun i _ => 32 - (intOf i).toNat)
      case atStart => exact ⟨0, _, rfl, ⟨by omega⟩, ⟨HR.out.1, HR.out.2.1, HR.out.2.2, by simp⟩, ⟨fun h => by omega⟩⟩
      case round =>
        obtain ⟨y, l, rfl, HY, HT, HG⟩ := hrel
        obtain ⟨hy0, hy1⟩ := HY.out
        have hll := HT.out.2.2.2
        by_cases hly : y < 32
        · have hly2 : decide (y < 32) = true := decide_eq_true hly
          have q0 : ((0 : Int) ≤ y) = True := eq_true hy0
          have q1 : (y < (32 : Int)) = True := eq_true hly
          obtain ⟨j, hj⟩ : ∃ j, j = Int.tdiv y 4 := ⟨_, rfl⟩
          have hj4 : j = y / 4 := by rw [hj, Int.tdiv_eq_ediv_of_nonneg hy0]
          have p0 : ((0 : Int) ≤ j) = True := eq_true (by omega)
          have p1 : (j < (8 : Int)) = True := eq_true (by omega)
          have ej : Int.tdiv y 4 = j := hj.symm
          have ej2 : IntKind.i64.wrap j = j := by rw [IntKind.wrap_i64]; omega
          have hmr : Int.tmod y 4 = y % 4 := Int.tmod_eq_emod_of_nonneg hy0
          obtain ⟨m0, hm0⟩ : ∃ m0, m0 = Int.tmod y 4 := ⟨_, rfl⟩
          have em0 : Int.tmod y 4 = m0 := hm0.symm
          obtain ⟨m1, hm1⟩ : ∃ m1, m1 = 8 * m0 := ⟨_, rfl⟩
          have em1 : IntKind.i64.wrap (8 * m0) = m1 := by rw [IntKind.wrap_i64]; omega
          obtain ⟨m2, hm2⟩ : ∃ m2, m2 = 24 - m1 := ⟨_, rfl⟩
          have em2 : IntKind.i64.wrap (24 - m1) = m2 := by rw [IntKind.wrap_i64]; omega
          have p2 : ((0 : Int) ≤ m2) = True := eq_true (by omega)
          have Y0 := Aside0.mk (show y = 0 → j = 0 ∧ m2 = 24 from fun e => by omega)
          have k0 := ws_at HT.out.2.2.1 j (by omega) (by rw [H0_len]; omega)
          have z0 : wr.frozen? ⟨go, y.toNat, none⟩ = false := blk_frozen HT.out.2.1 _
          obtain ⟨c0, k1⟩ := bs_cell HT.out.2.1 y hy0 (by omega)
          have LY := Aside0.mk hly
          have ew : wrap64 (y + 1) = y + 1 := by unfold wrap64; omega
          have EW := Aside0.mk ew
          clear hy0 hy1 hly hj hj4 hmr hm0 hm1 hm2 ew hll
          go_wp2
          have hl := LY.out
          have hy := HY.out
          go_roundw
          case rel =>
            refine ⟨y + 1, _, by rw [EW.out], ⟨by omega⟩, ⟨HT.out.1.setCell (p := ⟨go, y.toNat, none⟩) GO.out _, bs_set HT.out.2.1 _ _, (Below.heap_setCell wr ⟨go, y.toNat, none⟩ _ gh (fun e => GH.out.2 e.symm)).trans HT.out.2.2.1, by rw [List.length_set]; exact HT.out.2.2.2⟩, ⟨fun _ => ?_⟩⟩
            by_cases h0 : y = 0
            · obtain ⟨rfl, rfl⟩ := Y0.out h0
              subst h0
              rw [H0_rd]
              unfold rd
              rw [List.getD_eq_getElem?_getD, List.getElem?_set_self (by rw [HT.out.2.2.2]; decide)]
              rfl
            · have := HG.out (by omega)
              rw [← this]
              unfold rd
              rw [List.getD_eq_getElem?_getD, List.getElem?_set_ne (by omega), List.getD_eq_getElem?_getD]
          case measure =>
            simp [EW.out, intOf]
            omega
        · have hge : decide (y < 32) = false := decide_eq_false hly
          have HG' := Aside0.mk (HG.out (by omega))
          have HI := Aside0.mk (bs_info (l := l) (by kernel_rfl : (Try.prog.info? 38).map (·.size) = some 32) hll)
          clear hy0 hy1 hly hll
          go_wp2_with (first
            | ((with_reducible refine gate_dst (N := 39) rfl ?_); refine wpList_load_row rfl 38 _ rfl go rfl 38 _ (0, 0) _ HT.out.2.1 Try.underlying38 rfl HI.out ?_)
            | (refine wpList_store_row rfl 38 _ _ rfl go _ rfl rfl 38 _ HT.out.2.1 HI.out rfl (bs_one l) ?_))
          (try simp only [Exit.inBlock, Exit.then])
          refine bodyPost_ret (results_cell_row rfl _ _ go 38 _ (0, 0) _ rfl (setRow_heap _ go _ _ 38 (0, 0) HT.out.2.1) Try.underlying38 rfl HI.out) rfl ?_
          exact ⟨l, rfl, HT.out.2.2.2, HG'.out, below_setRow HT.out.1 GO.out _⟩
end Go.Proofs.Ythbljhmjppjcjaa.Z
end

section
/- pack.Sum: the sum of a text, byte by byte, bit by bit. -/
namespace Go.Proofs.Ythbljhmjppjcjaa.Z
open Go.RowKit Go.Proofs.YthbljhmjppjcjaaW.PrintWords Go.Proofs.YthbljhmjppjcjaaW.PrintLast Go.Proofs.YthbljhmjppjcjaaW.PrintMore
set_option linter.unusedVariables false
set_option linter.unusedSimpArgs false
def reg (s n : Int) : Obj := .cells #[.int .u32 s, .int .u64 n] 74 (0, 0)
set_option maxRecDepth 100000 in
theorem add64_calls (a : Addr) (n : Int) (w : World) (hc : w.cell? a = some (.int .u64 n)) (hz : w.frozen? a = false) :
    Calls Try.prog 38 #[.pointer (some a), .int .u64 1] w fun e w' => (∃ v, e = .returned v) ∧ w' = w.setCell a (.int .u64 (IntKind.u64.wrap (n + 1))) := by
  have hl := run_call_add (P := Try.prog) Try.func48 (by kernel_rfl) (by kernel_rfl) (by kernel_rfl) .u64 (by kernel_rfl) (y := 1) (s := IntKind.u64.wrap (n + 1)) hc hz (by simp [Op.intArith])
  go_enter Try.func38, Try.ntmps38
  go_wp2
  go_ret
  exact ⟨⟨_, rfl⟩, rfl⟩
set_option maxRecDepth 100000 in
theorem meter_calls (g : Nat) (s n : Int) (w : World) (hb : w.heap[g]? = some (reg s n)) :
    Calls Try.prog 29 #[.pointer (some ⟨g, 1, none⟩), .int .i64 1] w fun e w' => ∃ n', (∃ v, e = .returned v) ∧ Step g w w' (reg s n') := by
  have q5 : w.cell? ⟨g, 1, none⟩ = some (.int .u64 n) := (blk_cell hb 1).trans rfl
  have f5 : w.frozen? ⟨g, 1, none⟩ = false := blk_frozen hb 1
  have HS : Aside0 (Step g w (w.setCell ⟨g, 1, none⟩ (.int .u64 (IntKind.u64.wrap (n + 1)))) (reg s (IntKind.u64.wrap (n + 1)))) := ⟨(Step.refl hb).set 1 _ rfl⟩
  clear hb
  go_enter Try.func29, Try.ntmps29
  go_wp2_with (go_at_call 38; refine (add64_calls ⟨g, 1, none⟩ n _ q5 f5).mono ?_; rintro e w' ⟨⟨v, rfl⟩, rfl⟩)
  go_ret
  exact ⟨_, ⟨_, rfl⟩, HS.out⟩
def rnd (s : Int) : Int := Go.bits .xor .u32 (shl .u32 s 1) (Go.bits .and .u32 2168537515 (IntKind.u32.wrap (-(shr .u32 s 31))))
def rnds : Nat → Int → Int
  | 0, s => s
  | d + 1, s => rnds d (rnd s)
def putC (s b : Int) : Int := rnds 8 (Go.bits .xor .u32 s (shl .u32 (IntKind.u32.wrap b) 24))
set_option maxRecDepth 100000 in
theorem put_calls (g : Nat) (s n b : Int) (w : World) (hb : w.heap[g]? = some (reg s n)) :
    Calls Try.prog 18 #[.pointer (some ⟨g, 0, none⟩), .int .u8 b] w fun e w' => ∃ n', e = .returned (.tuple #[]) ∧ Step g w w' (reg (putC s b) n') := by
  have HS := Aside0.mk (Step.refl hb)
  have HB := Aside0.mk hb
  clear hb
  go_enter Try.func18, Try.ntmps18
  go_wp2_with (go_at_call 29; refine (meter_calls g s n _ HB.out).mono ?_; rintro e w1 ⟨n', ⟨v, rfl⟩, h1⟩; have S1 := Aside0.mk h1; have q0 : w1.cell? ⟨g, 0, none⟩ = some (.int .u32 s) := (blk_cell h1.1 0).trans rfl; have z0 : w1.frozen? ⟨g, 0, none⟩ = false := blk_frozen h1.1 0; clear h1 HS)
  go_loopw [18] (fun i wr => ∃ (x : Int) (s' : Int), i = .int .i64 x ∧ Aside0 (0 ≤ x ∧ x ≤ 8) ∧ Aside0 (Step g w wr (reg s' n')) ∧ Aside0 (rnds (8 - x).toNat s' = putC s b)) (fun i _ => 8 - (intOf i).toNat)
  case atStart => exact ⟨0, _, rfl, ⟨by omega⟩, ⟨S1.out.set 0 _ rfl⟩, ⟨rfl⟩⟩
  case round =>
    obtain ⟨x, s', rfl, HX, HS, HF⟩ := hrel
    obtain ⟨hx0, hx1⟩ := HX.out
    have k0 : wr.cell? ⟨g, 0, none⟩ = some (.int .u32 s') := (blk_cell HS.out.1 0).trans rfl
    have y0 : wr.frozen? ⟨g, 0, none⟩ = false := blk_frozen HS.out.1 0
    by_cases hlt : x < 8
    · have hlt2 : decide (x < 8) = true := decide_eq_true hlt
      have ew : wrap64 (x + 1) = x + 1 := by unfold wrap64; omega
      have hF : rnds (8 - (x + 1)).toNat (rnd s') = putC s b := by
        have h := HF.out
        rw [show (8 - x).toNat = (8 - (x + 1)).toNat + 1 by omega, rnds] at h
        exact h
      have HF' := Aside0.mk hF
      have L := Aside0.mk hlt
      have EW := Aside0.mk ew
      clear hF hx0 hx1 hlt ew
      go_wp2
      go_still_tail 16, (by kernel_rfl)
      change wpList _ _ _ _ _ wr.drew
      have HD := Aside0.mk HS.out.drew
      obtain ⟨wd, hwd⟩ : ∃ wd, wd = wr.drew := ⟨_, rfl⟩
      rw [← hwd] at HD ⊢
      have k1 : wd.cell? ⟨g, 0, none⟩ = some (.int .u32 s') := (blk_cell HD.out.1 0).trans rfl
      have y1 : wd.frozen? ⟨g, 0, none⟩ = false := blk_frozen HD.out.1 0
      clear hwd k0 y0
      go_wp2
      have hl := L.out
      go_roundw
      case rel => exact ⟨x + 1, _, by rw [EW.out], ⟨by have := HX.out; omega⟩, ⟨HD.out.set 0 _ rfl⟩, HF'⟩
      case measure =>
        have := HX.out
        simp [EW.out, intOf]
        omega
    · have hge : decide (x < 8) = false := decide_eq_false hlt
      have hF := HF.out
      rw [show (8 - x).toNat = 0 by omega, rnds] at hF
      clear hx0 hx1 hlt k0 y0
      go_wp2
      go_end0
      exact ⟨_, rfl, hF ▸ HS.out⟩
def sumC (a : ByteArray) : Nat → Int → Int → Int
  | 0, _, s => s
  | d + 1, i, s => sumC a d (i + 1) (putC s (bt a i))
set_option maxRecDepth 100000 in
set_option maxHeartbeats 1600000 in
theorem sum_calls (a : ByteArray) (hs : (a.size : Int) ≤ 9223372036854775807) (w : World) :
    Calls Try.prog 9 #[.string a] w fun e w' => e = .returned (.int .u32 (sumC a a.size 0 0)) ∧ Below w.heap.size w w' := by
  have HA := Aside0.mk hs
  clear hs
  go_enter Try.func9, Try.ntmps9
  go_wp2_with ((with_reducible refine gate_dst (N := 3) rfl ?_); refine box_event ?hg (N := 3) ?hd (cs := #[.int .u32 0, .int .u64 0]) (t := 74) ?hr ?_; (case hd => rfl); (case hg => rfl); (case hr => first | (go_simp; done) | (go_simp; rfl)); intro g hg w1 hx hb; have BX := Aside0.mk hx; have BB := Aside0.mk hb; have GG := Aside0.mk (show w.heap.size ≤ g by omega); clear hx hb hg)
  go_loopw [7] (fun i wr => ∃ (x : Int) (s' n' : Int), i = .int .i64 x ∧ Aside0 (0 ≤ x ∧ x ≤ a.size) ∧ Aside0 (Below w.heap.size w wr ∧ wr.heap[g]? = some (reg s' n')) ∧ Aside0 (sumC a (a.size - x.toNat) x s' = sumC a a.size 0 0)) (fun i _ => a.size - (intOf i).toNat)
  case atStart => exact ⟨0, 0, 0, rfl, ⟨by omega⟩, ⟨BB.out, BX.out⟩, ⟨rfl⟩⟩
  case round =>
    obtain ⟨x, s', n', rfl, HX, HS, HF⟩ := hrel
    obtain ⟨hx0, hx1⟩ := HX.out
    have hsz := HA.out
    by_cases hlt : x < (a.size : Int)
    · have hlt2 : decide (x < (a.size : Int)) = true := decide_eq_true hlt
      have p0 : ((0 : Int) ≤ x) = True := eq_true hx0
      have p1 : (x < (a.size : Int)) = True := eq_true hlt
      have ew : wrap64 (x + 1) = x + 1 := by unfold wrap64; omega
      have hF : sumC a (a.size - (x + 1).toNat) (x + 1) (putC s' (bt a x)) = sumC a a.size 0 0 := by
        have h := HF.out
        rw [show a.size - x.toNat = (a.size - (x + 1).toNat) + 1 by omega, sumC] at h
        exact h
      have hbt := bt_at a x
      have HF' := Aside0.mk hF
      have L := Aside0.mk hlt
      have EW := Aside0.mk ew
      clear hF hlt ew hx0 hx1 hsz
      go_wp2_with (go_at_call 18; refine (put_calls g s' n' _ _ HS.out.2).mono ?_; rintro e w6 ⟨n2, rfl, h6⟩; have S6 := Aside0.mk h6; clear h6)
      have hl := L.out
      have hx := HX.out
      go_roundw
      case rel => exact ⟨x + 1, _, n2, by rw [EW.out], ⟨by omega⟩, ⟨HS.out.1.trans (S6.out.2.2 _ GG.out), S6.out.1⟩, HF'⟩
      case measure =>
        simp [EW.out, intOf]
        omega
    · have hge : decide (x < (a.size : Int)) = false := decide_eq_false hlt
      have hF := HF.out
      rw [show a.size - x.toNat = 0 by omega, sumC] at hF
      have k0 : wr.cell? ⟨g, 0, none⟩ = some (.int .u32 s') := (blk_cell HS.out.2 0).trans rfl
      clear hlt hx0 hx1 hsz
      go_wp2
      go_ret
      exact ⟨by rw [← hF]; rfl, HS.out.1⟩
theorem sum9 : sumC ⟨#[49, 50, 51, 52, 53, 54, 55, 56, 57]⟩ 9 0 0 = 806403967 := by kernel_rfl
end Go.Proofs.Ythbljhmjppjcjaa.Z
end

section
/- begins: the answers that the document gives are there. -/
namespace Go.Proofs.Ythbljhmjppjcjaa.Z
open Go.RowKit Go.Proofs.YthbljhmjppjcjaaW.PrintWords Go.Proofs.YthbljhmjppjcjaaW.PrintLast Go.Proofs.YthbljhmjppjcjaaW.PrintMore
set_option linter.unusedVariables false
set_option linter.unusedSimpArgs false
theorem index_bytes {l : List Int} (h : l.length = 32) (W : World) : (Instr.index 38 (.agg (l.map (fun x => Value.int .u8 x)).toArray) (.int .i64 0)).run Try.prog W = .ok (.int .u8 (rd l 0)) W := by
  have hs : (Try.prog.info? 5).map (·.size) = some 1 := by kernel_rfl
  have hV : ((l.map (fun x => Value.int .u8 x)).toArray)[0]? = some (.int .u8 (rd l 0)) := by
    rw [List.getElem?_toArray, List.getElem?_map, rd, List.getD_eq_getElem?_getD, List.getElem?_eq_getElem (show (0 : Int).toNat < l.length by rw [h]; decide), List.getElem?_eq_getElem (show 0 < l.length by omega)]
    rfl
  cases hq : Try.prog.info? 5 with
  | none => simp [hq] at hs
  | some i =>
    have hi : i.size = 1 := by simpa [hq] using hs
    obtain ⟨V, hVV⟩ : ∃ V : Array Value, V = (l.map (fun x => Value.int .u8 x)).toArray := ⟨_, rfl⟩
    rw [← hVV] at hV ⊢
    simp [Instr.index, asIntOf, run_underlying Try.underlying38, go_sem, sizeOf, typeInfo, hq, hi, Sem.run_bind]
    rw [hV]
    rfl
def cambiumtop_begins.f : Option Bool := some true
set_option maxRecDepth 100000 in
set_option maxHeartbeats 3200000 in
theorem cambiumtop_begins.calls (r : Bool) (w : World) (h : cambiumtop_begins.f = some r) : Calls Try.prog 4 #[] w fun e w' => e = .returned (.bool r) ∧ Below w.heap.size w w' := by
  obtain rfl := Option.some.inj h
  clear h
  go_enter Try.func4, Try.ntmps4
  go_wp2_with (first
    | (go_at_call 9; refine (sum_calls ⟨#[49, 50, 51, 52, 53, 54, 55, 56, 57]⟩ (by decide) _).mono ?_; rintro e w1 ⟨rfl, hb⟩; rw [show (ByteArray.mk #[49, 50, 51, 52, 53, 54, 55, 56, 57]).size = 9 from rfl, sum9]; have B1 := Aside0.mk hb; clear hb)
    | (go_at_call 10; refine (hsum_calls _).mono ?_; rintro e w2 ⟨l, rfl, hl, h0, hb⟩; have ix := index_bytes hl; rw [h0] at ix; obtain ⟨V, hV⟩ : ∃ V : Array Value, V = (l.map (fun x => Value.int .u8 x)).toArray := ⟨_, rfl⟩; rw [← hV] at ix ⊢; have B2 := Aside0.mk (below_step B1.out hb); clear hb hV hl h0))
  trace_state
  go_ret
  exact ⟨rfl, B2.out⟩
end Go.Proofs.Ythbljhmjppjcjaa.Z
end

section
/- The order of texts, byte by byte; what the walk takes of a text's > and <=. -/
namespace Go.Proofs.Ythbljhmjppjcjaa.Z
open Go
theorem bl_irrefl : ∀ x : List UInt8, Op.bytesLess x x = false
  | [] => rfl
  | a :: x => by simp [Op.bytesLess, bl_irrefl x]
theorem bl_trans : ∀ {x y z : List UInt8}, Op.bytesLess x y = true → Op.bytesLess y z = true → Op.bytesLess x z = true
  | _, [], _, h, _ => by simp [Op.bytesLess] at h
  | [], _ :: _, [], _, h => by simp [Op.bytesLess] at h
  | _ :: _, _ :: _, [], _, h => by simp [Op.bytesLess] at h
  | [], _ :: _, _ :: _, _, _ => rfl
  | a :: x, b :: y, c :: z, h, k => by
    simp only [Op.bytesLess, Bool.or_eq_true, decide_eq_true_eq, Bool.and_eq_true, beq_iff_eq] at h k ⊢
    rcases h with h | ⟨rfl, h⟩ <;> rcases k with k | ⟨rfl, k⟩
    · exact .inl (UInt8.lt_trans h k)
    · exact .inl h
    · exact .inl k
    · exact .inr ⟨rfl, bl_trans h k⟩
theorem bl_total : ∀ x y : List UInt8, x = y ∨ Op.bytesLess x y = true ∨ Op.bytesLess y x = true
  | [], [] => .inl rfl
  | [], _ :: _ => .inr (.inl rfl)
  | _ :: _, [] => .inr (.inr rfl)
  | a :: x, b :: y => by
    simp only [Op.bytesLess, Bool.or_eq_true, decide_eq_true_eq, Bool.and_eq_true, beq_iff_eq]
    rcases Nat.lt_trichotomy a.toNat b.toNat with h | h | h
    · exact .inr (.inl (.inl (UInt8.lt_iff_toNat_lt.2 h)))
    · obtain rfl := UInt8.toNat_inj.1 h
      rcases bl_total x y with rfl | k | k
      · exact .inl rfl
      · exact .inr (.inl (.inr ⟨rfl, k⟩))
      · exact .inr (.inr (.inr ⟨rfl, k⟩))
    · exact .inr (.inr (.inl (UInt8.lt_iff_toNat_lt.2 h)))
theorem bl_asymm {x y : List UInt8} (h : Op.bytesLess x y = true) : Op.bytesLess y x = false := by
  cases k : Op.bytesLess y x
  · rfl
  · have := bl_trans h k; rw [bl_irrefl] at this; cases this
theorem bl_ne {x y : List UInt8} (h : Op.bytesLess x y = true) : x ≠ y := by rintro rfl; rw [bl_irrefl] at h; cases h
theorem bl_leq (x y : List UInt8) : (Op.bytesLess x y || x == y) = !Op.bytesLess y x := by
  rcases bl_total x y with rfl | h | h
  · simp [bl_irrefl]
  · simp [h, bl_asymm h]
  · have : (x == y) = false := by simpa using (bl_ne h).symm
    simp [h, bl_asymm h, this]
theorem bl_gtr (x y : List UInt8) : (!(Op.bytesLess x y || x == y)) = Op.bytesLess y x := by rw [bl_leq]; simp
@[go_sem] theorem binOp_string_gtr_ (t : TypeId) (a b : ByteArray) : binOp .gtr t (.string a) (.string b) = pure (.bool (Op.bytesLess b.toList a.toList)) := by
  simp [binOp, Op.stringOp]
  rw [← Bool.not_or, bl_gtr]
@[go_sem] theorem binOp_string_leq_ (t : TypeId) (a b : ByteArray) : binOp .leq t (.string a) (.string b) = pure (.bool !(Op.bytesLess b.toList a.toList)) := by
  simp [binOp, Op.stringOp]
  rw [bl_leq]
@[go_sem] theorem binOp_string_geq_ (t : TypeId) (a b : ByteArray) : binOp .geq t (.string a) (.string b) = pure (.bool !(Op.bytesLess a.toList b.toList)) := by
  simp [binOp, Op.stringOp]
end Go.Proofs.Ythbljhmjppjcjaa.Z
end
