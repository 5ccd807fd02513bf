/- InodeKeys: at every input the law's function returns true and leaves its arguments as they were; no condition beyond the row's own. Part 6 of 6: this session's own texts, laid together. -/
import Derived.Test.YtocmpidbeagimaaMB1
import Derived.Test.YtocmpidbeagimaaMB3
import Derived.Test.YtocmpidbeagimaaMB2
import Derived.Test.YtocmpidbeagimaaMB4
import Derived.Test.YtocmpidbeagimaaMInodeKeys5
import Derived.Test.YtocmpidbeagimaaRows
import Derived.WalkKit
import Derived.ProofKit
import Derived.OpenShut
import Derived.ShutString
import Derived.ChangeOld
import Derived.Below
import Derived.SizedLaws
import Derived.Carry
section
-- Printed by a program of this session (mp.py) out of the translation.
namespace Go.Proofs.Ytocmpidbeagimaa.Z
open Go.RowKit Go.Proofs.YtocmpidbeagimaaW.PrintWords Go.Proofs.YtocmpidbeagimaaW.PrintLast Go.Proofs.YtocmpidbeagimaaW.PrintMore
attribute [local go_sem] max2_int min2_int max_two min_two max_three min_three max_four min_four   -- for this text's walks alone
set_option linter.unusedVariables false
set_option linter.unusedSimpArgs false

attribute [local go_sem high] eqA37
/-! ### cambiumlaw12_InodeKeys: function 4 -/
def cambiumlaw12_InodeKeys.f (k : Nat) (a0_0 : Int) (a0_1 : Int) (a0_2 : ByteArray) (a0_3 : Int) (a1 : ByteArray) : Option (Bool) := (inode_Key.f k a0_0 a0_1 a0_2 a0_3).bind fun bt279 => ((cambiumref12_Key.f k a0_0 a0_1 a0_2 a0_3).bind fun bt281 => ((inode_Parse.f k a1).bind fun bt283 => ((cambiumref12_Parse.f k a1).bind fun bt289 => ((cambiumlaw12_lives.f k).bind fun t295 => (if t295 = true then (if bt279.1.toList = bt281.1.toList then (if bt279.2 = bt281.2 then (if (bt283.1 == bt289.1 && (bt283.2.1 == bt289.2.1 && (bt283.2.2.1.toList == bt289.2.2.1.toList && (bt283.2.2.2.1 == bt289.2.2.2.1)))) = true then (if bt283.2.2.2.2 = bt289.2.2.2.2 then ((inode_Prefix.f k a0_0 a0_1).bind fun t296 => ((cambiumref12_Prefix.f k a0_0 a0_1).bind fun t297 => (some (t296.toList == t297.toList)))) else (some false)) else (some false)) else (some false)) else (some false)) else (some false))))))
theorem cambiumlaw12_InodeKeys.mono : ∀ a0 a1 a2 a3 a4 k, LeO (cambiumlaw12_InodeKeys.f k a0 a1 a2 a3 a4) (cambiumlaw12_InodeKeys.f (k + 1) a0 a1 a2 a3 a4) := by
  intro a0 a1 a2 a3 a4 k
  unfold cambiumlaw12_InodeKeys.f
  repeat' first
      | (with_reducible exact cambiumlaw12_lives.mono _)
      | (with_reducible exact cambiumref12_Key.mono _ _ _ _ _)
      | (with_reducible exact cambiumref12_Parse.mono _ _)
      | (with_reducible exact cambiumref12_Prefix.mono _ _ _)
      | (with_reducible exact inode_Key.mono _ _ _ _ _)
      | (with_reducible exact inode_Parse.mono _ _)
      | (with_reducible exact inode_Prefix.mono _ _ _)
      | (with_reducible exact LeO.refl _)
      | (with_reducible exact LeO.none _)
      | (with_reducible refine LeO.ite ?_ ?_)
      | (with_reducible refine LeO.bind ?_ (fun _ => ?_))
      | exact cambiumlaw12_lives.mono _
      | exact cambiumref12_Key.mono _ _ _ _ _
      | exact cambiumref12_Parse.mono _ _
      | exact cambiumref12_Prefix.mono _ _ _
      | exact inode_Key.mono _ _ _ _ _
      | exact inode_Parse.mono _ _
      | exact inode_Prefix.mono _ _ _
      | exact LeO.none _
      | refine LeO.ite ?_ ?_
      | refine LeO.bind ?_ (fun _ => ?_)
def cambiumlaw12_InodeKeys.T5 : Bool × List (List Nat × List Nat) := (true, [([], []), ([0, 0], [0]), ([1], [1]), ([1], [1]), ([2, 3, 1], [1, 2, 3]), ([1, 4], [1, 4]), ([5, 1], [5]), ([6], [6]), ([6], [6]), ([7, 8, 6], [6, 7, 8]), ([6, 9], [6, 9]), ([10, 6], [10]), ([11], [11]), ([11], [11]), ([12, 13, 11], [11, 12, 13]), ([11, 14], [11, 14]), ([15, 11], [15]), ([16], [16]), ([16], [16]), ([17, 18, 16], [16, 17, 18]), ([16, 19], [16, 19]), ([20, 16], [20]), ([21], [21]), ([22, 21], [21, 22]), ([21], [21]), ([24, 21], [21, 24]), ([23, 25, 21, 21], [21, 23, 25]), ([21], [21]), ([27, 21], [21, 27]), ([21], [21]), ([29, 21], [21, 29]), ([28, 30, 26, 21], [21, 28, 30]), ([26, 31, 21], [21, 26, 31]), ([21, 32], [21, 32]), ([33, 31, 0, 1, 2, 3, 4, 5, 6, 7, 8, 9, 10, 11, 12, 13, 14, 15, 16, 17, 18, 19, 20, 21, 22, 23, 24, 25, 26, 27, 28, 29, 30, 31, 32, 33], [33])])
def cambiumlaw12_InodeKeys.B5 : List Nat := [0, 1, 3, 3, 15, 31, 63, 127, 127, 511, 1023, 2047, 4095, 4095, 16383, 32767, 65535, 131071, 131071, 524287, 1048575, 2097151, 4194303, 8388607, 4194303, 20971519, 67108863, 4194303, 138412031, 4194303, 541065215, 2147483647, 4294967295, 8589934591, 17179869183]
theorem cambiumlaw12_InodeKeys.tab5 : rtab .any (opsOf Try.f4 5) = cambiumlaw12_InodeKeys.T5 := by kernel_rfl
theorem cambiumlaw12_InodeKeys.bits5 : waitsOk cambiumlaw12_InodeKeys.T5.2 cambiumlaw12_InodeKeys.B5 = true := by kernel_rfl
set_option maxHeartbeats 8000000 in
set_option maxRecDepth 100000 in
theorem cambiumlaw12_InodeKeys.calls (k : Nat) (a0_0 : Int) (a0_1 : Int) (a0_2 : ByteArray) (a0_3 : Int) (a1 : ByteArray) (r : Bool) (w : World) (h : cambiumlaw12_InodeKeys.f k a0_0 a0_1 a0_2 a0_3 a1 = some r) (hT_ : r = true := by rfl) :
    Calls Try.prog 4 #[.agg #[.int .u8 a0_0, .int .u32 a0_1, .string a0_2, .int .u32 a0_3], .string a1] w fun e w' => e = .returned (.bool r) ∧ Below w.heap.size w w' := by
  have HT_ := Aside0.mk hT_
  clear hT_
  have hu37 := Try.underlying37
  have HB := Aside0.mk (Below.refl w.heap.size w)
  have H : ((inode_Key.f k a0_0 a0_1 a0_2 a0_3).bind fun bt279 => ((cambiumref12_Key.f k a0_0 a0_1 a0_2 a0_3).bind fun bt281 => ((inode_Parse.f k a1).bind fun bt283 => ((cambiumref12_Parse.f k a1).bind fun bt289 => ((cambiumlaw12_lives.f k).bind fun t295 => (if t295 = true then (if bt279.1.toList = bt281.1.toList then (if bt279.2 = bt281.2 then (if (bt283.1 == bt289.1 && (bt283.2.1 == bt289.2.1 && (bt283.2.2.1.toList == bt289.2.2.1.toList && (bt283.2.2.2.1 == bt289.2.2.2.1)))) = true then (if bt283.2.2.2.2 = bt289.2.2.2.2 then ((inode_Prefix.f k a0_0 a0_1).bind fun t296 => ((cambiumref12_Prefix.f k a0_0 a0_1).bind fun t297 => (some (t296.toList == t297.toList)))) else (some false)) else (some false)) else (some false)) else (some false)) else (some false))))))) = some r := h
  clear h
  replace H := Option.bind_eq_some_iff.mp H
  obtain ⟨⟨t279, t280⟩, A30, H⟩ := H
  replace H : ((cambiumref12_Key.f k a0_0 a0_1 a0_2 a0_3).bind fun bt281 => ((inode_Parse.f k a1).bind fun bt283 => ((cambiumref12_Parse.f k a1).bind fun bt289 => ((cambiumlaw12_lives.f k).bind fun t295 => (if t295 = true then (if t279.toList = bt281.1.toList then (if t280 = bt281.2 then (if (bt283.1 == bt289.1 && (bt283.2.1 == bt289.2.1 && (bt283.2.2.1.toList == bt289.2.2.1.toList && (bt283.2.2.2.1 == bt289.2.2.2.1)))) = true then (if bt283.2.2.2.2 = bt289.2.2.2.2 then ((inode_Prefix.f k a0_0 a0_1).bind fun t296 => ((cambiumref12_Prefix.f k a0_0 a0_1).bind fun t297 => (some (t296.toList == t297.toList)))) else (some false)) else (some false)) else (some false)) else (some false)) else (some false)))))) = some r := H
  have A3 := Aside0.mk A30
  clear A30
  replace H := Option.bind_eq_some_iff.mp H
  obtain ⟨⟨t281, t282⟩, A40, H⟩ := H
  replace H : ((inode_Parse.f k a1).bind fun bt283 => ((cambiumref12_Parse.f k a1).bind fun bt289 => ((cambiumlaw12_lives.f k).bind fun t295 => (if t295 = true then (if t279.toList = t281.toList then (if t280 = t282 then (if (bt283.1 == bt289.1 && (bt283.2.1 == bt289.2.1 && (bt283.2.2.1.toList == bt289.2.2.1.toList && (bt283.2.2.2.1 == bt289.2.2.2.1)))) = true then (if bt283.2.2.2.2 = bt289.2.2.2.2 then ((inode_Prefix.f k a0_0 a0_1).bind fun t296 => ((cambiumref12_Prefix.f k a0_0 a0_1).bind fun t297 => (some (t296.toList == t297.toList)))) else (some false)) else (some false)) else (some false)) else (some false)) else (some false))))) = some r := H
  have A4 := Aside0.mk A40
  clear A40
  replace H := Option.bind_eq_some_iff.mp H
  obtain ⟨⟨t283, t284, t285, t286, t287⟩, A50, H⟩ := H
  replace H : ((cambiumref12_Parse.f k a1).bind fun bt289 => ((cambiumlaw12_lives.f k).bind fun t295 => (if t295 = true then (if t279.toList = t281.toList then (if t280 = t282 then (if (t283 == bt289.1 && (t284 == bt289.2.1 && (t285.toList == bt289.2.2.1.toList && (t286 == bt289.2.2.2.1)))) = true then (if t287 = bt289.2.2.2.2 then ((inode_Prefix.f k a0_0 a0_1).bind fun t296 => ((cambiumref12_Prefix.f k a0_0 a0_1).bind fun t297 => (some (t296.toList == t297.toList)))) else (some false)) else (some false)) else (some false)) else (some false)) else (some false)))) = some r := H
  have A5 := Aside0.mk A50
  clear A50
  replace H := Option.bind_eq_some_iff.mp H
  obtain ⟨⟨t289, t290, t291, t292, t293⟩, A60, H⟩ := H
  replace H : ((cambiumlaw12_lives.f k).bind fun t295 => (if t295 = true then (if t279.toList = t281.toList then (if t280 = t282 then (if (t283 == t289 && (t284 == t290 && (t285.toList == t291.toList && (t286 == t292)))) = true then (if t287 = t293 then ((inode_Prefix.f k a0_0 a0_1).bind fun t296 => ((cambiumref12_Prefix.f k a0_0 a0_1).bind fun t297 => (some (t296.toList == t297.toList)))) else (some false)) else (some false)) else (some false)) else (some false)) else (some false))) = some r := H
  have A6 := Aside0.mk A60
  clear A60
  replace H := Option.bind_eq_some_iff.mp H
  obtain ⟨t295, A70, H⟩ := H
  replace H : (if t295 = true then (if t279.toList = t281.toList then (if t280 = t282 then (if (t283 == t289 && (t284 == t290 && (t285.toList == t291.toList && (t286 == t292)))) = true then (if t287 = t293 then ((inode_Prefix.f k a0_0 a0_1).bind fun t296 => ((cambiumref12_Prefix.f k a0_0 a0_1).bind fun t297 => (some (t296.toList == t297.toList)))) else (some false)) else (some false)) else (some false)) else (some false)) else (some false)) = some r := H
  have A7 := Aside0.mk A70
  clear A70
  by_cases c8 : t295 = true
  · subst c8
    have H1 : (if t279.toList = t281.toList then (if t280 = t282 then (if (t283 == t289 && (t284 == t290 && (t285.toList == t291.toList && (t286 == t292)))) = true then (if t287 = t293 then ((inode_Prefix.f k a0_0 a0_1).bind fun t296 => ((cambiumref12_Prefix.f k a0_0 a0_1).bind fun t297 => (some (t296.toList == t297.toList)))) else (some false)) else (some false)) else (some false)) else (some false)) = some r := by rw [if_pos rfl] at H; exact H
    clear H
    have H := H1
    clear H1
    by_cases c9 : t279.toList = t281.toList
    · rw [if_pos c9] at H
      have c9b0 : (t279.toList == t281.toList) = true := beq_iff_eq.mpr c9
      have c9b1 : (t279.toList != t281.toList) = false := bne_eq_false_iff_eq.mpr c9
      clear c9
      by_cases c10 : t280 = t282
      · rw [if_pos c10] at H
        have c10b0 : (t280 == t282) = true := beq_iff_eq.mpr c10
        have c10b1 : (t280 != t282) = false := bne_eq_false_iff_eq.mpr c10
        clear c10
        by_cases c11 : (t283 == t289 && (t284 == t290 && (t285.toList == t291.toList && (t286 == t292)))) = true
        · rw [if_pos c11] at H
          have c11b0 : (t283 == t289 && (t284 == t290 && (t285.toList == t291.toList && (t286 == t292)))) = true := c11
          (try (have c11b0s1 := c11b0; simp only [c9b0, c10b0, Bool.false_and, Bool.true_and, Bool.and_false, Bool.and_true, Bool.bne_false, Bool.bne_true, Bool.not_eq_true', Bool.not_eq_false'] at c11b0s1))
          (try (have c11b1 : decide (t283 = t289 && (t284 == t290 && (t285.toList == t291.toList && (t286 == t292)))) = true := by simpa using c11))
          (try (have c11b2 : (t283 == t289 && (t284 == t290 && (t285.toList == t291.toList && (t286 == t292)))) = true := by simpa using c11))
          clear c11
          by_cases c12 : t287 = t293
          · rw [if_pos c12] at H
            have c12b0 : (t287 == t293) = true := beq_iff_eq.mpr c12
            (try (have c11b0s2 := c11b0; simp only [c9b0, c10b0, c12b0, Bool.false_and, Bool.true_and, Bool.and_false, Bool.and_true, Bool.bne_false, Bool.bne_true, Bool.not_eq_true', Bool.not_eq_false'] at c11b0s2))
            have c12b1 : (t287 != t293) = false := bne_eq_false_iff_eq.mpr c12
            clear c12
            replace H := Option.bind_eq_some_iff.mp H
            obtain ⟨t296, A130, H⟩ := H
            replace H : ((cambiumref12_Prefix.f k a0_0 a0_1).bind fun t297 => (some (t296.toList == t297.toList))) = some r := H
            have A13 := Aside0.mk A130
            clear A130
            replace H := Option.bind_eq_some_iff.mp H
            obtain ⟨t297, A140, H⟩ := H
            replace H : (some (t296.toList == t297.toList)) = some r := H
            have A14 := Aside0.mk A140
            clear A140
            obtain rfl := Option.some.inj H
            go_enter Try.func4, Try.ntmps4
            try go_wp2_with (first | ((with_reducible refine gate_dst (N := 2) rfl ?_); refine box_event ?hg (N := 2) ?hd (cs := #[.int .u8 a0_0, .int .u32 a0_1, .string a0_2, .int .u32 a0_3]) (t := 37) ?hr ?_; (case hd => rfl); (case hg => rfl); (case hr => first | (go_simp; done) | (go_simp; rfl)); intro gb278 hg w15 hbox hb; have n0_ := Aside0.mk (below_step (by repeat (first | (with_reducible first | exact HB.out | apply below_alloc | apply pw_below_drewN | apply below_drew1) | exact HB.out)) hb); have n1_ := Aside0.mk (hbox); have n2_ := Aside0.mk ((by rw [hg]; exact (below_size (by repeat (first | (with_reducible first | exact HB.out | apply below_alloc | apply pw_below_drewN | apply below_drew1) | exact HB.out))) : w.heap.size ≤ gb278)); have n3_ := Aside0.mk ((by rw [hg]; exact (below_size (by repeat (first | (with_reducible first | exact HB.out | apply below_alloc | apply pw_below_drewN | apply below_drew1) | exact HB.out))) : w.heap.size ≤ gb278)); clear HB; have HB := n0_; have BK278 := n1_; have GW278 := n2_; have GE278 := n3_; clear n0_ n1_ n2_ n3_; clear hb hbox hg; have hcz16_0 : w15.cell? ⟨gb278, 0, none⟩ = some (.int .u8 a0_0) := (blk_cell BK278.out 0).trans rfl; have hcz16_1 : w15.cell? ⟨gb278, 1, none⟩ = some (.int .u32 a0_1) := (blk_cell BK278.out 1).trans rfl; have hcz16_2 : w15.cell? ⟨gb278, 2, none⟩ = some (.string a0_2) := (blk_cell BK278.out 2).trans rfl; have hcz16_3 : w15.cell? ⟨gb278, 3, none⟩ = some (.int .u32 a0_3) := (blk_cell BK278.out 3).trans rfl; have hfz16_0 := blk_frozen BK278.out 0; have hfz16_1 := blk_frozen BK278.out 1; have hfz16_2 := blk_frozen BK278.out 2; have hfz16_3 := blk_frozen BK278.out 3) | ((with_reducible refine gate_callee (f := 15) rfl ?_); refine goesL_ (some 15) rfl rfl Try.func15 (by kernel_rfl) rfl #[.agg #[.int .u8 a0_0, .int .u32 a0_1, .string a0_2, .int .u32 a0_3]] rfl (by (try simp only [List.map_toArray, List.map_cons, List.map_nil]); first | done | rfl | (simp only [List.length_drop, List.length_take]; rfl)) ?_; (with_reducible refine (inode_Key.calls k a0_0 a0_1 a0_2 a0_3 t279 t280 _ A3.out).mono ?_); rintro e w17 ⟨rfl, hb⟩; refine ⟨_, rfl, ?_⟩; have n0_ := Aside0.mk (blk_below (g := gb278) (o := .cells #[.int .u8 a0_0, .int .u32 a0_1, .string a0_2, .int .u32 a0_3] 37 (0, 0)) (by (with_reducible repeat (first | refine blk_drewN ?_ _ | refine blk_drew ?_ | refine blk_alloc ?_ _)); exact BK278.out) hb); have n1_ := Aside0.mk (below_step (by repeat (first | (with_reducible first | exact HB.out | apply below_alloc | apply pw_below_drewN | apply below_drew1 | refine below_set ?_ GE278.out) | exact HB.out)) hb); clear BK278; clear HB; have BK278 := n0_; have HB := n1_; clear n0_ n1_; (try clear hb); (try clear hb2); (try clear hk); (try clear hi); have hcz18_0 : w17.cell? ⟨gb278, 0, none⟩ = some (.int .u8 a0_0) := (blk_cell BK278.out 0).trans rfl; have hcz18_1 : w17.cell? ⟨gb278, 1, none⟩ = some (.int .u32 a0_1) := (blk_cell BK278.out 1).trans rfl; have hcz18_2 : w17.cell? ⟨gb278, 2, none⟩ = some (.string a0_2) := (blk_cell BK278.out 2).trans rfl; have hcz18_3 : w17.cell? ⟨gb278, 3, none⟩ = some (.int .u32 a0_3) := (blk_cell BK278.out 3).trans rfl; have hfz18_0 := blk_frozen BK278.out 0; have hfz18_1 := blk_frozen BK278.out 1; have hfz18_2 := blk_frozen BK278.out 2; have hfz18_3 := blk_frozen BK278.out 3) | ((with_reducible refine gate_callee (f := 16) rfl ?_); refine goesL_ (some 20) rfl rfl Try.func16 (by kernel_rfl) rfl #[.agg #[.int .u8 a0_0, .int .u32 a0_1, .string a0_2, .int .u32 a0_3]] rfl (by (try simp only [List.map_toArray, List.map_cons, List.map_nil]); first | done | rfl | (simp only [List.length_drop, List.length_take]; rfl)) ?_; (with_reducible refine (cambiumref12_Key.calls k a0_0 a0_1 a0_2 a0_3 t281 t282 _ A4.out).mono ?_); rintro e w19 ⟨rfl, hb⟩; refine ⟨_, rfl, ?_⟩; have n0_ := Aside0.mk (blk_below (g := gb278) (o := .cells #[.int .u8 a0_0, .int .u32 a0_1, .string a0_2, .int .u32 a0_3] 37 (0, 0)) (by (with_reducible repeat (first | refine blk_drewN ?_ _ | refine blk_drew ?_ | refine blk_alloc ?_ _)); exact BK278.out) hb); have n1_ := Aside0.mk (below_step (by repeat (first | (with_reducible first | exact HB.out | apply below_alloc | apply pw_below_drewN | apply below_drew1 | refine below_set ?_ GE278.out) | exact HB.out)) hb); clear BK278; clear HB; have BK278 := n0_; have HB := n1_; clear n0_ n1_; (try clear hb); (try clear hb2); (try clear hk); (try clear hi)) | ((with_reducible refine gate_callee (f := 17) rfl ?_); refine goesL_ (some 25) rfl rfl Try.func17 (by kernel_rfl) rfl #[.string a1] rfl (by (try simp only [List.map_toArray, List.map_cons, List.map_nil]); first | done | rfl | (simp only [List.length_drop, List.length_take]; rfl)) ?_; (with_reducible refine (inode_Parse.calls k a1 t283 t284 t285 t286 t287 _ A5.out).mono ?_); rintro e w20 ⟨rfl, hb⟩; refine ⟨_, rfl, ?_⟩; have n0_ := Aside0.mk (blk_below (g := gb278) (o := .cells #[.int .u8 a0_0, .int .u32 a0_1, .string a0_2, .int .u32 a0_3] 37 (0, 0)) (by (with_reducible repeat (first | refine blk_drewN ?_ _ | refine blk_drew ?_ | refine blk_alloc ?_ _)); exact BK278.out) hb); have n1_ := Aside0.mk (below_step (by repeat (first | (with_reducible first | exact HB.out | apply below_alloc | apply pw_below_drewN | apply below_drew1 | refine below_set ?_ GE278.out) | exact HB.out)) hb); clear BK278; clear HB; have BK278 := n0_; have HB := n1_; clear n0_ n1_; (try clear hb); (try clear hb2); (try clear hk); (try clear hi)) | ((with_reducible refine gate_dst (N := 9) rfl ?_); refine box_event ?hg (N := 9) ?hd (cs := #[.int .u8 0, .int .u32 0, .string (⟨#[]⟩ : ByteArray), .int .u32 0]) (t := 37) ?hr ?_; (case hd => rfl); (case hg => rfl); (case hr => first | (go_simp; done) | (go_simp; rfl)); intro gb288 hg w21 hbox hb; have n0_ := Aside0.mk (blk_below (g := gb278) (o := .cells #[.int .u8 a0_0, .int .u32 a0_1, .string a0_2, .int .u32 a0_3] 37 (0, 0)) (by (with_reducible repeat (first | refine blk_drewN ?_ _ | refine blk_drew ?_ | refine blk_alloc ?_ _)); exact BK278.out) hb); have n1_ := Aside0.mk (below_step (by repeat (first | (with_reducible first | exact HB.out | apply below_alloc | apply pw_below_drewN | apply below_drew1 | refine below_set ?_ GE278.out) | exact HB.out)) hb); have n2_ := Aside0.mk (hbox); have n3_ := Aside0.mk ((by rw [hg]; exact (below_size (by repeat (first | (with_reducible first | exact HB.out | apply below_alloc | apply pw_below_drewN | apply below_drew1 | refine below_set ?_ GE278.out) | exact HB.out))) : w.heap.size ≤ gb288)); have n4_ := Aside0.mk ((by rw [hg]; exact (below_size (by repeat (first | (with_reducible first | exact HB.out | apply below_alloc | apply pw_below_drewN | apply below_drew1 | refine below_set ?_ GE278.out) | exact HB.out))) : w.heap.size ≤ gb288)); have n5_ := Aside0.mk ((by rw [hg]; exact Nat.ne_of_lt (blk_lt (g := gb278) (o := .cells #[.int .u8 a0_0, .int .u32 a0_1, .string a0_2, .int .u32 a0_3] 37 (0, 0)) (by (with_reducible repeat (first | refine blk_drewN ?_ _ | refine blk_drew ?_ | refine blk_alloc ?_ _)); exact BK278.out)) : gb278 ≠ gb288)); have n6_ := Aside0.mk ((by rw [hg]; exact Nat.ne_of_gt (blk_lt (g := gb278) (o := .cells #[.int .u8 a0_0, .int .u32 a0_1, .string a0_2, .int .u32 a0_3] 37 (0, 0)) (by (with_reducible repeat (first | refine blk_drewN ?_ _ | refine blk_drew ?_ | refine blk_alloc ?_ _)); exact BK278.out)) : gb288 ≠ gb278)); clear BK278; clear HB; have BK278 := n0_; have HB := n1_; have BK288 := n2_; have GW288 := n3_; have GE288 := n4_; have NB278_288 := n5_; have NB288_278 := n6_; clear n0_ n1_ n2_ n3_ n4_ n5_ n6_; clear hb hbox hg; have hnb22 := NB288_278.out; have hnc22 := NB278_288.out; have hcz23_0 : w21.cell? ⟨gb288, 0, none⟩ = some (.int .u8 0) := (blk_cell BK288.out 0).trans rfl; have hcz23_1 : w21.cell? ⟨gb288, 1, none⟩ = some (.int .u32 0) := (blk_cell BK288.out 1).trans rfl; have hcz23_2 : w21.cell? ⟨gb288, 2, none⟩ = some (.string (⟨#[]⟩ : ByteArray)) := (blk_cell BK288.out 2).trans rfl; have hcz23_3 : w21.cell? ⟨gb288, 3, none⟩ = some (.int .u32 0) := (blk_cell BK288.out 3).trans rfl; have hfz23_0 := blk_frozen BK288.out 0; have hfz23_1 := blk_frozen BK288.out 1; have hfz23_2 := blk_frozen BK288.out 2; have hfz23_3 := blk_frozen BK288.out 3) | ((with_reducible refine gate_callee (f := 18) rfl ?_); refine goesL_ (some 30) rfl rfl Try.func18 (by kernel_rfl) rfl #[.string a1] rfl (by (try simp only [List.map_toArray, List.map_cons, List.map_nil]); first | done | rfl | (simp only [List.length_drop, List.length_take]; rfl)) ?_; (with_reducible refine (cambiumref12_Parse.calls k a1 t289 t290 t291 t292 t293 _ A6.out).mono ?_); rintro e w24 ⟨rfl, hb⟩; refine ⟨_, rfl, ?_⟩; have n0_ := Aside0.mk (blk_below (g := gb278) (o := .cells #[.int .u8 a0_0, .int .u32 a0_1, .string a0_2, .int .u32 a0_3] 37 (0, 0)) (by (with_reducible repeat (first | refine blk_drewN ?_ _ | refine blk_drew ?_ | refine blk_alloc ?_ _)); refine blk_far ?_ NB278_288.out _; (with_reducible repeat (first | refine blk_drewN ?_ _ | refine blk_drew ?_ | refine blk_alloc ?_ _)); refine blk_far ?_ NB278_288.out _; (with_reducible repeat (first | refine blk_drewN ?_ _ | refine blk_drew ?_ | refine blk_alloc ?_ _)); refine blk_far ?_ NB278_288.out _; (with_reducible repeat (first | refine blk_drewN ?_ _ | refine blk_drew ?_ | refine blk_alloc ?_ _)); refine blk_far ?_ NB278_288.out _; (with_reducible repeat (first | refine blk_drewN ?_ _ | refine blk_drew ?_ | refine blk_alloc ?_ _)); exact BK278.out) hb); have n1_ := Aside0.mk (blk_below (g := gb288) (o := .cells #[.int .u8 t283, .int .u32 t284, .string t285, .int .u32 t286] 37 (0, 0)) (by (with_reducible repeat (first | refine blk_drewN ?_ _ | refine blk_drew ?_ | refine blk_alloc ?_ _)); refine blk_put (cs := #[.int .u8 t283, .int .u32 t284, .string t285, .int .u32 0]) ?_ 3 _ rfl; (with_reducible repeat (first | refine blk_drewN ?_ _ | refine blk_drew ?_ | refine blk_alloc ?_ _)); refine blk_put (cs := #[.int .u8 t283, .int .u32 t284, .string (⟨#[]⟩ : ByteArray), .int .u32 0]) ?_ 2 _ rfl; (with_reducible repeat (first | refine blk_drewN ?_ _ | refine blk_drew ?_ | refine blk_alloc ?_ _)); refine blk_put (cs := #[.int .u8 t283, .int .u32 0, .string (⟨#[]⟩ : ByteArray), .int .u32 0]) ?_ 1 _ rfl; (with_reducible repeat (first | refine blk_drewN ?_ _ | refine blk_drew ?_ | refine blk_alloc ?_ _)); refine blk_put (cs := #[.int .u8 0, .int .u32 0, .string (⟨#[]⟩ : ByteArray), .int .u32 0]) ?_ 0 _ rfl; (with_reducible repeat (first | refine blk_drewN ?_ _ | refine blk_drew ?_ | refine blk_alloc ?_ _)); exact BK288.out) hb); have n2_ := Aside0.mk (below_step (by repeat (first | (with_reducible first | exact HB.out | apply below_alloc | apply pw_below_drewN | apply below_drew1 | refine below_set ?_ GE278.out | refine below_set ?_ GE288.out) | exact HB.out)) hb); clear BK278; clear BK288; clear HB; have BK278 := n0_; have BK288 := n1_; have HB := n2_; clear n0_ n1_ n2_; (try clear hb); (try clear hb2); (try clear hk); (try clear hi)) | ((with_reducible refine gate_dst (N := 11) rfl ?_); refine box_event ?hg (N := 11) ?hd (cs := #[.int .u8 0, .int .u32 0, .string (⟨#[]⟩ : ByteArray), .int .u32 0]) (t := 37) ?hr ?_; (case hd => rfl); (case hg => rfl); (case hr => first | (go_simp; done) | (go_simp; rfl)); intro gb294 hg w25 hbox hb; have n0_ := Aside0.mk (blk_below (g := gb278) (o := .cells #[.int .u8 a0_0, .int .u32 a0_1, .string a0_2, .int .u32 a0_3] 37 (0, 0)) (by (with_reducible repeat (first | refine blk_drewN ?_ _ | refine blk_drew ?_ | refine blk_alloc ?_ _)); exact BK278.out) hb); have n1_ := Aside0.mk (blk_below (g := gb288) (o := .cells #[.int .u8 t283, .int .u32 t284, .string t285, .int .u32 t286] 37 (0, 0)) (by (with_reducible repeat (first | refine blk_drewN ?_ _ | refine blk_drew ?_ | refine blk_alloc ?_ _)); exact BK288.out) hb); have n2_ := Aside0.mk (below_step (by repeat (first | (with_reducible first | exact HB.out | apply below_alloc | apply pw_below_drewN | apply below_drew1 | refine below_set ?_ GE278.out | refine below_set ?_ GE288.out) | exact HB.out)) hb); have n3_ := Aside0.mk (hbox); have n4_ := Aside0.mk ((by rw [hg]; exact (below_size (by repeat (first | (with_reducible first | exact HB.out | apply below_alloc | apply pw_below_drewN | apply below_drew1 | refine below_set ?_ GE278.out | refine below_set ?_ GE288.out) | exact HB.out))) : w.heap.size ≤ gb294)); have n5_ := Aside0.mk ((by rw [hg]; exact (below_size (by repeat (first | (with_reducible first | exact HB.out | apply below_alloc | apply pw_below_drewN | apply below_drew1 | refine below_set ?_ GE278.out | refine below_set ?_ GE288.out) | exact HB.out))) : w.heap.size ≤ gb294)); have n6_ := Aside0.mk ((by rw [hg]; exact Nat.ne_of_lt (blk_lt (g := gb278) (o := .cells #[.int .u8 a0_0, .int .u32 a0_1, .string a0_2, .int .u32 a0_3] 37 (0, 0)) (by (with_reducible repeat (first | refine blk_drewN ?_ _ | refine blk_drew ?_ | refine blk_alloc ?_ _)); exact BK278.out)) : gb278 ≠ gb294)); have n7_ := Aside0.mk ((by rw [hg]; exact Nat.ne_of_gt (blk_lt (g := gb278) (o := .cells #[.int .u8 a0_0, .int .u32 a0_1, .string a0_2, .int .u32 a0_3] 37 (0, 0)) (by (with_reducible repeat (first | refine blk_drewN ?_ _ | refine blk_drew ?_ | refine blk_alloc ?_ _)); exact BK278.out)) : gb294 ≠ gb278)); have n8_ := Aside0.mk ((by rw [hg]; exact Nat.ne_of_lt (blk_lt (g := gb288) (o := .cells #[.int .u8 t283, .int .u32 t284, .string t285, .int .u32 t286] 37 (0, 0)) (by (with_reducible repeat (first | refine blk_drewN ?_ _ | refine blk_drew ?_ | refine blk_alloc ?_ _)); exact BK288.out)) : gb288 ≠ gb294)); have n9_ := Aside0.mk ((by rw [hg]; exact Nat.ne_of_gt (blk_lt (g := gb288) (o := .cells #[.int .u8 t283, .int .u32 t284, .string t285, .int .u32 t286] 37 (0, 0)) (by (with_reducible repeat (first | refine blk_drewN ?_ _ | refine blk_drew ?_ | refine blk_alloc ?_ _)); exact BK288.out)) : gb294 ≠ gb288)); clear BK278; clear BK288; clear HB; have BK278 := n0_; have BK288 := n1_; have HB := n2_; have BK294 := n3_; have GW294 := n4_; have GE294 := n5_; have NB278_294 := n6_; have NB294_278 := n7_; have NB288_294 := n8_; have NB294_288 := n9_; clear n0_ n1_ n2_ n3_ n4_ n5_ n6_ n7_ n8_ n9_; clear hb hbox hg; have hnb26 := NB294_278.out; have hnc26 := NB278_294.out; have hnb27 := NB294_288.out; have hnc27 := NB288_294.out; have hcz28_0 : w25.cell? ⟨gb294, 0, none⟩ = some (.int .u8 0) := (blk_cell BK294.out 0).trans rfl; have hcz28_1 : w25.cell? ⟨gb294, 1, none⟩ = some (.int .u32 0) := (blk_cell BK294.out 1).trans rfl; have hcz28_2 : w25.cell? ⟨gb294, 2, none⟩ = some (.string (⟨#[]⟩ : ByteArray)) := (blk_cell BK294.out 2).trans rfl; have hcz28_3 : w25.cell? ⟨gb294, 3, none⟩ = some (.int .u32 0) := (blk_cell BK294.out 3).trans rfl; have hfz28_0 := blk_frozen BK294.out 0; have hfz28_1 := blk_frozen BK294.out 1; have hfz28_2 := blk_frozen BK294.out 2; have hfz28_3 := blk_frozen BK294.out 3))
            have n0_ : Aside0 (((((w25.setCell ⟨gb294, 0, none⟩ (.int .u8 t289)).setCell ⟨gb294, 1, none⟩ (.int .u32 t290)).setCell ⟨gb294, 2, none⟩ (.string t291)).setCell ⟨gb294, 3, none⟩ (.int .u32 t292)).heap[gb278]? = some (.cells #[.int .u8 a0_0, .int .u32 a0_1, .string a0_2, .int .u32 a0_3] 37 (0, 0))) := ⟨by (with_reducible repeat (first | refine blk_drewN ?_ _ | refine blk_drew ?_ | refine blk_alloc ?_ _)); refine blk_far ?_ NB278_294.out _; (with_reducible repeat (first | refine blk_drewN ?_ _ | refine blk_drew ?_ | refine blk_alloc ?_ _)); refine blk_far ?_ NB278_294.out _; (with_reducible repeat (first | refine blk_drewN ?_ _ | refine blk_drew ?_ | refine blk_alloc ?_ _)); refine blk_far ?_ NB278_294.out _; (with_reducible repeat (first | refine blk_drewN ?_ _ | refine blk_drew ?_ | refine blk_alloc ?_ _)); refine blk_far ?_ NB278_294.out _; (with_reducible repeat (first | refine blk_drewN ?_ _ | refine blk_drew ?_ | refine blk_alloc ?_ _)); exact BK278.out⟩
            have n1_ : Aside0 (((((w25.setCell ⟨gb294, 0, none⟩ (.int .u8 t289)).setCell ⟨gb294, 1, none⟩ (.int .u32 t290)).setCell ⟨gb294, 2, none⟩ (.string t291)).setCell ⟨gb294, 3, none⟩ (.int .u32 t292)).heap[gb288]? = some (.cells #[.int .u8 t283, .int .u32 t284, .string t285, .int .u32 t286] 37 (0, 0))) := ⟨by (with_reducible repeat (first | refine blk_drewN ?_ _ | refine blk_drew ?_ | refine blk_alloc ?_ _)); refine blk_far ?_ NB288_294.out _; (with_reducible repeat (first | refine blk_drewN ?_ _ | refine blk_drew ?_ | refine blk_alloc ?_ _)); refine blk_far ?_ NB288_294.out _; (with_reducible repeat (first | refine blk_drewN ?_ _ | refine blk_drew ?_ | refine blk_alloc ?_ _)); refine blk_far ?_ NB288_294.out _; (with_reducible repeat (first | refine blk_drewN ?_ _ | refine blk_drew ?_ | refine blk_alloc ?_ _)); refine blk_far ?_ NB288_294.out _; (with_reducible repeat (first | refine blk_drewN ?_ _ | refine blk_drew ?_ | refine blk_alloc ?_ _)); exact BK288.out⟩
            have n2_ : Aside0 (((((w25.setCell ⟨gb294, 0, none⟩ (.int .u8 t289)).setCell ⟨gb294, 1, none⟩ (.int .u32 t290)).setCell ⟨gb294, 2, none⟩ (.string t291)).setCell ⟨gb294, 3, none⟩ (.int .u32 t292)).heap[gb294]? = some (.cells #[.int .u8 t289, .int .u32 t290, .string t291, .int .u32 t292] 37 (0, 0))) := ⟨by (with_reducible repeat (first | refine blk_drewN ?_ _ | refine blk_drew ?_ | refine blk_alloc ?_ _)); refine blk_put (cs := #[.int .u8 t289, .int .u32 t290, .string t291, .int .u32 0]) ?_ 3 _ rfl; (with_reducible repeat (first | refine blk_drewN ?_ _ | refine blk_drew ?_ | refine blk_alloc ?_ _)); refine blk_put (cs := #[.int .u8 t289, .int .u32 t290, .string (⟨#[]⟩ : ByteArray), .int .u32 0]) ?_ 2 _ rfl; (with_reducible repeat (first | refine blk_drewN ?_ _ | refine blk_drew ?_ | refine blk_alloc ?_ _)); refine blk_put (cs := #[.int .u8 t289, .int .u32 0, .string (⟨#[]⟩ : ByteArray), .int .u32 0]) ?_ 1 _ rfl; (with_reducible repeat (first | refine blk_drewN ?_ _ | refine blk_drew ?_ | refine blk_alloc ?_ _)); refine blk_put (cs := #[.int .u8 0, .int .u32 0, .string (⟨#[]⟩ : ByteArray), .int .u32 0]) ?_ 0 _ rfl; (with_reducible repeat (first | refine blk_drewN ?_ _ | refine blk_drew ?_ | refine blk_alloc ?_ _)); exact BK294.out⟩
            have n3_ : Aside0 (Below w.heap.size w ((((w25.setCell ⟨gb294, 0, none⟩ (.int .u8 t289)).setCell ⟨gb294, 1, none⟩ (.int .u32 t290)).setCell ⟨gb294, 2, none⟩ (.string t291)).setCell ⟨gb294, 3, none⟩ (.int .u32 t292))) := ⟨by repeat (first | (with_reducible first | exact HB.out | apply below_alloc | apply pw_below_drewN | apply below_drew1 | refine below_set ?_ GE278.out | refine below_set ?_ GE288.out | refine below_set ?_ GE294.out) | exact HB.out)⟩
            (try clear BK278)
            (try clear BK288)
            (try clear BK294)
            (try clear HB)
            generalize ((((w25.setCell ⟨gb294, 0, none⟩ (.int .u8 t289)).setCell ⟨gb294, 1, none⟩ (.int .u32 t290)).setCell ⟨gb294, 2, none⟩ (.string t291)).setCell ⟨gb294, 3, none⟩ (.int .u32 t292)) = w29 at n0_ n1_ n2_ n3_ ⊢
            have BK278 := n0_
            have BK288 := n1_
            have BK294 := n2_
            have HB := n3_
            clear n0_ n1_ n2_ n3_
            have n0_ := Aside0.mk (blk_drew BK278.out)
            have n1_ := Aside0.mk (blk_drew BK288.out)
            have n2_ := Aside0.mk (blk_drew BK294.out)
            have n3_ := Aside0.mk (below_drew1 HB.out)
            clear BK278
            clear BK288
            clear BK294
            clear HB
            have BK278 := n0_
            have BK288 := n1_
            have BK294 := n2_
            have HB := n3_
            clear n0_ n1_ n2_ n3_
            refine start_ (n := 35) (S := fun w' => w'.cell? ⟨gb288, 0, none⟩ = some (.int .u8 t283) ∧ w'.cell? ⟨gb288, 1, none⟩ = some (.int .u32 t284) ∧ w'.cell? ⟨gb288, 2, none⟩ = some (.string t285) ∧ w'.cell? ⟨gb288, 3, none⟩ = some (.int .u32 t286) ∧ w'.cell? ⟨gb294, 0, none⟩ = some (.int .u8 t289) ∧ w'.cell? ⟨gb294, 1, none⟩ = some (.int .u32 t290) ∧ w'.cell? ⟨gb294, 2, none⟩ = some (.string t291) ∧ w'.cell? ⟨gb294, 3, none⟩ = some (.int .u32 t292) ∧ w'.cell? ⟨gb278, 0, none⟩ = some (.int .u8 a0_0) ∧ w'.cell? ⟨gb278, 1, none⟩ = some (.int .u32 a0_1) ∧ w'.cell? ⟨gb278, 2, none⟩ = some (.string a0_2) ∧ w'.cell? ⟨gb278, 3, none⟩ = some (.int .u32 a0_3)) (ds := []) #[false, false, false, false, false, false, false, false, false, false, false, false, false, false, false, false, false, false, false, false, false, false, false, false, false, false, false, false, false, false, false, false, false, false, false] (by kernel_rfl) rfl rfl ⟨(blk_cell BK288.out 0).trans rfl, (blk_cell BK288.out 1).trans rfl, (blk_cell BK288.out 2).trans rfl, (blk_cell BK288.out 3).trans rfl, (blk_cell BK294.out 0).trans rfl, (blk_cell BK294.out 1).trans rfl, (blk_cell BK294.out 2).trans rfl, (blk_cell BK294.out 3).trans rfl, (blk_cell BK278.out 0).trans rfl, (blk_cell BK278.out 1).trans rfl, (blk_cell BK278.out 2).trans rfl, (blk_cell BK278.out 3).trans rfl⟩ (fun hHeld => ?_); refine with_tabW cambiumlaw12_InodeKeys.tab5 cambiumlaw12_InodeKeys.bits5 (fun HT_ HW_ => ?_)
            generalize w29.drew = w30 at BK278 BK288 BK294 HB hHeld ⊢
            refine one_ (i := 0) (N := some 33) #[true, false, false, false, false, false, false, false, false, false, false, false, false, false, false, false, false, false, false, false, false, false, false, false, false, false, false, false, false, false, false, false, false, false, false] rfl rfl (one_of HT_.out (by kernel_rfl)) (by decide) (fun K hK => ?_)
            refine goes_ Try.func12 (by kernel_rfl) rfl #[] (by rfl) rfl rfl (by (try simp only [List.map_toArray, List.map_cons, List.map_nil]); first | done | rfl | (simp only [List.length_drop, List.length_take]; rfl)) ?_
            with_reducible refine (cambiumlaw12_lives.calls k  true _ A7.out).mono ?_
            rintro e w31 ⟨rfl, hb⟩
            refine ⟨_, rfl, ?_⟩
            have n0_ := Aside0.mk (blk_below (g := gb278) (o := .cells #[.int .u8 a0_0, .int .u32 a0_1, .string a0_2, .int .u32 a0_3] 37 (0, 0)) (by (with_reducible repeat (first | refine blk_drewN ?_ _ | refine blk_drew ?_ | refine blk_alloc ?_ _)); exact BK278.out) hb)
            have n1_ := Aside0.mk (blk_below (g := gb288) (o := .cells #[.int .u8 t283, .int .u32 t284, .string t285, .int .u32 t286] 37 (0, 0)) (by (with_reducible repeat (first | refine blk_drewN ?_ _ | refine blk_drew ?_ | refine blk_alloc ?_ _)); exact BK288.out) hb)
            have n2_ := Aside0.mk (blk_below (g := gb294) (o := .cells #[.int .u8 t289, .int .u32 t290, .string t291, .int .u32 t292] 37 (0, 0)) (by (with_reducible repeat (first | refine blk_drewN ?_ _ | refine blk_drew ?_ | refine blk_alloc ?_ _)); exact BK294.out) hb)
            have n3_ := Aside0.mk (below_step (by repeat (first | (with_reducible first | exact HB.out | apply below_alloc | apply pw_below_drewN | apply below_drew1 | refine below_set ?_ GE278.out | refine below_set ?_ GE288.out | refine below_set ?_ GE294.out) | exact HB.out)) hb)
            clear BK278
            clear BK288
            clear BK294
            clear HB
            have BK278 := n0_
            have BK288 := n1_
            have BK294 := n2_
            have HB := n3_
            clear n0_ n1_ n2_ n3_
            (try clear hb)
            (try clear hb2)
            (try clear hk)
            (try clear hi)
            refine hK.out _ _ ⟨(blk_cell BK288.out 0).trans rfl, (blk_cell BK288.out 1).trans rfl, (blk_cell BK288.out 2).trans rfl, (blk_cell BK288.out 3).trans rfl, (blk_cell BK294.out 0).trans rfl, (blk_cell BK294.out 1).trans rfl, (blk_cell BK294.out 2).trans rfl, (blk_cell BK294.out 3).trans rfl, (blk_cell BK278.out 0).trans rfl, (blk_cell BK278.out 1).trans rfl, (blk_cell BK278.out 2).trans rfl, (blk_cell BK278.out 3).trans rfl⟩ (fun hHeld => ?_)
            clear hK K
            refine norm_ (a' := ?_) ?_ ?_
            rotate_left
            · show Act.put _ (some 33) _ = _
              simp only [Act.put, List.setIfInBounds_toArray, List.set_cons_zero, List.set_cons_succ, i64_w, i32_w]
              rfl
            refine pure_ (i := 1) (N := some 34) (v := ?_) (a' := ?_) #[true, true, false, false, false, false, false, false, false, false, false, false, false, false, false, false, false, false, false, false, false, false, false, false, false, false, false, false, false, false, false, false, false, false, false] rfl rfl (any_of HT_.out (by kernel_rfl)) (fun _ _ _ h => h) (Or.inl ⟨by rfl, ?_⟩) ?_ ?_
            rotate_left
            · intro w'
              go_simp
              with_reducible rfl
            rotate_left
            · simp only [Act.put, List.setIfInBounds_toArray, List.set_cons_zero, List.set_cons_succ, i64_w, i32_w]
              rfl
            refine pure_ (i := 2) (N := some 35) (v := ?_) (a' := ?_) #[true, true, true, false, false, false, false, false, false, false, false, false, false, false, false, false, false, false, false, false, false, false, false, false, false, false, false, false, false, false, false, false, false, false, false] rfl rfl (any_of HT_.out (by kernel_rfl)) (fun _ _ _ h => h) (Or.inl ⟨by rfl, ?_⟩) ?_ ?_
            rotate_left
            · intro w'
              go_simp
              with_reducible rfl
            rotate_left
            · simp only [Act.put, List.setIfInBounds_toArray, List.set_cons_zero, List.set_cons_succ, i64_w, i32_w]
              rfl
            refine pure_ (i := 3) (N := some 36) (v := ?_) (a' := ?_) #[true, true, true, true, false, false, false, false, false, false, false, false, false, false, false, false, false, false, false, false, false, false, false, false, false, false, false, false, false, false, false, false, false, false, false] rfl rfl (any_of HT_.out (by kernel_rfl)) (fun _ _ _ h => h) (Or.inl ⟨by rfl, ?_⟩) ?_ ?_
            rotate_left
            · intro w'
              go_simp
              with_reducible rfl
            rotate_left
            · simp only [Act.put, List.setIfInBounds_toArray, List.set_cons_zero, List.set_cons_succ, i64_w, i32_w]
              rfl
            refine pure_ (i := 4) (N := some 37) (v := ?_) (a' := ?_) #[true, true, true, true, true, false, false, false, false, false, false, false, false, false, false, false, false, false, false, false, false, false, false, false, false, false, false, false, false, false, false, false, false, false, false] rfl rfl (any_of HT_.out (by kernel_rfl)) (fun _ _ _ h => h) (Or.inl ⟨by rfl, ?_⟩) ?_ ?_
            rotate_left
            · intro w'
              go_simp
              with_reducible rfl
            rotate_left
            · simp only [Act.put, List.setIfInBounds_toArray, List.set_cons_zero, List.set_cons_succ, i64_w, i32_w]
              rfl
            refine pure_ (i := 5) (N := some 38) (v := ?_) (a' := ?_) #[true, true, true, true, true, true, false, false, false, false, false, false, false, false, false, false, false, false, false, false, false, false, false, false, false, false, false, false, false, false, false, false, false, false, false] rfl rfl (any_of HT_.out (by kernel_rfl)) (fun _ _ _ h => h) (Or.inl ⟨by rfl, ?_⟩) ?_ ?_
            rotate_left
            · intro w'
              go_simp
              with_reducible rfl
            rotate_left
            · simp only [Act.put, List.setIfInBounds_toArray, List.set_cons_zero, List.set_cons_succ, i64_w, i32_w]
              rfl
            refine pure_ (i := 6) (N := some 39) (v := ?_) (a' := ?_) #[true, true, true, true, true, true, true, false, false, false, false, false, false, false, false, false, false, false, false, false, false, false, false, false, false, false, false, false, false, false, false, false, false, false, false] rfl rfl (any_of HT_.out (by kernel_rfl)) (fun _ _ _ h => h) (Or.inl ⟨by rfl, ?_⟩) ?_ ?_
            rotate_left
            · intro w'
              go_simp
              with_reducible rfl
            rotate_left
            · simp only [Act.put, List.setIfInBounds_toArray, List.set_cons_zero, List.set_cons_succ, i64_w, i32_w]
              rfl
            refine pure_ (i := 7) (N := some 40) (v := ?_) (a' := ?_) #[true, true, true, true, true, true, true, true, false, false, false, false, false, false, false, false, false, false, false, false, false, false, false, false, false, false, false, false, false, false, false, false, false, false, false] rfl rfl (any_of HT_.out (by kernel_rfl)) (fun _ _ _ h => h) (Or.inl ⟨by rfl, ?_⟩) ?_ ?_
            rotate_left
            · intro w'
              go_simp
              with_reducible rfl
            rotate_left
            · simp only [Act.put, List.setIfInBounds_toArray, List.set_cons_zero, List.set_cons_succ, i64_w, i32_w]
              rfl
            refine pure_ (i := 8) (N := some 41) (v := ?_) (a' := ?_) #[true, true, true, true, true, true, true, true, true, false, false, false, false, false, false, false, false, false, false, false, false, false, false, false, false, false, false, false, false, false, false, false, false, false, false] rfl rfl (any_of HT_.out (by kernel_rfl)) (fun _ _ _ h => h) (Or.inl ⟨by rfl, ?_⟩) ?_ ?_
            rotate_left
            · intro w'
              go_simp
              with_reducible rfl
            rotate_left
            · simp only [Act.put, List.setIfInBounds_toArray, List.set_cons_zero, List.set_cons_succ, i64_w, i32_w]
              rfl
            refine pure_ (i := 9) (N := some 42) (v := ?_) (a' := ?_) #[true, true, true, true, true, true, true, true, true, true, false, false, false, false, false, false, false, false, false, false, false, false, false, false, false, false, false, false, false, false, false, false, false, false, false] rfl rfl (any_of HT_.out (by kernel_rfl)) (fun _ _ _ h => h) (Or.inl ⟨by rfl, ?_⟩) ?_ ?_
            rotate_left
            · intro w'
              go_simp
              with_reducible rfl
            rotate_left
            · simp only [Act.put, List.setIfInBounds_toArray, List.set_cons_zero, List.set_cons_succ, i64_w, i32_w]
              rfl
            refine pure_ (i := 10) (N := some 43) (v := ?_) (a' := ?_) #[true, true, true, true, true, true, true, true, true, true, true, false, false, false, false, false, false, false, false, false, false, false, false, false, false, false, false, false, false, false, false, false, false, false, false] rfl rfl (any_of HT_.out (by kernel_rfl)) (fun _ _ _ h => h) (Or.inl ⟨by rfl, ?_⟩) ?_ ?_
            rotate_left
            · intro w'
              go_simp
              with_reducible rfl
            rotate_left
            · simp only [Act.put, List.setIfInBounds_toArray, List.set_cons_zero, List.set_cons_succ, i64_w, i32_w]
              rfl
            refine pure_ (i := 11) (N := some 44) (v := ?_) (a' := ?_) #[true, true, true, true, true, true, true, true, true, true, true, true, false, false, false, false, false, false, false, false, false, false, false, false, false, false, false, false, false, false, false, false, false, false, false] rfl rfl (any_of HT_.out (by kernel_rfl)) (fun _ _ _ h => h) (Or.inl ⟨by rfl, ?_⟩) ?_ ?_
            rotate_left
            · intro w'
              go_simp
              with_reducible rfl
            rotate_left
            · simp only [Act.put, List.setIfInBounds_toArray, List.set_cons_zero, List.set_cons_succ, i64_w, i32_w]
              rfl
            refine take_ (i := 12) (N := some 45) (v := ?_) (a' := ?_) #[true, true, true, true, true, true, true, true, true, true, true, true, true, false, false, false, false, false, false, false, false, false, false, false, false, false, false, false, false, false, false, false, false, false, false] rfl rfl (take_ofW HT_.out HW_.out (by kernel_rfl)) (fun _ _ _ h => h) (Or.inl ⟨by rfl, ?_⟩) hHeld ?_ ?_
            rotate_left
            · rintro w' ⟨s0, s1, s2, s3, s4, s5, s6, s7, s8, s9, s10, s11⟩
              go_simp
              with_reducible rfl
            rotate_left
            · simp only [Act.put, List.setIfInBounds_toArray, List.set_cons_zero, List.set_cons_succ, i64_w, i32_w]
              rfl
            refine take_ (i := 13) (N := some 46) (v := ?_) (a' := ?_) #[true, true, true, true, true, true, true, true, true, true, true, true, true, true, false, false, false, false, false, false, false, false, false, false, false, false, false, false, false, false, false, false, false, false, false] rfl rfl (take_ofW HT_.out HW_.out (by kernel_rfl)) (fun _ _ _ h => h) (Or.inl ⟨by rfl, ?_⟩) hHeld ?_ ?_
            rotate_left
            · rintro w' ⟨s0, s1, s2, s3, s4, s5, s6, s7, s8, s9, s10, s11⟩
              go_simp
              with_reducible rfl
            rotate_left
            · simp only [Act.put, List.setIfInBounds_toArray, List.set_cons_zero, List.set_cons_succ, i64_w, i32_w]
              rfl
            refine pure_ (i := 14) (N := some 47) (v := ?_) (a' := ?_) #[true, true, true, true, true, true, true, true, true, true, true, true, true, true, true, false, false, false, false, false, false, false, false, false, false, false, false, false, false, false, false, false, false, false, false] rfl rfl (any_of HT_.out (by kernel_rfl)) (fun _ _ _ h => h) (Or.inl ⟨by rfl, ?_⟩) ?_ ?_
            rotate_left
            · intro w'
              go_simp
              with_reducible rfl
            rotate_left
            · simp only [Act.put, List.setIfInBounds_toArray, List.set_cons_zero, List.set_cons_succ, i64_w, i32_w]
              rfl
            refine pure_ (i := 15) (N := some 48) (v := ?_) (a' := ?_) #[true, true, true, true, true, true, true, true, true, true, true, true, true, true, true, true, false, false, false, false, false, false, false, false, false, false, false, false, false, false, false, false, false, false, false] rfl rfl (any_of HT_.out (by kernel_rfl)) (fun _ _ _ h => h) (Or.inl ⟨by rfl, ?_⟩) ?_ ?_
            rotate_left
            · intro w'
              go_simp
              with_reducible rfl
            rotate_left
            · simp only [Act.put, List.setIfInBounds_toArray, List.set_cons_zero, List.set_cons_succ, i64_w, i32_w]
              rfl
            refine pure_ (i := 16) (N := some 49) (v := ?_) (a' := ?_) #[true, true, true, true, true, true, true, true, true, true, true, true, true, true, true, true, true, false, false, false, false, false, false, false, false, false, false, false, false, false, false, false, false, false, false] rfl rfl (any_of HT_.out (by kernel_rfl)) (fun _ _ _ h => h) (Or.inl ⟨by rfl, ?_⟩) ?_ ?_
            rotate_left
            · intro w'
              go_simp
              with_reducible rfl
            rotate_left
            · simp only [Act.put, List.setIfInBounds_toArray, List.set_cons_zero, List.set_cons_succ, i64_w, i32_w]
              rfl
            refine pure_ (i := 17) (N := some 50) (v := ?_) (a' := ?_) #[true, true, true, true, true, true, true, true, true, true, true, true, true, true, true, true, true, true, false, false, false, false, false, false, false, false, false, false, false, false, false, false, false, false, false] rfl rfl (any_of HT_.out (by kernel_rfl)) (fun _ _ _ h => h) (Or.inl ⟨by rfl, ?_⟩) ?_ ?_
            rotate_left
            · intro w'
              go_simp
              with_reducible rfl
            rotate_left
            · simp only [Act.put, List.setIfInBounds_toArray, List.set_cons_zero, List.set_cons_succ, i64_w, i32_w]
              rfl
            refine pure_ (i := 18) (N := some 51) (v := ?_) (a' := ?_) #[true, true, true, true, true, true, true, true, true, true, true, true, true, true, true, true, true, true, true, false, false, false, false, false, false, false, false, false, false, false, false, false, false, false, false] rfl rfl (any_of HT_.out (by kernel_rfl)) (fun _ _ _ h => h) (Or.inl ⟨by rfl, ?_⟩) ?_ ?_
            rotate_left
            · intro w'
              go_simp
              with_reducible rfl
            rotate_left
            · simp only [Act.put, List.setIfInBounds_toArray, List.set_cons_zero, List.set_cons_succ, i64_w, i32_w]
              rfl
            refine pure_ (i := 19) (N := some 52) (v := ?_) (a' := ?_) #[true, true, true, true, true, true, true, true, true, true, true, true, true, true, true, true, true, true, true, true, false, false, false, false, false, false, false, false, false, false, false, false, false, false, false] rfl rfl (any_of HT_.out (by kernel_rfl)) (fun _ _ _ h => h) (Or.inl ⟨by rfl, ?_⟩) ?_ ?_
            rotate_left
            · intro w'
              go_simp
              with_reducible rfl
            rotate_left
            · simp only [Act.put, List.setIfInBounds_toArray, List.set_cons_zero, List.set_cons_succ, i64_w, i32_w]
              rfl
            refine pure_ (i := 20) (N := some 53) (v := ?_) (a' := ?_) #[true, true, true, true, true, true, true, true, true, true, true, true, true, true, true, true, true, true, true, true, true, false, false, false, false, false, false, false, false, false, false, false, false, false, false] rfl rfl (any_of HT_.out (by kernel_rfl)) (fun _ _ _ h => h) (Or.inl ⟨by rfl, ?_⟩) ?_ ?_
            rotate_left
            · intro w'
              go_simp
              with_reducible rfl
            rotate_left
            · simp only [Act.put, List.setIfInBounds_toArray, List.set_cons_zero, List.set_cons_succ, i64_w, i32_w]
              rfl
            refine pure_ (i := 21) (N := some 54) (v := ?_) (a' := ?_) #[true, true, true, true, true, true, true, true, true, true, true, true, true, true, true, true, true, true, true, true, true, true, false, false, false, false, false, false, false, false, false, false, false, false, false] rfl rfl (any_of HT_.out (by kernel_rfl)) (fun _ _ _ h => h) (Or.inl ⟨by rfl, ?_⟩) ?_ ?_
            rotate_left
            · intro w'
              go_simp
              with_reducible rfl
            rotate_left
            · simp only [Act.put, List.setIfInBounds_toArray, List.set_cons_zero, List.set_cons_succ, i64_w, i32_w]
              rfl
            refine pure_ (i := 22) (N := some 55) (v := ?_) (a' := ?_) #[true, true, true, true, true, true, true, true, true, true, true, true, true, true, true, true, true, true, true, true, true, true, true, false, false, false, false, false, false, false, false, false, false, false, false] rfl rfl (any_of HT_.out (by kernel_rfl)) (fun _ _ _ h => h) (Or.inl ⟨by rfl, ?_⟩) ?_ ?_
            rotate_left
            · intro w'
              go_simp
              with_reducible rfl
            rotate_left
            · simp only [Act.put, List.setIfInBounds_toArray, List.set_cons_zero, List.set_cons_succ, i64_w, i32_w]
              rfl
            refine pure_ (i := 24) (N := some 57) (v := ?_) (a' := ?_) #[true, true, true, true, true, true, true, true, true, true, true, true, true, true, true, true, true, true, true, true, true, true, true, false, true, false, false, false, false, false, false, false, false, false, false] rfl rfl (any_of HT_.out (by kernel_rfl)) (fun _ _ _ h => h) (Or.inl ⟨by rfl, ?_⟩) ?_ ?_
            rotate_left
            · intro w'
              go_simp
              with_reducible rfl
            rotate_left
            · simp only [Act.put, List.setIfInBounds_toArray, List.set_cons_zero, List.set_cons_succ, i64_w, i32_w]
              rfl
            refine pure_ (i := 27) (N := some 60) (v := ?_) (a' := ?_) #[true, true, true, true, true, true, true, true, true, true, true, true, true, true, true, true, true, true, true, true, true, true, true, false, true, false, false, true, false, false, false, false, false, false, false] rfl rfl (any_of HT_.out (by kernel_rfl)) (fun _ _ _ h => h) (Or.inl ⟨by rfl, ?_⟩) ?_ ?_
            rotate_left
            · intro w'
              go_simp
              with_reducible rfl
            rotate_left
            · simp only [Act.put, List.setIfInBounds_toArray, List.set_cons_zero, List.set_cons_succ, i64_w, i32_w]
              rfl
            refine pure_ (i := 29) (N := some 62) (v := ?_) (a' := ?_) #[true, true, true, true, true, true, true, true, true, true, true, true, true, true, true, true, true, true, true, true, true, true, true, false, true, false, false, true, false, true, false, false, false, false, false] rfl rfl (any_of HT_.out (by kernel_rfl)) (fun _ _ _ h => h) (Or.inl ⟨by rfl, ?_⟩) ?_ ?_
            rotate_left
            · intro w'
              go_simp
              with_reducible rfl
            rotate_left
            · simp only [Act.put, List.setIfInBounds_toArray, List.set_cons_zero, List.set_cons_succ, i64_w, i32_w]
              rfl
            refine take_ (i := 23) (N := some 56) (v := ?_) (a' := ?_) #[true, true, true, true, true, true, true, true, true, true, true, true, true, true, true, true, true, true, true, true, true, true, true, true, true, false, false, true, false, true, false, false, false, false, false] rfl rfl (take_ofW HT_.out HW_.out (by kernel_rfl)) (fun _ _ _ h => h) (Or.inl ⟨by rfl, ?_⟩) hHeld ?_ ?_
            rotate_left
            · rintro w' ⟨s0, s1, s2, s3, s4, s5, s6, s7, s8, s9, s10, s11⟩
              go_simp
              with_reducible rfl
            rotate_left
            · simp only [Act.put, List.setIfInBounds_toArray, List.set_cons_zero, List.set_cons_succ, i64_w, i32_w]
              rfl
            refine take_ (i := 25) (N := some 58) (v := ?_) (a' := ?_) #[true, true, true, true, true, true, true, true, true, true, true, true, true, true, true, true, true, true, true, true, true, true, true, true, true, true, false, true, false, true, false, false, false, false, false] rfl rfl (take_ofW HT_.out HW_.out (by kernel_rfl)) (fun _ _ _ h => h) (Or.inl ⟨by rfl, ?_⟩) hHeld ?_ ?_
            rotate_left
            · rintro w' ⟨s0, s1, s2, s3, s4, s5, s6, s7, s8, s9, s10, s11⟩
              go_simp
              with_reducible rfl
            rotate_left
            · simp only [Act.put, List.setIfInBounds_toArray, List.set_cons_zero, List.set_cons_succ, i64_w, i32_w]
              rfl
            refine take_ (i := 28) (N := some 61) (v := ?_) (a' := ?_) #[true, true, true, true, true, true, true, true, true, true, true, true, true, true, true, true, true, true, true, true, true, true, true, true, true, true, false, true, true, true, false, false, false, false, false] rfl rfl (take_ofW HT_.out HW_.out (by kernel_rfl)) (fun _ _ _ h => h) (Or.inl ⟨by rfl, ?_⟩) hHeld ?_ ?_
            rotate_left
            · rintro w' ⟨s0, s1, s2, s3, s4, s5, s6, s7, s8, s9, s10, s11⟩
              go_simp
              with_reducible rfl
            rotate_left
            · simp only [Act.put, List.setIfInBounds_toArray, List.set_cons_zero, List.set_cons_succ, i64_w, i32_w]
              rfl
            refine take_ (i := 30) (N := some 63) (v := ?_) (a' := ?_) #[true, true, true, true, true, true, true, true, true, true, true, true, true, true, true, true, true, true, true, true, true, true, true, true, true, true, false, true, true, true, true, false, false, false, false] rfl rfl (take_ofW HT_.out HW_.out (by kernel_rfl)) (fun _ _ _ h => h) (Or.inl ⟨by rfl, ?_⟩) hHeld ?_ ?_
            rotate_left
            · rintro w' ⟨s0, s1, s2, s3, s4, s5, s6, s7, s8, s9, s10, s11⟩
              go_simp
              with_reducible rfl
            rotate_left
            · simp only [Act.put, List.setIfInBounds_toArray, List.set_cons_zero, List.set_cons_succ, i64_w, i32_w]
              rfl
            refine one_ (i := 26) (N := some 59) #[true, true, true, true, true, true, true, true, true, true, true, true, true, true, true, true, true, true, true, true, true, true, true, true, true, true, true, true, true, true, true, false, false, false, false] rfl rfl (one_of HT_.out (by kernel_rfl)) (by decide) (fun K hK => ?_)
            refine goes_ Try.func19 (by kernel_rfl) rfl #[.int .u8 a0_0, .int .u32 a0_1] (by rfl) rfl rfl (by (try simp only [List.map_toArray, List.map_cons, List.map_nil]); first | done | rfl | (simp only [List.length_drop, List.length_take]; rfl)) ?_
            with_reducible refine (inode_Prefix.calls k a0_0 a0_1 t296 _ A13.out).mono ?_
            rintro e w32 ⟨rfl, hb⟩
            refine ⟨_, rfl, ?_⟩
            have n0_ := Aside0.mk (blk_below (g := gb278) (o := .cells #[.int .u8 a0_0, .int .u32 a0_1, .string a0_2, .int .u32 a0_3] 37 (0, 0)) (by (with_reducible repeat (first | refine blk_drewN ?_ _ | refine blk_drew ?_ | refine blk_alloc ?_ _)); exact BK278.out) hb)
            have n1_ := Aside0.mk (blk_below (g := gb288) (o := .cells #[.int .u8 t283, .int .u32 t284, .string t285, .int .u32 t286] 37 (0, 0)) (by (with_reducible repeat (first | refine blk_drewN ?_ _ | refine blk_drew ?_ | refine blk_alloc ?_ _)); exact BK288.out) hb)
            have n2_ := Aside0.mk (blk_below (g := gb294) (o := .cells #[.int .u8 t289, .int .u32 t290, .string t291, .int .u32 t292] 37 (0, 0)) (by (with_reducible repeat (first | refine blk_drewN ?_ _ | refine blk_drew ?_ | refine blk_alloc ?_ _)); exact BK294.out) hb)
            have n3_ := Aside0.mk (below_step (by repeat (first | (with_reducible first | exact HB.out | apply below_alloc | apply pw_below_drewN | apply below_drew1 | refine below_set ?_ GE278.out | refine below_set ?_ GE288.out | refine below_set ?_ GE294.out) | exact HB.out)) hb)
            clear BK278
            clear BK288
            clear BK294
            clear HB
            have BK278 := n0_
            have BK288 := n1_
            have BK294 := n2_
            have HB := n3_
            clear n0_ n1_ n2_ n3_
            (try clear hb)
            (try clear hb2)
            (try clear hk)
            (try clear hi)
            refine hK.out _ _ ⟨(blk_cell BK288.out 0).trans rfl, (blk_cell BK288.out 1).trans rfl, (blk_cell BK288.out 2).trans rfl, (blk_cell BK288.out 3).trans rfl, (blk_cell BK294.out 0).trans rfl, (blk_cell BK294.out 1).trans rfl, (blk_cell BK294.out 2).trans rfl, (blk_cell BK294.out 3).trans rfl, (blk_cell BK278.out 0).trans rfl, (blk_cell BK278.out 1).trans rfl, (blk_cell BK278.out 2).trans rfl, (blk_cell BK278.out 3).trans rfl⟩ (fun hHeld => ?_)
            clear hK K
            refine norm_ (a' := ?_) ?_ ?_
            rotate_left
            · show Act.put _ (some 59) _ = _
              simp only [Act.put, List.setIfInBounds_toArray, List.set_cons_zero, List.set_cons_succ, i64_w, i32_w]
              rfl
            refine one_ (i := 31) (N := some 64) #[true, true, true, true, true, true, true, true, true, true, true, true, true, true, true, true, true, true, true, true, true, true, true, true, true, true, true, true, true, true, true, true, false, false, false] rfl rfl (one_of HT_.out (by kernel_rfl)) (by decide) (fun K hK => ?_)
            refine goes_ Try.func20 (by kernel_rfl) rfl #[.int .u8 a0_0, .int .u32 a0_1] (by rfl) rfl rfl (by (try simp only [List.map_toArray, List.map_cons, List.map_nil]); first | done | rfl | (simp only [List.length_drop, List.length_take]; rfl)) ?_
            with_reducible refine (cambiumref12_Prefix.calls k a0_0 a0_1 t297 _ A14.out).mono ?_
            rintro e w33 ⟨rfl, hb⟩
            refine ⟨_, rfl, ?_⟩
            have n0_ := Aside0.mk (blk_below (g := gb278) (o := .cells #[.int .u8 a0_0, .int .u32 a0_1, .string a0_2, .int .u32 a0_3] 37 (0, 0)) (by (with_reducible repeat (first | refine blk_drewN ?_ _ | refine blk_drew ?_ | refine blk_alloc ?_ _)); exact BK278.out) hb)
            have n1_ := Aside0.mk (blk_below (g := gb288) (o := .cells #[.int .u8 t283, .int .u32 t284, .string t285, .int .u32 t286] 37 (0, 0)) (by (with_reducible repeat (first | refine blk_drewN ?_ _ | refine blk_drew ?_ | refine blk_alloc ?_ _)); exact BK288.out) hb)
            have n2_ := Aside0.mk (blk_below (g := gb294) (o := .cells #[.int .u8 t289, .int .u32 t290, .string t291, .int .u32 t292] 37 (0, 0)) (by (with_reducible repeat (first | refine blk_drewN ?_ _ | refine blk_drew ?_ | refine blk_alloc ?_ _)); exact BK294.out) hb)
            have n3_ := Aside0.mk (below_step (by repeat (first | (with_reducible first | exact HB.out | apply below_alloc | apply pw_below_drewN | apply below_drew1 | refine below_set ?_ GE278.out | refine below_set ?_ GE288.out | refine below_set ?_ GE294.out) | exact HB.out)) hb)
            clear BK278
            clear BK288
            clear BK294
            clear HB
            have BK278 := n0_
            have BK288 := n1_
            have BK294 := n2_
            have HB := n3_
            clear n0_ n1_ n2_ n3_
            (try clear hb)
            (try clear hb2)
            (try clear hk)
            (try clear hi)
            refine hK.out _ _ ⟨(blk_cell BK288.out 0).trans rfl, (blk_cell BK288.out 1).trans rfl, (blk_cell BK288.out 2).trans rfl, (blk_cell BK288.out 3).trans rfl, (blk_cell BK294.out 0).trans rfl, (blk_cell BK294.out 1).trans rfl, (blk_cell BK294.out 2).trans rfl, (blk_cell BK294.out 3).trans rfl, (blk_cell BK278.out 0).trans rfl, (blk_cell BK278.out 1).trans rfl, (blk_cell BK278.out 2).trans rfl, (blk_cell BK278.out 3).trans rfl⟩ (fun hHeld => ?_)
            clear hK K
            refine norm_ (a' := ?_) ?_ ?_
            rotate_left
            · show Act.put _ (some 64) _ = _
              simp only [Act.put, List.setIfInBounds_toArray, List.set_cons_zero, List.set_cons_succ, i64_w, i32_w]
              rfl
            refine pure_ (i := 32) (N := some 65) (v := ?_) (a' := ?_) #[true, true, true, true, true, true, true, true, true, true, true, true, true, true, true, true, true, true, true, true, true, true, true, true, true, true, true, true, true, true, true, true, true, false, false] rfl rfl (any_of HT_.out (by kernel_rfl)) (fun _ _ _ h => h) (Or.inl ⟨by rfl, ?_⟩) ?_ ?_
            rotate_left
            · intro w'
              go_simp
              with_reducible rfl
            rotate_left
            · simp only [Act.put, List.setIfInBounds_toArray, List.set_cons_zero, List.set_cons_succ, i64_w, i32_w]
              rfl
            refine pure_ (i := 33) (N := some 66) (v := ?_) (a' := ?_) #[true, true, true, true, true, true, true, true, true, true, true, true, true, true, true, true, true, true, true, true, true, true, true, true, true, true, true, true, true, true, true, true, true, true, false] rfl rfl (any_of HT_.out (by kernel_rfl)) (fun _ _ _ h => h) (Or.inl ⟨by rfl, ?_⟩) ?_ ?_
            rotate_left
            · intro w'
              go_simp
              with_reducible rfl
            rotate_left
            · simp only [Act.put, List.setIfInBounds_toArray, List.set_cons_zero, List.set_cons_succ, i64_w, i32_w]
              rfl
            refine pure_ (i := 34) (N := some 4) (v := ?_) (a' := ?_) #[true, true, true, true, true, true, true, true, true, true, true, true, true, true, true, true, true, true, true, true, true, true, true, true, true, true, true, true, true, true, true, true, true, true, true] rfl rfl (any_of HT_.out (by kernel_rfl)) (fun _ _ _ h => h) (Or.inl ⟨by rfl, ?_⟩) ?_ ?_
            rotate_left
            · intro w'
              go_simp
              with_reducible rfl
            rotate_left
            · simp only [Act.put, List.setIfInBounds_toArray, List.set_cons_zero, List.set_cons_succ, i64_w, i32_w]
              rfl
            refine done_ (done_of HT_.out (by kernel_rfl)) ?_
            try go_wp2
            go_ret
            exact ⟨by first | rfl | (simp [errW_none, errW_some] <;> rfl) | (simp [*, errW_none, errW_some] <;> rfl), by repeat (first | (with_reducible first | exact HB.out | apply below_alloc | apply pw_below_drewN | apply below_drew1 | refine below_set ?_ GE278.out | refine below_set ?_ GE288.out | refine below_set ?_ GE294.out) | exact HB.out)⟩
          rw [if_neg c12] at H
          have c12b0 : (t287 == t293) = false := beq_eq_false_iff_ne.mpr c12
          (try (have c11b0s3 := c11b0; simp only [c9b0, c10b0, c12b0, Bool.false_and, Bool.true_and, Bool.and_false, Bool.and_true, Bool.bne_false, Bool.bne_true, Bool.not_eq_true', Bool.not_eq_false'] at c11b0s3))
          have c12b1 : (t287 != t293) = true := bne_iff_ne.mpr c12
          exact absurd ((Option.some.inj H).trans HT_.out) (by simp)
        rw [if_neg c11] at H
        have c11b0 : (t283 == t289 && (t284 == t290 && (t285.toList == t291.toList && (t286 == t292)))) = false := by simpa using c11
        (try (have c11b0s4 := c11b0; simp only [c9b0, c10b0, Bool.false_and, Bool.true_and, Bool.and_false, Bool.and_true, Bool.bne_false, Bool.bne_true, Bool.not_eq_true', Bool.not_eq_false'] at c11b0s4))
        (try (have c11b1 : decide (t283 = t289 && (t284 == t290 && (t285.toList == t291.toList && (t286 == t292)))) = false := by simpa using c11))
        (try (have c11b2 : (t283 == t289 && (t284 == t290 && (t285.toList == t291.toList && (t286 == t292)))) = false := by simpa using c11))
        (try (have c11b3 : ¬ (t283 = t289 && (t284 == t290 && (t285.toList == t291.toList && (t286 == t292)))) := by simpa using c11))
        clear c11
        exact absurd ((Option.some.inj H).trans HT_.out) (by simp)
      rw [if_neg c10] at H
      have c10b0 : (t280 == t282) = false := beq_eq_false_iff_ne.mpr c10
      have c10b1 : (t280 != t282) = true := bne_iff_ne.mpr c10
      exact absurd ((Option.some.inj H).trans HT_.out) (by simp)
    rw [if_neg c9] at H
    have c9b0 : (t279.toList == t281.toList) = false := beq_eq_false_iff_ne.mpr c9
    have c9b1 : (t279.toList != t281.toList) = true := bne_iff_ne.mpr c9
    exact absurd ((Option.some.inj H).trans HT_.out) (by simp)
  replace c8 := Bool.eq_false_iff.mpr c8
  subst c8
  have H1 : (some false) = some r := by rw [if_neg (show ¬ (false = true) by decide)] at H; exact H
  clear H
  have H := H1
  clear H1
  exact absurd ((Option.some.inj H).trans HT_.out) (by simp)

end Go.Proofs.Ytocmpidbeagimaa.Z
end

section
/- What the reference's functions on numbers come to. -/
namespace Go.Proofs.Ytocmpidbeagimaa.Z
open Go.RowKit Go.Proofs.YtocmpidbeagimaaW.PrintWords Go.Proofs.YtocmpidbeagimaaW.PrintLast Go.Proofs.YtocmpidbeagimaaW.PrintMore Go.Proofs.Ytocmpidbeagimaa.PM
set_option linter.unusedVariables false
theorem bytes_l0 (n w : Nat) (hw : w ≤ 8) (hn : n < 18446744073709551616) : ∀ d i : Nat, w = i + d →
    Ev (fun k => cambiumref01_Bytes.l0 k ((n / 256 ^ i : Nat) : Int) (w : Int) (ba (be i n)) (i : Int)) (ba (be w n))
  | 0, i, hi => by
    refine Ev.step (fun k => by rw [cambiumref01_Bytes.l0]) ?_
    obtain rfl : w = i := by omega
    exact Ev.ifn (by omega) (Ev.const rfl)
  | d + 1, i, hi => by
    refine Ev.step (fun k => by rw [cambiumref01_Bytes.l0]) ?_
    have e3 : wrap64 ((i : Int) + 1) = ((i + 1 : Nat) : Int) := by rw [w64 (by omega) (by omega)]; omega
    have hle : n / 256 ^ i ≤ n := Nat.div_le_self _ _
    have e1 : strOfNums [((n / 256 ^ i : Nat) : Int) % 256] = ba [UInt8.ofNat (n / 256 ^ i % 256)] := by
      have : ((n / 256 ^ i : Nat) : Int) % 256 = ((n / 256 ^ i % 256 : Nat) : Int) := by omega
      rw [this]
      rfl
    have e4 : ∀ q : Nat, q < 18446744073709551616 → IntKind.u64.wrap (Int.tdiv (q : Int) 256) = ((q / 256 : Nat) : Int) := by
      intro q hq
      rw [Int.tdiv_eq_ediv_of_nonneg (by omega), u64w (by omega) (by omega)]
      omega
    have e2 : IntKind.u64.wrap (Int.tdiv ((n / 256 ^ i : Nat) : Int) 256) = ((n / 256 ^ (i + 1) : Nat) : Int) := by
      rw [e4 _ (by omega), Nat.pow_succ, ← Nat.div_div_eq_div_mul]
    refine Ev.ifp (by omega) (Ev.bindc rfl ?_)
    rw [e1, e2, e3]
    refine Ev.ifp (by rw [ba_size, ba_size, be_len]; simp; omega) ?_
    rw [ba_app, List.singleton_append, ← be_cons]
    exact bytes_l0 n w hw hn d (i + 1) (by omega)
theorem bytes_f (n : Int) (w : Nat) (h8 : w ≤ 8) (h0 : 0 ≤ n) (hn : n.toNat < 18446744073709551616) : Ev (fun k => cambiumref01_Bytes.f k (IntKind.u64.wrap n) (w : Int)) (ba (be w n.toNat)) := by
  unfold cambiumref01_Bytes.f
  rw [u64w h0 (by omega)]
  have h := bytes_l0 n.toNat w h8 hn w 0 (by omega)
  rw [Nat.pow_zero, Nat.div_one, show ((n.toNat : Nat) : Int) = n by omega] at h
  exact h
theorem rnum_l0 (a : ByteArray) (w : Nat) (hw : w ≤ 8) (hl : w ≤ a.data.toList.length) : ∀ d i : Nat, w = i + d →
    Ev (fun k => cambiumref01_TakeNumber.l0 k a (w : Int) (num (a.data.toList.take i) : Int) (i : Int)) ((num (a.data.toList.take w) : Int), ba (a.data.toList.drop w), 0)
  | 0, i, hi => by
    refine Ev.step (fun k => by rw [cambiumref01_TakeNumber.l0]) ?_
    have hz := size_len a
    obtain rfl : w = i := by omega
    refine Ev.ifn (by omega) (Ev.ifp (by omega) (Ev.ifp (by omega) (Ev.const ?_)))
    rw [Int.toNat_natCast, ext_end]
  | d + 1, i, hi => by
    refine Ev.step (fun k => by rw [cambiumref01_TakeNumber.l0]) ?_
    have hz := size_len a
    have hlt : i < a.data.toList.length := by omega
    have e3 : wrap64 ((i : Int) + 1) = ((i + 1 : Nat) : Int) := by rw [w64 (by omega) (by omega)]; omega
    have hn := num_lt i (a.data.toList.take i) (by rw [List.length_take]; omega)
    have hp : 256 ^ i ≤ 256 ^ 7 := Nat.pow_le_pow_right (by decide) (by omega)
    have p7 : 256 ^ 7 = 72057594037927936 := rfl
    have hb := (a.data.toList[i]).toNat_lt
    refine Ev.ifp (by omega) (Ev.ifp (by omega) (Ev.ifp (by omega) ?_))
    have e4 : ∀ x b : Nat, x < 72057594037927936 → b < 256 → IntKind.u64.wrap (IntKind.u64.wrap ((x : Int) * 256) + IntKind.u64.wrap (b : Int)) = (x : Int) * 256 + b := by
      intro x b hx hb
      rw [u64w (x := (x : Int) * 256) (by omega) (by omega), u64w (x := (b : Int)) (by omega) (by omega), u64w (by omega) (by omega)]
    rw [bt_get a i hlt, e4 _ _ (by omega) (by omega), e3]
    have ih := rnum_l0 a w hw hl d (i + 1) (by omega)
    rw [take_num_snoc _ _ hlt] at ih
    refine Ev.congr (fun k => ?_) ih
    congr 1
theorem rnum_f (a : ByteArray) (w : Nat) (h1 : 1 ≤ w) (h8 : w ≤ 8) : Ev (fun k => cambiumref01_TakeNumber.f k a (w : Int)) (ba3 (takeS w a.data.toList)) := by
  unfold cambiumref01_TakeNumber.f
  have hz := size_len a
  refine Ev.ifn (by omega) ?_
  rw [show decide ((w : Int) > 8) = false by simp; omega]
  refine Ev.step (fun k => by rw [cambiumref01_TakeNumber.j0]) ?_
  refine Ev.ifn (by decide) ?_
  by_cases h : a.data.toList.length < w
  · refine Ev.ifp (by omega) (Ev.const ?_)
    unfold ba3 takeS
    rw [if_pos h, if_pos h, drop_nil_of h]
    rfl
  · refine Ev.ifn (by omega) ?_
    refine Ev.val (rnum_l0 a w h8 (by omega) w 0 (by omega)) ?_
    unfold ba3 takeS
    rw [if_neg h, if_neg h]
end Go.Proofs.Ytocmpidbeagimaa.Z
end

section
/- What the reference's functions on keys come to. -/
namespace Go.Proofs.Ytocmpidbeagimaa.Z
open Go.RowKit Go.Proofs.YtocmpidbeagimaaW.PrintWords Go.Proofs.YtocmpidbeagimaaW.PrintLast Go.Proofs.YtocmpidbeagimaaW.PrintMore Go.Proofs.Ytocmpidbeagimaa.PM
set_option linter.unusedVariables false
theorem rletter_f (k : Int) : cambiumref12_letter.f k = some (ba (lett k)) := by
  unfold cambiumref12_letter.f lett
  repeat' (first | rfl | split)
theorem rprefix_f (k i : Int) (hi : 0 ≤ i ∧ i < 4294967296) : Ev (fun r => cambiumref12_Prefix.f r k i) (ba (prefL k i)) := by
  unfold cambiumref12_Prefix.f prefL
  rw [rletter_f]
  refine Ev.bindc rfl ?_
  rw [ba_toList]
  by_cases h : lett k = []
  · rw [if_pos h]
    exact Ev.ifp h (Ev.const rfl)
  · rw [if_neg h]
    obtain ⟨b, hb, _⟩ := lett_one h
    refine Ev.ifn h (Ev.bindc rfl (Ev.bind (bytes_f i 4 (by decide) hi.1 (by omega)) (Ev.ifp (by rw [ba_size, ba_size, be_len, hb]; simp) (Ev.const ?_))))
    rw [ba_app]
theorem rright_j1 (b : Bool) (k i : Int) (a : ByteArray) (c : Int) : Ev (fun r => cambiumref12_right.j1 r b k i a c) (!b && if k = 3 then decide (c < 512) else c == 0) := by
  refine Ev.step (fun k => by rw [cambiumref12_right.j1]) ?_
  cases b
  · refine Ev.ifn (by decide) ?_
    by_cases h3 : k = 3
    · exact Ev.ifp h3 (Ev.const (by rw [if_pos h3]; rfl))
    · exact Ev.ifn h3 (Ev.const (by rw [if_neg h3]; rfl))
  · exact Ev.ifp rfl (Ev.const rfl)
def nmBad (nd : Bool) (l : List UInt8) : Bool := match nd with
  | true => !nameL l
  | false => decide (l ≠ [])
theorem rright_j0 (nd : Bool) (k i : Int) (a : ByteArray) (c : Int) (ha : a.size ≤ 9223372036854775807) :
    Ev (fun r => cambiumref12_right.j0 r nd k i a c) (!(decide (lett k = []) || decide (i = 0) || nmBad nd a.data.toList) && if k = 3 then decide (c < 512) else c == 0) := by
  refine Ev.step (fun k => by rw [cambiumref12_right.j0]) (Ev.bindc (rletter_f k) ?_)
  rw [ba_toList]
  by_cases h1 : lett k = []
  · refine Ev.ifp h1 (Ev.val (rright_j1 _ _ _ _ _) ?_)
    rw [decide_eq_true h1]
    rfl
  · refine Ev.ifn h1 ?_
    rw [decide_eq_false h1]
    by_cases h2 : i = 0
    · refine Ev.ifp h2 (Ev.val (rright_j1 _ _ _ _ _) ?_)
      rw [decide_eq_true h2]
      rfl
    · refine Ev.ifn h2 ?_
      rw [decide_eq_false h2]
      cases nd
      · refine Ev.ifn (by decide) (Ev.val (rright_j1 _ _ _ _ _) ?_)
        rw [ByteArray.toList_eq]
        unfold nmBad
        by_cases hn : a.data.toList = [] <;> simp [hn]
      · refine Ev.ifp rfl (Ev.bind (refName a ha) ?_)
        unfold nmBad
        by_cases hn : nameL a.data.toList = true
        · refine Ev.ifp hn (Ev.val (rright_j1 _ _ _ _ _) ?_)
          rw [hn]
          rfl
        · refine Ev.ifn hn (Ev.val (rright_j1 _ _ _ _ _) ?_)
          rw [Bool.eq_false_iff.2 hn]
          rfl
theorem rright_f (k i : Int) (a : ByteArray) (c : Int) (hi : 0 ≤ i) (ha : a.size ≤ 9223372036854775807) : Ev (fun r => cambiumref12_right.f r k i a c) (rightK k i a.data.toList c) := by
  unfold cambiumref12_right.f
  have L : ∀ x : Int, lett x = [] ↔ ¬ (x = 1 ∨ x = 2 ∨ x = 3 ∨ x = 4) := by
    intro x
    unfold lett
    repeat' (first | (split; (subst_vars; simp)) | split)
    all_goals (first | (simp; omega) | simp)
    all_goals omega
  by_cases h2 : k = 2
  · refine Ev.ifp h2 (Ev.val (rright_j0 _ _ _ _ _ ha) ?_)
    subst h2
    unfold rightK
    rw [Bool.eq_iff_iff]
    by_cases hn : nameL a.data.toList = true
    · simp [L, hn, nmBad]; omega
    · simp [L, hn, nmBad]
  · refine Ev.ifn h2 (Ev.val (rright_j0 _ _ _ _ _ ha) ?_)
    unfold rightK
    rw [Bool.eq_iff_iff]
    by_cases h4 : k = 4
    · subst h4
      by_cases hn : nameL a.data.toList = true
      · simp [L, hn, nmBad]; omega
      · simp [L, hn, nmBad]
    · have e4 : (k == 4) = false := by simpa using h4
      rw [e4]
      by_cases h3 : k = 3
      · subst h3
        by_cases hn : a.data.toList = []
        · simp [L, hn, nmBad]; omega
        · simp [L, hn, nmBad]
      · by_cases h1 : k = 1
        · subst h1
          by_cases hn : a.data.toList = []
          · simp [L, hn, nmBad]; omega
          · simp [L, hn, nmBad]
        · have : lett k = [] := (L k).2 (by omega)
          simp [this, h1, h2, h3, h4]
theorem rkey_f (k i : Int) (a : ByteArray) (c : Int) (hi : 0 ≤ i ∧ i < 4294967296) (hc : 0 ≤ c) (ha : a.size ≤ 9223372036854775807) :
    Ev (fun r => cambiumref12_Key.f r k i a c) (ba (keyS k i a.data.toList c).1, (keyS k i a.data.toList c).2) := by
  unfold cambiumref12_Key.f keyS
  have hz := size_len a
  refine Ev.bind (rright_f k i a c hi.1 ha) ?_
  by_cases h : rightK k i a.data.toList c = true
  · rw [if_pos h]
    have hl := prefL_len (i := i) (lett_ne h)
    obtain ⟨hn, hc2⟩ := rightK_size h
    refine Ev.ifp h (Ev.bind (rprefix_f k i hi) (Ev.ifp (by rw [ba_size]; omega) ?_))
    unfold keyL
    by_cases h3 : k = 3
    · rw [if_pos h3]
      have ha0 : a.data.toList = [] := by
        unfold rightK at h
        rcases (of_decide_eq_true h).2 with h | h | h
        · exact h.2.1
        · omega
        · exact h.2.1
      have ea : a = ba [] := by rw [← ha0, data_ba]
      refine Ev.ifp h3 (Ev.bind (bytes_f c 4 (by decide) hc (by omega)) ?_)
      rw [ea, ba_app, List.append_nil]
      refine Ev.ifp (by rw [ba_size, ba_size, be_len]; omega) (Ev.const ?_)
      rw [ba_app]
    · rw [if_neg h3]
      refine Ev.ifn h3 (Ev.const ?_)
      rw [← ba_app, data_ba]
  · rw [if_neg h]
    exact Ev.ifn h (Ev.const rfl)
end Go.Proofs.Ytocmpidbeagimaa.Z
end

section
/- The reference's Parse. -/
namespace Go.Proofs.Ytocmpidbeagimaa.Z
open Go.RowKit Go.Proofs.YtocmpidbeagimaaW.PrintWords Go.Proofs.YtocmpidbeagimaaW.PrintLast Go.Proofs.YtocmpidbeagimaaW.PrintMore Go.Proofs.Ytocmpidbeagimaa.PM
set_option linter.unusedVariables false
/-- The letters' kinds, from one on. -/
def kinds : List Int := [1, 2, 3, 4]
theorem rparse_none (a : ByteArray) (ino : Int) (rest : ByteArray) (hs : 5 ≤ a.data.toList.length) : ∀ d i : Nat, 4 = i + d → (∀ j : Nat, i ≤ j → j < 4 → lett ((j : Int) + 1) ≠ [a.data.toList.headD 0]) →
    Ev (fun k => cambiumref12_Parse.l0 k a ino rest kinds 4 (i : Int)) (0, 0, ⟨#[]⟩, 0, 4)
  | 0, i, hi, h => by
    refine Ev.step (fun k => by rw [cambiumref12_Parse.l0]) ?_
    exact Ev.ifn (by omega) (Ev.const rfl)
  | d + 1, i, hi, h => by
    refine Ev.step (fun k => by rw [cambiumref12_Parse.l0]) ?_
    have hz := size_len a
    have hr : rd kinds (i : Int) = (i : Int) + 1 := by
      have : i = 0 ∨ i = 1 ∨ i = 2 ∨ i = 3 := by omega
      rcases this with rfl | rfl | rfl | rfl <;> rfl
    have e3 : wrap64 ((i : Int) + 1) = ((i + 1 : Nat) : Int) := by rw [w64 (by omega) (by omega)]; omega
    have e1 : (a.extract 0 1).toList = [a.data.toList.headD 0] := by
      rw [ext_front, ba_toList]
      match a.data.toList, hs with
      | b :: _, _ => rfl
    rw [hr, e3, rletter_f]
    refine Ev.ifp (by omega) (Ev.ifp (by omega) (Ev.ifp (by simp [kinds]; omega) (Ev.bindc rfl (Ev.ifp (by omega) (Ev.ifn ?_ ?_)))))
    · rw [ba_toList, e1]
      exact h i (Nat.le_refl _) (by omega)
    · exact rparse_none a ino rest hs d (i + 1) (by omega) (fun j h1 h2 => h j (by omega) h2)
theorem lett_kind {k : Int} {b : UInt8} (h : lett k = [b]) : kindOf b = k := by
  obtain ⟨c, hc, hk⟩ := lett_one (k := k) (by rw [h]; simp)
  rw [h] at hc
  injection hc with hc
  rw [hc]
  exact hk
theorem rparse_l0 (a : ByteArray) (hs : 5 ≤ a.data.toList.length) (ha : a.size ≤ 9223372036854775807) : ∀ d i : Nat, 4 = i + d → (∀ j : Nat, j < i → lett ((j : Int) + 1) ≠ [a.data.toList.headD 0]) →
    Ev (fun k => cambiumref12_Parse.l0 k a (g2 a.data.toList) (ba (r5 a.data.toList)) kinds 4 (i : Int)) (baK (parsS a.data.toList))
  | 0, i, hi, h => by
    have hk : g1 a.data.toList = 0 := by
      by_cases hk : g1 a.data.toList = 0
      · exact hk
      · have hl := kind_lett (b := a.data.toList.headD 0) hk
        have hr : 1 ≤ kindOf (a.data.toList.headD 0) ∧ kindOf (a.data.toList.headD 0) ≤ 4 := by
          have hk : kindOf (a.data.toList.headD 0) ≠ 0 := hk
          unfold kindOf at *
          repeat' split
          all_goals first | omega | (exfalso; simp_all)
        have := h (kindOf (a.data.toList.headD 0) - 1).toNat (by omega)
        rw [show (((kindOf (a.data.toList.headD 0) - 1).toNat : Nat) : Int) + 1 = kindOf (a.data.toList.headD 0) by omega] at this
        exact absurd hl this
    have e : baK (parsS a.data.toList) = (0, 0, (⟨#[]⟩ : ByteArray), 0, 4) := by
      unfold parsS
      rw [if_neg (by omega), if_neg (by omega), if_neg (fun h => right_kind h hk)]
      rfl
    rw [e]
    exact rparse_none a _ _ hs 0 i hi (fun j h1 h2 => by omega)
  | d + 1, i, hi, h => by
    have hz := size_len a
    have hr : rd kinds (i : Int) = (i : Int) + 1 := by
      have : i = 0 ∨ i = 1 ∨ i = 2 ∨ i = 3 := by omega
      rcases this with rfl | rfl | rfl | rfl <;> rfl
    have e3 : wrap64 ((i : Int) + 1) = ((i + 1 : Nat) : Int) := by rw [w64 (by omega) (by omega)]; omega
    have e1 : (a.extract 0 1).toList = [a.data.toList.headD 0] := by
      rw [ext_front, ba_toList]
      match a.data.toList, hs with
      | b :: _, _ => rfl
    have hg2 := g2_range (l := a.data.toList) (by omega)
    have hlr : (r5 a.data.toList).length = a.data.toList.length - 5 := by unfold r5; simp only [List.length_drop]; omega
    refine Ev.step (fun k => by rw [cambiumref12_Parse.l0]) ?_
    rw [hr, e3, rletter_f, Int.emod_eq_of_lt hg2.1 hg2.2]
    refine Ev.ifp (by omega) (Ev.ifp (by omega) (Ev.ifp (by simp [kinds]; omega) (Ev.bindc rfl (Ev.ifp (by omega) ?_))))
    by_cases hb : lett ((i : Int) + 1) = [a.data.toList.headD 0]
    · refine Ev.ifp (by rw [ba_toList, e1]; exact hb) ?_
      have hk : g1 a.data.toList = (i : Int) + 1 := lett_kind hb
      have rest_ : Ev (fun k => cambiumref12_Parse.l0 k a (g2 a.data.toList) (ba (r5 a.data.toList)) kinds 4 ((i + 1 : Nat) : Int)) (0, 0, ⟨#[]⟩, 0, 4) := by
        refine rparse_none a _ _ hs d (i + 1) (by omega) (fun j h1 h2 e => ?_)
        have h1' := lett_kind e
        have h2' := lett_kind hb
        omega
      by_cases h3 : (i : Int) + 1 = 3
      · refine Ev.ifp h3 ?_
        have hg3 : g1 a.data.toList = 3 := by omega
        have bad : ¬ ((r5 a.data.toList).length = 4 ∧ rightK 3 (g2 a.data.toList) [] (num (r5 a.data.toList)) = true) → baK (parsS a.data.toList) = (0, 0, (⟨#[]⟩ : ByteArray), 0, 4) := by
          intro h
          unfold parsS
          rw [if_neg (by omega), if_pos hg3, if_neg h]
          rfl
        have good : (r5 a.data.toList).length = 4 ∧ rightK 3 (g2 a.data.toList) [] (num (r5 a.data.toList)) = true → baK (parsS a.data.toList) = (3, g2 a.data.toList, (⟨#[]⟩ : ByteArray), (num (r5 a.data.toList) : Int), 0) := by
          intro h
          unfold parsS
          rw [if_neg (by omega), if_pos hg3, if_pos h]
          rfl
        have t := rnum_f (ba (r5 a.data.toList)) 4 (by decide) (by decide)
        rw [ba_data] at t
        refine Ev.bind t ?_
        unfold ba3 takeS
        by_cases h4 : (r5 a.data.toList).length < 4
        · simp only [if_pos h4]
          rw [bad (fun h => by have := h.1; omega)]
          refine Ev.ifn (by decide) (Ev.step (fun k => by rw [cambiumref12_Parse.j1]) ?_)
          exact Ev.ifp rfl (Ev.const rfl)
        · simp only [if_neg h4]
          refine Ev.ifp trivial ?_
          rw [ba_toList]
          by_cases h44 : (r5 a.data.toList).length = 4
          · have ed : (r5 a.data.toList).drop 4 = [] := List.drop_eq_nil_of_le (by omega)
            have et : (r5 a.data.toList).take 4 = r5 a.data.toList := List.take_of_length_le (by omega)
            rw [ed, et]
            have hn := num_lt 4 (r5 a.data.toList) h44
            rw [p4] at hn
            refine Ev.step (fun k => by rw [cambiumref12_Parse.j1]) ?_
            rw [e3, Int.emod_eq_of_lt (by omega) (by omega), h3]
            refine Ev.ifn (by decide) (Ev.bind (rright_f 3 (g2 a.data.toList) ⟨#[]⟩ _ hg2.1 (by decide)) ?_)
            by_cases hok : rightK 3 (g2 a.data.toList) [] (num (r5 a.data.toList)) = true
            · rw [good ⟨h44, hok⟩]
              exact Ev.ifp hok (Ev.const rfl)
            · rw [bad (fun h => hok h.2)]
              exact Ev.ifn hok rest_
          · have ed : ((r5 a.data.toList).drop 4 != []) = true := by
              have : (r5 a.data.toList).drop 4 ≠ [] := fun e => by
                have := congrArg List.length e
                rw [List.length_drop] at this
                simp at this
                omega
              simpa using this
            rw [ed, bad (fun h => h44 h.1)]
            refine Ev.step (fun k => by rw [cambiumref12_Parse.j1]) ?_
            exact Ev.ifp rfl (Ev.const rfl)
      · refine Ev.ifn h3 ?_
        have hg3 : ¬ g1 a.data.toList = 3 := by omega
        have hrt := rright_f ((i : Int) + 1) (g2 a.data.toList) (ba (r5 a.data.toList)) 0 hg2.1 (by rw [ba_size]; omega)
        rw [ba_data] at hrt
        refine Ev.bind hrt ?_
        by_cases hok : rightK ((i : Int) + 1) (g2 a.data.toList) (r5 a.data.toList) 0 = true
        · refine Ev.ifp hok (Ev.const ?_)
          unfold parsS
          rw [← hk] at hok
          rw [if_neg (by omega), if_neg hg3, if_pos hok, hk]
          rfl
        · have e : baK (parsS a.data.toList) = (0, 0, (⟨#[]⟩ : ByteArray), 0, 4) := by
            unfold parsS
            rw [← hk] at hok
            rw [if_neg (by omega), if_neg hg3, if_neg hok]
            rfl
          rw [e]
          exact Ev.ifn hok rest_
    · refine Ev.ifn (by rw [ba_toList, e1]; exact hb) ?_
      refine rparse_l0 a hs ha d (i + 1) (by omega) (fun j hj => ?_)
      by_cases hji : j = i
      · subst hji; exact hb
      · exact h j (by omega)
theorem rparse_f (a : ByteArray) (hs : a.size ≤ 9223372036854775807) : Ev (fun k => cambiumref12_Parse.f k a) (baK (parsS a.data.toList)) := by
  unfold cambiumref12_Parse.f
  have hz := size_len a
  by_cases h5 : a.data.toList.length < 5
  · refine Ev.ifp (by omega) (Ev.const ?_)
    unfold parsS
    rw [if_pos h5]
    rfl
  · refine Ev.ifn (by omega) (Ev.ifp (by omega) ?_)
    have t := rnum_f (a.extract 1 a.size) 4 (by decide) (by decide)
    rw [ext_end, ba_data] at t
    have e : takeS 4 (a.data.toList.drop 1) = (g2 a.data.toList, r5 a.data.toList, 0) := by
      unfold takeS
      have : (a.data.toList.drop 1).length = a.data.toList.length - 1 := by simp
      rw [if_neg (by omega), if_neg (by omega)]
      rfl
    rw [e, ← ext_end] at t
    refine Ev.bind t (Ev.bindc rfl ?_)
    exact rparse_l0 a (by omega) hs 4 0 (by omega) (fun j hj => by omega)
end Go.Proofs.Ytocmpidbeagimaa.Z
end

section
/- InodeKeys, over numbers and lists: the law's function answers true. -/
namespace Go.Proofs.Ytocmpidbeagimaa.Pure
open Go.RowKit Go.Proofs.Ytocmpidbeagimaa Go.Proofs.Ytocmpidbeagimaa.Z Go.Proofs.YtocmpidbeagimaaW.PrintWords Go.Proofs.Ytocmpidbeagimaa.PM
theorem InodeKeys : ∀ (a0_0 : Int) (a0_1 : Int) (a0_2 : ByteArray) (a0_3 : Int) (a1 : ByteArray), (Lit.int .u8 a0_0).wf = true → (Lit.int .u32 a0_1).wf = true → a0_2.size ≤ maxLen → (Lit.int .u32 a0_3).wf = true → a1.size ≤ 140737488351232 → ∃ k, Z.cambiumlaw12_InodeKeys.f k a0_0 a0_1 a0_2 a0_3 a1 = some true := by
  intro k i n c b hk hi hn hc hb
  refine Ev.rounds (g := fun r => Z.cambiumlaw12_InodeKeys.f r k i n c b) ?_
  have hk := wf8 hk
  have hi := wf32 hi
  have hc := wf32 hc
  unfold maxLen at hn
  unfold cambiumlaw12_InodeKeys.f
  refine Ev.bind (key_f k i n c hk.1 hi hc.1) (Ev.bind (rkey_f k i n c hi hc.1 hn) (Ev.bind (parse_f b (by omega)) (Ev.bind (rparse_f b (by omega)) (Ev.bind lives_f (Ev.ifp rfl (Ev.ifp rfl (Ev.ifp rfl (Ev.ifp (by simp) (Ev.ifp rfl (Ev.bind (prefix_f k i hk.1 hi) (Ev.bind (rprefix_f k i hi) (Ev.const ?_))))))))))))
  simp
end Go.Proofs.Ytocmpidbeagimaa.Pure
end

section
/- cambium/cambiumlaw12.InodeKeys: at every input the law's function returns true, and each argument reads afterwards as before. Conditions: none beyond the row's own. Printed by a program of this session (mp.py) over the pure statement in YtocmpidbeagimaaPureInodeKeys. -/
namespace Go.Proofs.Ytocmpidbeagimaa.inodeKeys
open Go.ChangeShapes Go.WideShapes Go.ChangeAt Go.RowKit
open Go.ChangeMaps (open_string shut_string)
set_option linter.unusedVariables false
set_option linter.unusedSimpArgs false
theorem own : ownKnob Try.prog.godebug = none := by kernel_rfl
theorem laidOut : laidOutB Try.prog = true := by kernel_rfl
theorem lstOf4 {α : Type} (l : List α) (h : l.length = 4) : ∃ z0 z1 z2 z3, l = [z0, z1, z2, z3] := by
  match l, h with
  | [z0, z1, z2, z3], _ => exact ⟨z0, z1, z2, z3, rfl⟩
theorem arrOf4 {α : Type} (a : Array α) (h : a.toList.length = 4) : ∃ z0 z1 z2 z3, a = #[z0, z1, z2, z3] := by
  obtain ⟨l⟩ := a
  obtain ⟨z0, z1, z2, z3, rfl⟩ := lstOf4 l h
  exact ⟨z0, z1, z2, z3, rfl⟩
set_option maxHeartbeats 1000000 in
set_option maxRecDepth 100000 in
theorem lifted (os : Os) (started : os.Started) (H : Type) (enc : TypeId × Value → H) :
    ReturnsInHanded {} Try.checked os 4 .any (Rows.inodeKeysSpec.pre6 enc Try.prog Try.f4 Rows.inodeKeysRow.domain false) (Rows.inodeKeysSpec.post enc Try.prog Try.f4 false true false false) := by
  refine returnsInHanded_of_change_sized (C := Try.checked) own started (by kernel_rfl) Try.func4
    (ChangeSpec.witness6 (enc := enc) (C := Try.checked) false ⟨#[], #[.agg #[.int .u8 0, .int .u32 0, .string ByteArray.empty, .int .u32 0], .string ByteArray.empty], []⟩ 8 (by kernel_rfl) (by kernel_rfl) (by kernel_rfl) (by kernel_rfl)) ?_
  intro W base args ds gs before hval0 hW hcnd hwz_ _
  have hsz : (DataW.weightsEach Try.prog (Try.f4.params.toList ++ Rows.inodeKeysSpec.plain.varTypes Try.prog) (ds ++ gs)).all (· ≤ reachBytes) = true := hwz_
  have hval : ∀ (j : Nat) t v, Try.f4.params[j]? = some t → args[j]? = some v → Value.okWide Try.prog W .any base t v := hval0
  have hW' := hW
  obtain ⟨p, q, hA0, hV, rfl, hfz, hnd⟩ := hW
  have hA : DataW.TrodAll enc Try.prog W 0 (fun _ => true) true Try.f4.params.toList args.toList ds p := hA0
  rw [Try.params4] at hA hval hsz
  obtain ⟨v0, vs0, d0, ds0, p0, q0, hargs, rfl, rfl, h0, r0⟩ := trodAll_cons hA
  obtain ⟨v1, vs1, d1, ds1, p1, q1, rfl, rfl, rfl, h1, r1⟩ := trodAll_cons r0
  obtain ⟨rfl, rfl, rfl⟩ := trodAll_nil r1
  obtain rfl : args = #[v0, v1] := by cases args; simp_all
  obtain ⟨rfl, rfl⟩ := trodVars_none hV
  have k0 := h0
  have lt0 : ∀ x ∈ p0, x.block < W.heap.size := by obtain ⟨m, hm⟩ := k0; exact DataW.trod_lt m _ _ _ hm
  obtain ⟨cs0, rfl, hsz_0⟩ := okWide_struct Try.underlying37 (hval 0 37 v0 rfl rfl)
  obtain ⟨fuel0, hf0⟩ := h0
  obtain ⟨ys0, n0, hl0, hy0, hx0, hfs0⟩ := Z.flat_fields Try.underlying37 (by kernel_rfl) (by kernel_rfl) hf0
  obtain ⟨q0_0, q0_1, q0_2, q0_3, rfl⟩ := arrOf4 cs0 hl0
  obtain ⟨r0_0, r0_1, r0_2, r0_3, rfl⟩ := lstOf4 ys0 hy0
  obtain ⟨a0_0, hk0_0, hG0_0, hB0_0⟩ := (Z.Opens.int Try.underlying35 (by kernel_rfl)).2 (hfs0 0 _ q0_0 rfl rfl)
  have hk0_0' : [q0_0] = [.int .u8 a0_0] := hk0_0
  simp only [List.cons.injEq, and_true] at hk0_0'
  subst hk0_0'
  clear hk0_0
  obtain ⟨a0_1, hk0_1, hG0_1, hB0_1⟩ := (Z.Opens.int Try.underlying24 (by kernel_rfl)).2 (hfs0 1 _ q0_1 rfl rfl)
  have hk0_1' : [q0_1] = [.int .u32 a0_1] := hk0_1
  simp only [List.cons.injEq, and_true] at hk0_1'
  subst hk0_1'
  clear hk0_1
  obtain ⟨a0_2, hk0_2, hG0_2, hB0_2⟩ := (Z.Opens.string Try.underlying9 (by kernel_rfl)).2 (hfs0 2 _ q0_2 rfl rfl)
  have hk0_2' : [q0_2] = [.string a0_2] := hk0_2
  simp only [List.cons.injEq, and_true] at hk0_2'
  subst hk0_2'
  clear hk0_2
  obtain ⟨a0_3, hk0_3, hG0_3, hB0_3⟩ := (Z.Opens.int Try.underlying24 (by kernel_rfl)).2 (hfs0 3 _ q0_3 rfl rfl)
  have hk0_3' : [q0_3] = [.int .u32 a0_3] := hk0_3
  simp only [List.cons.injEq, and_true] at hk0_3'
  subst hk0_3'
  clear hk0_3
  have k1 := h1
  have lt1 : ∀ x ∈ p1, x.block < W.heap.size := by obtain ⟨m, hm⟩ := k1; exact DataW.trod_lt m _ _ _ hm
  obtain ⟨a1, rfl, rfl, rfl, y1⟩ := open_string Try.underlying9 (hval 1 9 v1 rfl rfl) h1
  have w1 : a1.size ≤ 140737488351232 := by
    have z := sized_string hsz (j := 1) (t := 9) rfl rfl
    rw [Array.length_toList] at z
    exact z
  have hP := Pure.InodeKeys a0_0 a0_1 a0_2 a0_3 a1 hG0_0 hG0_1 hG0_2 hG0_3 w1
  obtain ⟨k, hk⟩ := hP
  refine (Z.cambiumlaw12_InodeKeys.calls k a0_0 a0_1 a0_2 a0_3 a1 true W  hk).mono fun e W' ⟨he, bel0⟩ => ?_
  have bel : Below W.heap.size W W' := bel0
  subst he
  exact ⟨_, rfl, _, _, _, [], _, [], hW', trodAll_mk1 (shut_bool Try.underlying4 _), (trodAll_cons_mk (Below.trod laidOut (by kernel_rfl) (of_decide_eq_true (by kernel_rfl)) k0 bel lt0) (trodAll_cons_mk (Below.trod laidOut (by kernel_rfl) (of_decide_eq_true (by kernel_rfl)) k1 bel lt1) trodAll_mk0)), rfl, bel.frame _, fun h => by cases h⟩
theorem over : Rows.inodeKeysRow.holds Try.pinned (OpenSpec.ofChange Rows.inodeKeysSpec) :=
  OpenClaim.holds_of_wide 4 Try.f4 rfl rfl rfl rfl rfl rfl rfl ⟨rfl, rfl, rfl, rfl, rfl⟩ rfl rfl rfl rfl rfl (by kernel_rfl) Try.func4 (by kernel_rfl)
    (of_decide_eq_true (by kernel_rfl)) (by unfold Func.isWrapper; first | (rw [if_pos (by decide +kernel)]; kernel_rfl) | (rw [if_neg (by decide +kernel)]; exact ⟨rfl, rfl⟩))
    (fun os started H enc _ => lifted os started H enc)
end Go.Proofs.Ytocmpidbeagimaa.inodeKeys
namespace Go.Proofs.Ytocmpidbeagimaa
theorem inodeKeys_holds : Rows.InodeKeysSaid := inodeKeys.over
#print axioms inodeKeys_holds
end Go.Proofs.Ytocmpidbeagimaa
end
