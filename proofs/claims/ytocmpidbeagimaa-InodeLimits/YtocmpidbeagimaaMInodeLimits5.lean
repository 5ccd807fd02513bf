/- InodeLimits: at every input the law's function returns true and leaves its arguments as they were; no condition beyond the row's own. Part 5 of 5: this session's own texts, laid together. -/
import Derived.Test.YtocmpidbeagimaaMB1
import Derived.Test.YtocmpidbeagimaaMB2
import Derived.Test.YtocmpidbeagimaaMB4
import Derived.Test.YtocmpidbeagimaaRows
import Derived.WalkKit
import Derived.ProofKit
import Derived.OpenShut
import Derived.ShutString
import Derived.ChangeOld
import Derived.Below
import Derived.SizedLaws
import Derived.Carry
section
-- Printed by a program of this session (mp.py) out of the translation.
namespace Go.Proofs.Ytocmpidbeagimaa.Z
open Go.RowKit Go.Proofs.YtocmpidbeagimaaW.PrintWords Go.Proofs.YtocmpidbeagimaaW.PrintLast Go.Proofs.YtocmpidbeagimaaW.PrintMore
attribute [local go_sem] max2_int min2_int max_two min_two max_three min_three max_four min_four   -- for this text's walks alone
set_option linter.unusedVariables false
set_option linter.unusedSimpArgs false

/-! ### cambiumlaw12_InodeLimits: function 7 -/
def cambiumlaw12_InodeLimits.f (k : Nat) (a0_0 : Int) (a0_1 : Int) (a0_2 : Int) (a0_3 : Int) (a0_4 : ByteArray) (a1_0 : Int) (a1_1 : Int) (a1_2 : ByteArray) (a1_3 : Int) : Option (Bool) := (cambiumlaw12_lives.f k).bind fun t345 => (if t345 = true then ((inode_Encode.f k a0_0 a0_1 a0_2 a0_3 a0_4).bind fun bt346 => ((inode_Key.f k a1_0 a1_1 a1_2 a1_3).bind fun bt348 => (if ((bt346.2 == 0) == (decide ((bt346.1.size : Int) ≥ 13))) = true then (if (bt346.1.size : Int) ≤ 160 then (if ((bt348.2 == 0) == (decide ((bt348.1.size : Int) ≥ 5))) = true then (if (bt348.1.size : Int) ≤ 48 then ((inode_Prefix.f k 0 1).bind fun t350 => (if t350.toList = ([] : List UInt8) then ((inode_Prefix.f k 5 1).bind fun t351 => (some (t351.toList == ([] : List UInt8)))) else (some false))) else (some false)) else (some false)) else (some false)) else (some false)))) else (some false))
theorem cambiumlaw12_InodeLimits.mono : ∀ a0 a1 a2 a3 a4 a5 a6 a7 a8 k, LeO (cambiumlaw12_InodeLimits.f k a0 a1 a2 a3 a4 a5 a6 a7 a8) (cambiumlaw12_InodeLimits.f (k + 1) a0 a1 a2 a3 a4 a5 a6 a7 a8) := by
  intro a0 a1 a2 a3 a4 a5 a6 a7 a8 k
  unfold cambiumlaw12_InodeLimits.f
  repeat' first
      | (with_reducible exact cambiumlaw12_lives.mono _)
      | (with_reducible exact inode_Encode.mono _ _ _ _ _ _)
      | (with_reducible exact inode_Key.mono _ _ _ _ _)
      | (with_reducible exact inode_Prefix.mono _ _ _)
      | (with_reducible exact LeO.refl _)
      | (with_reducible exact LeO.none _)
      | (with_reducible refine LeO.ite ?_ ?_)
      | (with_reducible refine LeO.bind ?_ (fun _ => ?_))
      | exact cambiumlaw12_lives.mono _
      | exact inode_Encode.mono _ _ _ _ _ _
      | exact inode_Key.mono _ _ _ _ _
      | exact inode_Prefix.mono _ _ _
      | exact LeO.none _
      | refine LeO.ite ?_ ?_
      | refine LeO.bind ?_ (fun _ => ?_)
set_option maxHeartbeats 8000000 in
set_option maxRecDepth 100000 in
theorem cambiumlaw12_InodeLimits.calls (k : Nat) (a0_0 : Int) (a0_1 : Int) (a0_2 : Int) (a0_3 : Int) (a0_4 : ByteArray) (a1_0 : Int) (a1_1 : Int) (a1_2 : ByteArray) (a1_3 : Int) (r : Bool) (w : World) (h : cambiumlaw12_InodeLimits.f k a0_0 a0_1 a0_2 a0_3 a0_4 a1_0 a1_1 a1_2 a1_3 = some r) (hT_ : r = true := by rfl) :
    Calls Try.prog 7 #[.agg #[.int .u8 a0_0, .int .u16 a0_1, .int .u32 a0_2, .int .u32 a0_3, .string a0_4], .agg #[.int .u8 a1_0, .int .u32 a1_1, .string a1_2, .int .u32 a1_3]] w fun e w' => e = .returned (.bool r) ∧ Below w.heap.size w w' := by
  have HT_ := Aside0.mk hT_
  clear hT_
  have hu26 := Try.underlying26
  have hu37 := Try.underlying37
  have HB := Aside0.mk (Below.refl w.heap.size w)
  have H : ((cambiumlaw12_lives.f k).bind fun t345 => (if t345 = true then ((inode_Encode.f k a0_0 a0_1 a0_2 a0_3 a0_4).bind fun bt346 => ((inode_Key.f k a1_0 a1_1 a1_2 a1_3).bind fun bt348 => (if ((bt346.2 == 0) == (decide ((bt346.1.size : Int) ≥ 13))) = true then (if (bt346.1.size : Int) ≤ 160 then (if ((bt348.2 == 0) == (decide ((bt348.1.size : Int) ≥ 5))) = true then (if (bt348.1.size : Int) ≤ 48 then ((inode_Prefix.f k 0 1).bind fun t350 => (if t350.toList = ([] : List UInt8) then ((inode_Prefix.f k 5 1).bind fun t351 => (some (t351.toList == ([] : List UInt8)))) else (some false))) else (some false)) else (some false)) else (some false)) else (some false)))) else (some false))) = some r := h
  clear h
  replace H := Option.bind_eq_some_iff.mp H
  obtain ⟨t345, A30, H⟩ := H
  replace H : (if t345 = true then ((inode_Encode.f k a0_0 a0_1 a0_2 a0_3 a0_4).bind fun bt346 => ((inode_Key.f k a1_0 a1_1 a1_2 a1_3).bind fun bt348 => (if ((bt346.2 == 0) == (decide ((bt346.1.size : Int) ≥ 13))) = true then (if (bt346.1.size : Int) ≤ 160 then (if ((bt348.2 == 0) == (decide ((bt348.1.size : Int) ≥ 5))) = true then (if (bt348.1.size : Int) ≤ 48 then ((inode_Prefix.f k 0 1).bind fun t350 => (if t350.toList = ([] : List UInt8) then ((inode_Prefix.f k 5 1).bind fun t351 => (some (t351.toList == ([] : List UInt8)))) else (some false))) else (some false)) else (some false)) else (some false)) else (some false)))) else (some false)) = some r := H
  have A3 := Aside0.mk A30
  clear A30
  by_cases c4 : t345 = true
  · subst c4
    have H1 : ((inode_Encode.f k a0_0 a0_1 a0_2 a0_3 a0_4).bind fun bt346 => ((inode_Key.f k a1_0 a1_1 a1_2 a1_3).bind fun bt348 => (if ((bt346.2 == 0) == (decide ((bt346.1.size : Int) ≥ 13))) = true then (if (bt346.1.size : Int) ≤ 160 then (if ((bt348.2 == 0) == (decide ((bt348.1.size : Int) ≥ 5))) = true then (if (bt348.1.size : Int) ≤ 48 then ((inode_Prefix.f k 0 1).bind fun t350 => (if t350.toList = ([] : List UInt8) then ((inode_Prefix.f k 5 1).bind fun t351 => (some (t351.toList == ([] : List UInt8)))) else (some false))) else (some false)) else (some false)) else (some false)) else (some false)))) = some r := by rw [if_pos rfl] at H; exact H
    clear H
    have H := H1
    clear H1
    replace H := Option.bind_eq_some_iff.mp H
    obtain ⟨⟨t346, t347⟩, A50, H⟩ := H
    replace H : ((inode_Key.f k a1_0 a1_1 a1_2 a1_3).bind fun bt348 => (if ((t347 == 0) == (decide ((t346.size : Int) ≥ 13))) = true then (if (t346.size : Int) ≤ 160 then (if ((bt348.2 == 0) == (decide ((bt348.1.size : Int) ≥ 5))) = true then (if (bt348.1.size : Int) ≤ 48 then ((inode_Prefix.f k 0 1).bind fun t350 => (if t350.toList = ([] : List UInt8) then ((inode_Prefix.f k 5 1).bind fun t351 => (some (t351.toList == ([] : List UInt8)))) else (some false))) else (some false)) else (some false)) else (some false)) else (some false))) = some r := H
    have A5 := Aside0.mk A50
    clear A50
    replace H := Option.bind_eq_some_iff.mp H
    obtain ⟨⟨t348, t349⟩, A60, H⟩ := H
    replace H : (if ((t347 == 0) == (decide ((t346.size : Int) ≥ 13))) = true then (if (t346.size : Int) ≤ 160 then (if ((t349 == 0) == (decide ((t348.size : Int) ≥ 5))) = true then (if (t348.size : Int) ≤ 48 then ((inode_Prefix.f k 0 1).bind fun t350 => (if t350.toList = ([] : List UInt8) then ((inode_Prefix.f k 5 1).bind fun t351 => (some (t351.toList == ([] : List UInt8)))) else (some false))) else (some false)) else (some false)) else (some false)) else (some false)) = some r := H
    have A6 := Aside0.mk A60
    clear A60
    by_cases c7 : ((t347 == 0) == (decide ((t346.size : Int) ≥ 13))) = true
    · rw [if_pos c7] at H
      have c7b0 : ((t347 == 0) == (decide ((t346.size : Int) ≥ 13))) = true := c7
      (try (have c7b1 : decide ((t347 == 0) = (decide ((t346.size : Int) ≥ 13))) = true := by simpa using c7))
      (try (have c7b2 : ((t347 == 0) == (decide ((t346.size : Int) ≥ 13))) = true := by simpa using c7))
      clear c7
      by_cases c8 : (t346.size : Int) ≤ 160
      · rw [if_pos c8] at H
        have c8b0 : decide ((t346.size : Int) ≤ 160) = true := decide_eq_true c8
        have c8b1 : decide (t346.size ≤ 160) = true := decide_eq_true (by omega)
        clear c8
        by_cases c9 : ((t349 == 0) == (decide ((t348.size : Int) ≥ 5))) = true
        · rw [if_pos c9] at H
          have c9b0 : ((t349 == 0) == (decide ((t348.size : Int) ≥ 5))) = true := c9
          (try (have c9b1 : decide ((t349 == 0) = (decide ((t348.size : Int) ≥ 5))) = true := by simpa using c9))
          (try (have c9b2 : ((t349 == 0) == (decide ((t348.size : Int) ≥ 5))) = true := by simpa using c9))
          clear c9
          by_cases c10 : (t348.size : Int) ≤ 48
          · rw [if_pos c10] at H
            have c10b0 : decide ((t348.size : Int) ≤ 48) = true := decide_eq_true c10
            have c10b1 : decide (t348.size ≤ 48) = true := decide_eq_true (by omega)
            clear c10
            replace H := Option.bind_eq_some_iff.mp H
            obtain ⟨t350, A110, H⟩ := H
            replace H : (if t350.toList = ([] : List UInt8) then ((inode_Prefix.f k 5 1).bind fun t351 => (some (t351.toList == ([] : List UInt8)))) else (some false)) = some r := H
            have A11 := Aside0.mk A110
            clear A110
            by_cases c12 : t350.toList = ([] : List UInt8)
            · rw [if_pos c12] at H
              have c12b0 : (t350.toList == ([] : List UInt8)) = true := beq_iff_eq.mpr c12
              have c12b1 : (t350.toList != ([] : List UInt8)) = false := bne_eq_false_iff_eq.mpr c12
              clear c12
              replace H := Option.bind_eq_some_iff.mp H
              obtain ⟨t351, A130, H⟩ := H
              replace H : (some (t351.toList == ([] : List UInt8))) = some r := H
              have A13 := Aside0.mk A130
              clear A130
              obtain rfl := Option.some.inj H
              go_enter Try.func7, Try.ntmps7
              go_wp2_with (first | ((with_reducible refine gate_dst (N := 2) rfl ?_); (try (refine gate_guard (by rfl) ?_; dsimp only)); refine box_event ?hg (N := 2) ?hd (cs := #[.int .u8 a0_0, .int .u16 a0_1, .int .u32 a0_2, .int .u32 a0_3, .string a0_4]) (t := 26) ?hr ?_; (case hd => rfl); (case hg => rfl); (case hr => first | (go_simp; done) | (go_simp; rfl)); intro gb343 hg w14 hbox hb; have n0_ := Aside0.mk (below_step (by repeat (first | (with_reducible first | exact HB.out | apply below_alloc | apply pw_below_drewN | apply below_drew1) | exact HB.out)) hb); have n1_ := Aside0.mk (hbox); have n2_ := Aside0.mk ((by rw [hg]; exact (below_size (by repeat (first | (with_reducible first | exact HB.out | apply below_alloc | apply pw_below_drewN | apply below_drew1) | exact HB.out))) : w.heap.size ≤ gb343)); have n3_ := Aside0.mk ((by rw [hg]; exact (below_size (by repeat (first | (with_reducible first | exact HB.out | apply below_alloc | apply pw_below_drewN | apply below_drew1) | exact HB.out))) : w.heap.size ≤ gb343)); clear HB; have HB := n0_; have BK343 := n1_; have GW343 := n2_; have GE343 := n3_; clear n0_ n1_ n2_ n3_; clear hb hbox hg) | ((with_reducible refine gate_dst (N := 3) rfl ?_); (try (refine gate_guard (by rfl) ?_; dsimp only)); refine box_event ?hg (N := 3) ?hd (cs := #[.int .u8 a1_0, .int .u32 a1_1, .string a1_2, .int .u32 a1_3]) (t := 37) ?hr ?_; (case hd => rfl); (case hg => rfl); (case hr => first | (go_simp; done) | (go_simp; rfl)); intro gb344 hg w15 hbox hb; have n0_ := Aside0.mk (blk_below (g := gb343) (o := .cells #[.int .u8 a0_0, .int .u16 a0_1, .int .u32 a0_2, .int .u32 a0_3, .string a0_4] 26 (0, 0)) (by (with_reducible repeat (first | refine blk_drewN ?_ _ | refine blk_drew ?_ | refine blk_alloc ?_ _)); exact BK343.out) hb); have n1_ := Aside0.mk (below_step (by repeat (first | (with_reducible first | exact HB.out | apply below_alloc | apply pw_below_drewN | apply below_drew1 | refine below_set ?_ GE343.out) | exact HB.out)) hb); have n2_ := Aside0.mk (hbox); have n3_ := Aside0.mk ((by rw [hg]; exact (below_size (by repeat (first | (with_reducible first | exact HB.out | apply below_alloc | apply pw_below_drewN | apply below_drew1 | refine below_set ?_ GE343.out) | exact HB.out))) : w.heap.size ≤ gb344)); have n4_ := Aside0.mk ((by rw [hg]; exact (below_size (by repeat (first | (with_reducible first | exact HB.out | apply below_alloc | apply pw_below_drewN | apply below_drew1 | refine below_set ?_ GE343.out) | exact HB.out))) : w.heap.size ≤ gb344)); have n5_ := Aside0.mk ((by rw [hg]; exact Nat.ne_of_lt (blk_lt (g := gb343) (o := .cells #[.int .u8 a0_0, .int .u16 a0_1, .int .u32 a0_2, .int .u32 a0_3, .string a0_4] 26 (0, 0)) (by (with_reducible repeat (first | refine blk_drewN ?_ _ | refine blk_drew ?_ | refine blk_alloc ?_ _)); exact BK343.out)) : gb343 ≠ gb344)); have n6_ := Aside0.mk ((by rw [hg]; exact Nat.ne_of_gt (blk_lt (g := gb343) (o := .cells #[.int .u8 a0_0, .int .u16 a0_1, .int .u32 a0_2, .int .u32 a0_3, .string a0_4] 26 (0, 0)) (by (with_reducible repeat (first | refine blk_drewN ?_ _ | refine blk_drew ?_ | refine blk_alloc ?_ _)); exact BK343.out)) : gb344 ≠ gb343)); clear BK343; clear HB; have BK343 := n0_; have HB := n1_; have BK344 := n2_; have GW344 := n3_; have GE344 := n4_; have NB343_344 := n5_; have NB344_343 := n6_; clear n0_ n1_ n2_ n3_ n4_ n5_ n6_; clear hb hbox hg) | ((with_reducible refine gate_callee (f := 12) rfl ?_); refine goesL_ (some 9) rfl rfl Try.func12 (by kernel_rfl) rfl #[] rfl (by (try simp only [List.map_toArray, List.map_cons, List.map_nil]); first | done | rfl | (simp only [List.length_drop, List.length_take]; rfl)) ?_; (with_reducible refine (cambiumlaw12_lives.calls k  true _ A3.out).mono ?_); rintro e w16 ⟨rfl, hb⟩; refine ⟨_, rfl, ?_⟩; have n0_ := Aside0.mk (blk_below (g := gb343) (o := .cells #[.int .u8 a0_0, .int .u16 a0_1, .int .u32 a0_2, .int .u32 a0_3, .string a0_4] 26 (0, 0)) (by (with_reducible repeat (first | refine blk_drewN ?_ _ | refine blk_drew ?_ | refine blk_alloc ?_ _)); exact BK343.out) hb); have n1_ := Aside0.mk (blk_below (g := gb344) (o := .cells #[.int .u8 a1_0, .int .u32 a1_1, .string a1_2, .int .u32 a1_3] 37 (0, 0)) (by (with_reducible repeat (first | refine blk_drewN ?_ _ | refine blk_drew ?_ | refine blk_alloc ?_ _)); exact BK344.out) hb); have n2_ := Aside0.mk (below_step (by repeat (first | (with_reducible first | exact HB.out | apply below_alloc | apply pw_below_drewN | apply below_drew1 | refine below_set ?_ GE343.out | refine below_set ?_ GE344.out) | exact HB.out)) hb); clear BK343; clear BK344; clear HB; have BK343 := n0_; have BK344 := n1_; have HB := n2_; clear n0_ n1_ n2_; (try clear hb); (try clear hb2); (try clear hk); (try clear hi); have hnb17 := NB343_344.out; have hnc17 := NB344_343.out; have hcz18_0 : w16.cell? ⟨gb343, 0, none⟩ = some (.int .u8 a0_0) := (blk_cell BK343.out 0).trans rfl; have hcz18_1 : w16.cell? ⟨gb343, 1, none⟩ = some (.int .u16 a0_1) := (blk_cell BK343.out 1).trans rfl; have hcz18_2 : w16.cell? ⟨gb343, 2, none⟩ = some (.int .u32 a0_2) := (blk_cell BK343.out 2).trans rfl; have hcz18_3 : w16.cell? ⟨gb343, 3, none⟩ = some (.int .u32 a0_3) := (blk_cell BK343.out 3).trans rfl; have hcz18_4 : w16.cell? ⟨gb343, 4, none⟩ = some (.string a0_4) := (blk_cell BK343.out 4).trans rfl; have hfz18_0 := blk_frozen BK343.out 0; have hfz18_1 := blk_frozen BK343.out 1; have hfz18_2 := blk_frozen BK343.out 2; have hfz18_3 := blk_frozen BK343.out 3; have hfz18_4 := blk_frozen BK343.out 4) | ((with_reducible refine gate_callee (f := 8) rfl ?_); refine goesL_ (some 13) rfl rfl Try.func8 (by kernel_rfl) rfl #[.agg #[.int .u8 a0_0, .int .u16 a0_1, .int .u32 a0_2, .int .u32 a0_3, .string a0_4]] rfl (by (try simp only [List.map_toArray, List.map_cons, List.map_nil]); first | done | rfl | (simp only [List.length_drop, List.length_take]; rfl)) ?_; (with_reducible refine (inode_Encode.calls k a0_0 a0_1 a0_2 a0_3 a0_4 t346 t347 _ A5.out).mono ?_); rintro e w19 ⟨rfl, hb⟩; refine ⟨_, rfl, ?_⟩; have n0_ := Aside0.mk (blk_below (g := gb343) (o := .cells #[.int .u8 a0_0, .int .u16 a0_1, .int .u32 a0_2, .int .u32 a0_3, .string a0_4] 26 (0, 0)) (by (with_reducible repeat (first | refine blk_drewN ?_ _ | refine blk_drew ?_ | refine blk_alloc ?_ _)); exact BK343.out) hb); have n1_ := Aside0.mk (blk_below (g := gb344) (o := .cells #[.int .u8 a1_0, .int .u32 a1_1, .string a1_2, .int .u32 a1_3] 37 (0, 0)) (by (with_reducible repeat (first | refine blk_drewN ?_ _ | refine blk_drew ?_ | refine blk_alloc ?_ _)); exact BK344.out) hb); have n2_ := Aside0.mk (below_step (by repeat (first | (with_reducible first | exact HB.out | apply below_alloc | apply pw_below_drewN | apply below_drew1 | refine below_set ?_ GE343.out | refine below_set ?_ GE344.out) | exact HB.out)) hb); clear BK343; clear BK344; clear HB; have BK343 := n0_; have BK344 := n1_; have HB := n2_; clear n0_ n1_ n2_; (try clear hb); (try clear hb2); (try clear hk); (try clear hi); have hcz20_0 : w19.cell? ⟨gb344, 0, none⟩ = some (.int .u8 a1_0) := (blk_cell BK344.out 0).trans rfl; have hcz20_1 : w19.cell? ⟨gb344, 1, none⟩ = some (.int .u32 a1_1) := (blk_cell BK344.out 1).trans rfl; have hcz20_2 : w19.cell? ⟨gb344, 2, none⟩ = some (.string a1_2) := (blk_cell BK344.out 2).trans rfl; have hcz20_3 : w19.cell? ⟨gb344, 3, none⟩ = some (.int .u32 a1_3) := (blk_cell BK344.out 3).trans rfl; have hfz20_0 := blk_frozen BK344.out 0; have hfz20_1 := blk_frozen BK344.out 1; have hfz20_2 := blk_frozen BK344.out 2; have hfz20_3 := blk_frozen BK344.out 3) | ((with_reducible refine gate_callee (f := 15) rfl ?_); refine goesL_ (some 18) rfl rfl Try.func15 (by kernel_rfl) rfl #[.agg #[.int .u8 a1_0, .int .u32 a1_1, .string a1_2, .int .u32 a1_3]] rfl (by (try simp only [List.map_toArray, List.map_cons, List.map_nil]); first | done | rfl | (simp only [List.length_drop, List.length_take]; rfl)) ?_; (with_reducible refine (inode_Key.calls k a1_0 a1_1 a1_2 a1_3 t348 t349 _ A6.out).mono ?_); rintro e w21 ⟨rfl, hb⟩; refine ⟨_, rfl, ?_⟩; have n0_ := Aside0.mk (blk_below (g := gb343) (o := .cells #[.int .u8 a0_0, .int .u16 a0_1, .int .u32 a0_2, .int .u32 a0_3, .string a0_4] 26 (0, 0)) (by (with_reducible repeat (first | refine blk_drewN ?_ _ | refine blk_drew ?_ | refine blk_alloc ?_ _)); exact BK343.out) hb); have n1_ := Aside0.mk (blk_below (g := gb344) (o := .cells #[.int .u8 a1_0, .int .u32 a1_1, .string a1_2, .int .u32 a1_3] 37 (0, 0)) (by (with_reducible repeat (first | refine blk_drewN ?_ _ | refine blk_drew ?_ | refine blk_alloc ?_ _)); exact BK344.out) hb); have n2_ := Aside0.mk (below_step (by repeat (first | (with_reducible first | exact HB.out | apply below_alloc | apply pw_below_drewN | apply below_drew1 | refine below_set ?_ GE343.out | refine below_set ?_ GE344.out) | exact HB.out)) hb); clear BK343; clear BK344; clear HB; have BK343 := n0_; have BK344 := n1_; have HB := n2_; clear n0_ n1_ n2_; (try clear hb); (try clear hb2); (try clear hk); (try clear hi)) | (go_at_call 19; (with_reducible refine (inode_Prefix.calls k 0 1 t350 _ A11.out).mono ?_); rintro e w22 ⟨rfl, hb⟩; have n0_ := Aside0.mk (blk_below (g := gb343) (o := .cells #[.int .u8 a0_0, .int .u16 a0_1, .int .u32 a0_2, .int .u32 a0_3, .string a0_4] 26 (0, 0)) (by (with_reducible repeat (first | refine blk_drewN ?_ _ | refine blk_drew ?_ | refine blk_alloc ?_ _)); exact BK343.out) hb); have n1_ := Aside0.mk (blk_below (g := gb344) (o := .cells #[.int .u8 a1_0, .int .u32 a1_1, .string a1_2, .int .u32 a1_3] 37 (0, 0)) (by (with_reducible repeat (first | refine blk_drewN ?_ _ | refine blk_drew ?_ | refine blk_alloc ?_ _)); exact BK344.out) hb); have n2_ := Aside0.mk (below_step (by repeat (first | (with_reducible first | exact HB.out | apply below_alloc | apply pw_below_drewN | apply below_drew1 | refine below_set ?_ GE343.out | refine below_set ?_ GE344.out) | exact HB.out)) hb); clear BK343; clear BK344; clear HB; have BK343 := n0_; have BK344 := n1_; have HB := n2_; clear n0_ n1_ n2_; (try clear hb); (try clear hb2); (try clear hk); (try clear hi)) | (go_at_call 19; (with_reducible refine (inode_Prefix.calls k 5 1 t351 _ A13.out).mono ?_); rintro e w23 ⟨rfl, hb⟩; have n0_ := Aside0.mk (blk_below (g := gb343) (o := .cells #[.int .u8 a0_0, .int .u16 a0_1, .int .u32 a0_2, .int .u32 a0_3, .string a0_4] 26 (0, 0)) (by (with_reducible repeat (first | refine blk_drewN ?_ _ | refine blk_drew ?_ | refine blk_alloc ?_ _)); exact BK343.out) hb); have n1_ := Aside0.mk (blk_below (g := gb344) (o := .cells #[.int .u8 a1_0, .int .u32 a1_1, .string a1_2, .int .u32 a1_3] 37 (0, 0)) (by (with_reducible repeat (first | refine blk_drewN ?_ _ | refine blk_drew ?_ | refine blk_alloc ?_ _)); exact BK344.out) hb); have n2_ := Aside0.mk (below_step (by repeat (first | (with_reducible first | exact HB.out | apply below_alloc | apply pw_below_drewN | apply below_drew1 | refine below_set ?_ GE343.out | refine below_set ?_ GE344.out) | exact HB.out)) hb); clear BK343; clear BK344; clear HB; have BK343 := n0_; have BK344 := n1_; have HB := n2_; clear n0_ n1_ n2_; (try clear hb); (try clear hb2); (try clear hk); (try clear hi)))
              go_ret
              exact ⟨by first | rfl | (simp [errW_none, errW_some] <;> rfl) | (simp [*, errW_none, errW_some] <;> rfl), by repeat (first | (with_reducible first | exact HB.out | apply below_alloc | apply pw_below_drewN | apply below_drew1 | refine below_set ?_ GE343.out | refine below_set ?_ GE344.out) | exact HB.out)⟩
            · rw [if_neg c12] at H
              have c12b0 : (t350.toList == ([] : List UInt8)) = false := beq_eq_false_iff_ne.mpr c12
              have c12b1 : (t350.toList != ([] : List UInt8)) = true := bne_iff_ne.mpr c12
              exact absurd ((Option.some.inj H).trans HT_.out) (by simp)
          · rw [if_neg c10] at H
            have c10b0 : decide ((t348.size : Int) ≤ 48) = false := decide_eq_false c10
            have c10b1 : decide (t348.size ≤ 48) = false := decide_eq_false (by omega)
            clear c10
            exact absurd ((Option.some.inj H).trans HT_.out) (by simp)
        · rw [if_neg c9] at H
          have c9b0 : ((t349 == 0) == (decide ((t348.size : Int) ≥ 5))) = false := by simpa using c9
          (try (have c9b1 : decide ((t349 == 0) = (decide ((t348.size : Int) ≥ 5))) = false := by simpa using c9))
          (try (have c9b2 : ((t349 == 0) == (decide ((t348.size : Int) ≥ 5))) = false := by simpa using c9))
          (try (have c9b3 : ¬ ((t349 == 0) = (decide ((t348.size : Int) ≥ 5))) := by simpa using c9))
          clear c9
          exact absurd ((Option.some.inj H).trans HT_.out) (by simp)
      · rw [if_neg c8] at H
        have c8b0 : decide ((t346.size : Int) ≤ 160) = false := decide_eq_false c8
        have c8b1 : decide (t346.size ≤ 160) = false := decide_eq_false (by omega)
        clear c8
        exact absurd ((Option.some.inj H).trans HT_.out) (by simp)
    · rw [if_neg c7] at H
      have c7b0 : ((t347 == 0) == (decide ((t346.size : Int) ≥ 13))) = false := by simpa using c7
      (try (have c7b1 : decide ((t347 == 0) = (decide ((t346.size : Int) ≥ 13))) = false := by simpa using c7))
      (try (have c7b2 : ((t347 == 0) == (decide ((t346.size : Int) ≥ 13))) = false := by simpa using c7))
      (try (have c7b3 : ¬ ((t347 == 0) = (decide ((t346.size : Int) ≥ 13))) := by simpa using c7))
      clear c7
      exact absurd ((Option.some.inj H).trans HT_.out) (by simp)
  · replace c4 := Bool.eq_false_iff.mpr c4
    subst c4
    have H1 : (some false) = some r := by rw [if_neg (show ¬ (false = true) by decide)] at H; exact H
    clear H
    have H := H1
    clear H1
    exact absurd ((Option.some.inj H).trans HT_.out) (by simp)

end Go.Proofs.Ytocmpidbeagimaa.Z
end

section
/- InodeLimits, over numbers and lists: the law's function answers true. -/
namespace Go.Proofs.Ytocmpidbeagimaa.Pure
open Go.RowKit Go.Proofs.Ytocmpidbeagimaa Go.Proofs.Ytocmpidbeagimaa.Z Go.Proofs.YtocmpidbeagimaaW.PrintWords Go.Proofs.Ytocmpidbeagimaa.PM
theorem InodeLimits : ∀ (a0_0 : Int) (a0_1 : Int) (a0_2 : Int) (a0_3 : Int) (a0_4 : ByteArray) (a1_0 : Int) (a1_1 : Int) (a1_2 : ByteArray) (a1_3 : Int), (Lit.int .u8 a0_0).wf = true → (Lit.int .u16 a0_1).wf = true → (Lit.int .u32 a0_2).wf = true → (Lit.int .u32 a0_3).wf = true → a0_4.size ≤ maxLen → (Lit.int .u8 a1_0).wf = true → (Lit.int .u32 a1_1).wf = true → a1_2.size ≤ maxLen → (Lit.int .u32 a1_3).wf = true → ∃ k, Z.cambiumlaw12_InodeLimits.f k a0_0 a0_1 a0_2 a0_3 a0_4 a1_0 a1_1 a1_2 a1_3 = some true := by
  intro k m l s t q i n c hk hm hl hs ht hq hi hn hc
  refine Ev.rounds (g := fun r => Z.cambiumlaw12_InodeLimits.f r k m l s t q i n c) ?_
  have hk := wf8 hk
  have hm := wf16 hm
  have hl := wf32 hl
  have hs := wf32 hs
  have hq := wf8 hq
  have hi := wf32 hi
  have hc := wf32 hc
  unfold cambiumlaw12_InodeLimits.f
  have a1 : ((encS k m l s t.data.toList).2 == 0) = decide (((ba (encS k m l s t.data.toList).1).size : Int) ≥ 13) ∧ ((ba (encS k m l s t.data.toList).1).size : Int) ≤ 160 := by
    rw [ba_size]
    unfold encS
    by_cases h : okN k l s t.data.toList = true
    · rw [if_pos h]
      have := okN_size h
      have hlen : (enc k m l s t.data.toList).length = 13 + t.data.toList.length := by unfold enc; simp only [List.length_append, be_len]; omega
      (try dsimp only)
      rw [hlen]
      constructor
      · simp; omega
      · (try dsimp only); omega
    · rw [if_neg h]; decide
  have a2 : ((keyS q i n.data.toList c).2 == 0) = decide (((ba (keyS q i n.data.toList c).1).size : Int) ≥ 5) ∧ ((ba (keyS q i n.data.toList c).1).size : Int) ≤ 48 := by
    rw [ba_size]
    unfold keyS
    by_cases h : rightK q i n.data.toList c = true
    · rw [if_pos h]
      have := key_len h
      constructor
      · simp; omega
      · (try dsimp only); omega
    · rw [if_neg h]; decide
  refine Ev.bind lives_f (Ev.ifp rfl (Ev.bind (encode_f k m l s t hk hm hl hs) (Ev.bind (key_f q i n c hq.1 hi hc.1) ?_)))
  refine Ev.ifp (by rw [a1.1]; simp) (Ev.ifp a1.2 (Ev.ifp (by rw [a2.1]; simp) (Ev.ifp a2.2 (Ev.bind (prefix_f 0 1 (by decide) (by decide)) (Ev.ifp (ba_toList _) (Ev.bind (prefix_f 5 1 (by decide) (by decide)) (Ev.const ?_)))))))
  rw [ba_toList]
  rfl
end Go.Proofs.Ytocmpidbeagimaa.Pure
end

section
/- cambium/cambiumlaw12.InodeLimits: at every input the law's function returns true, and each argument reads afterwards as before. Conditions: none beyond the row's own. Printed by a program of this session (mp.py) over the pure statement in YtocmpidbeagimaaPureInodeLimits. -/
namespace Go.Proofs.Ytocmpidbeagimaa.inodeLimits
open Go.ChangeShapes Go.WideShapes Go.ChangeAt Go.RowKit
open Go.ChangeMaps (open_string shut_string)
set_option linter.unusedVariables false
set_option linter.unusedSimpArgs false
theorem own : ownKnob Try.prog.godebug = none := by kernel_rfl
theorem laidOut : laidOutB Try.prog = true := by kernel_rfl
theorem lstOf4 {α : Type} (l : List α) (h : l.length = 4) : ∃ z0 z1 z2 z3, l = [z0, z1, z2, z3] := by
  match l, h with
  | [z0, z1, z2, z3], _ => exact ⟨z0, z1, z2, z3, rfl⟩
theorem arrOf4 {α : Type} (a : Array α) (h : a.toList.length = 4) : ∃ z0 z1 z2 z3, a = #[z0, z1, z2, z3] := by
  obtain ⟨l⟩ := a
  obtain ⟨z0, z1, z2, z3, rfl⟩ := lstOf4 l h
  exact ⟨z0, z1, z2, z3, rfl⟩
theorem lstOf5 {α : Type} (l : List α) (h : l.length = 5) : ∃ z0 z1 z2 z3 z4, l = [z0, z1, z2, z3, z4] := by
  match l, h with
  | [z0, z1, z2, z3, z4], _ => exact ⟨z0, z1, z2, z3, z4, rfl⟩
theorem arrOf5 {α : Type} (a : Array α) (h : a.toList.length = 5) : ∃ z0 z1 z2 z3 z4, a = #[z0, z1, z2, z3, z4] := by
  obtain ⟨l⟩ := a
  obtain ⟨z0, z1, z2, z3, z4, rfl⟩ := lstOf5 l h
  exact ⟨z0, z1, z2, z3, z4, rfl⟩
set_option maxHeartbeats 1000000 in
set_option maxRecDepth 100000 in
theorem lifted (os : Os) (started : os.Started) (H : Type) (enc : TypeId × Value → H) :
    ReturnsInHanded {} Try.checked os 7 .any (Rows.inodeLimitsSpec.pre6 enc Try.prog Try.f7 Rows.inodeLimitsRow.domain false) (Rows.inodeLimitsSpec.post enc Try.prog Try.f7 false true false false) := by
  refine returnsInHanded_of_change_sized (C := Try.checked) own started (by kernel_rfl) Try.func7
    (ChangeSpec.witness6 (enc := enc) (C := Try.checked) false ⟨#[], #[.agg #[.int .u8 0, .int .u16 0, .int .u32 0, .int .u32 0, .string ByteArray.empty], .agg #[.int .u8 0, .int .u32 0, .string ByteArray.empty, .int .u32 0]], []⟩ 8 (by kernel_rfl) (by kernel_rfl) (by kernel_rfl) (by kernel_rfl)) ?_
  intro W base args ds gs before hval0 hW hcnd hwz_ _
  have hsz : (DataW.weightsEach Try.prog (Try.f7.params.toList ++ Rows.inodeLimitsSpec.plain.varTypes Try.prog) (ds ++ gs)).all (· ≤ reachBytes) = true := hwz_
  have hval : ∀ (j : Nat) t v, Try.f7.params[j]? = some t → args[j]? = some v → Value.okWide Try.prog W .any base t v := hval0
  have hW' := hW
  obtain ⟨p, q, hA0, hV, rfl, hfz, hnd⟩ := hW
  have hA : DataW.TrodAll enc Try.prog W 0 (fun _ => true) true Try.f7.params.toList args.toList ds p := hA0
  rw [Try.params7] at hA hval hsz
  obtain ⟨v0, vs0, d0, ds0, p0, q0, hargs, rfl, rfl, h0, r0⟩ := trodAll_cons hA
  obtain ⟨v1, vs1, d1, ds1, p1, q1, rfl, rfl, rfl, h1, r1⟩ := trodAll_cons r0
  obtain ⟨rfl, rfl, rfl⟩ := trodAll_nil r1
  obtain rfl : args = #[v0, v1] := by cases args; simp_all
  obtain ⟨rfl, rfl⟩ := trodVars_none hV
  have k0 := h0
  have lt0 : ∀ x ∈ p0, x.block < W.heap.size := by obtain ⟨m, hm⟩ := k0; exact DataW.trod_lt m _ _ _ hm
  obtain ⟨cs0, rfl, hsz_0⟩ := okWide_struct Try.underlying26 (hval 0 26 v0 rfl rfl)
  obtain ⟨fuel0, hf0⟩ := h0
  obtain ⟨ys0, n0, hl0, hy0, hx0, hfs0⟩ := Z.flat_fields Try.underlying26 (by kernel_rfl) (by kernel_rfl) hf0
  obtain ⟨q0_0, q0_1, q0_2, q0_3, q0_4, rfl⟩ := arrOf5 cs0 hl0
  obtain ⟨r0_0, r0_1, r0_2, r0_3, r0_4, rfl⟩ := lstOf5 ys0 hy0
  obtain ⟨a0_0, hk0_0, hG0_0, hB0_0⟩ := (Z.Opens.int Try.underlying22 (by kernel_rfl)).2 (hfs0 0 _ q0_0 rfl rfl)
  have hk0_0' : [q0_0] = [.int .u8 a0_0] := hk0_0
  simp only [List.cons.injEq, and_true] at hk0_0'
  subst hk0_0'
  clear hk0_0
  obtain ⟨a0_1, hk0_1, hG0_1, hB0_1⟩ := (Z.Opens.int Try.underlying23 (by kernel_rfl)).2 (hfs0 1 _ q0_1 rfl rfl)
  have hk0_1' : [q0_1] = [.int .u16 a0_1] := hk0_1
  simp only [List.cons.injEq, and_true] at hk0_1'
  subst hk0_1'
  clear hk0_1
  obtain ⟨a0_2, hk0_2, hG0_2, hB0_2⟩ := (Z.Opens.int Try.underlying24 (by kernel_rfl)).2 (hfs0 2 _ q0_2 rfl rfl)
  have hk0_2' : [q0_2] = [.int .u32 a0_2] := hk0_2
  simp only [List.cons.injEq, and_true] at hk0_2'
  subst hk0_2'
  clear hk0_2
  obtain ⟨a0_3, hk0_3, hG0_3, hB0_3⟩ := (Z.Opens.int Try.underlying24 (by kernel_rfl)).2 (hfs0 3 _ q0_3 rfl rfl)
  have hk0_3' : [q0_3] = [.int .u32 a0_3] := hk0_3
  simp only [List.cons.injEq, and_true] at hk0_3'
  subst hk0_3'
  clear hk0_3
  obtain ⟨a0_4, hk0_4, hG0_4, hB0_4⟩ := (Z.Opens.string Try.underlying9 (by kernel_rfl)).2 (hfs0 4 _ q0_4 rfl rfl)
  have hk0_4' : [q0_4] = [.string a0_4] := hk0_4
  simp only [List.cons.injEq, and_true] at hk0_4'
  subst hk0_4'
  clear hk0_4
  have k1 := h1
  have lt1 : ∀ x ∈ p1, x.block < W.heap.size := by obtain ⟨m, hm⟩ := k1; exact DataW.trod_lt m _ _ _ hm
  obtain ⟨cs1, rfl, hsz_1⟩ := okWide_struct Try.underlying37 (hval 1 37 v1 rfl rfl)
  obtain ⟨fuel1, hf1⟩ := h1
  obtain ⟨ys1, n1, hl1, hy1, hx1, hfs1⟩ := Z.flat_fields Try.underlying37 (by kernel_rfl) (by kernel_rfl) hf1
  obtain ⟨q1_0, q1_1, q1_2, q1_3, rfl⟩ := arrOf4 cs1 hl1
  obtain ⟨r1_0, r1_1, r1_2, r1_3, rfl⟩ := lstOf4 ys1 hy1
  obtain ⟨a1_0, hk1_0, hG1_0, hB1_0⟩ := (Z.Opens.int Try.underlying35 (by kernel_rfl)).2 (hfs1 0 _ q1_0 rfl rfl)
  have hk1_0' : [q1_0] = [.int .u8 a1_0] := hk1_0
  simp only [List.cons.injEq, and_true] at hk1_0'
  subst hk1_0'
  clear hk1_0
  obtain ⟨a1_1, hk1_1, hG1_1, hB1_1⟩ := (Z.Opens.int Try.underlying24 (by kernel_rfl)).2 (hfs1 1 _ q1_1 rfl rfl)
  have hk1_1' : [q1_1] = [.int .u32 a1_1] := hk1_1
  simp only [List.cons.injEq, and_true] at hk1_1'
  subst hk1_1'
  clear hk1_1
  obtain ⟨a1_2, hk1_2, hG1_2, hB1_2⟩ := (Z.Opens.string Try.underlying9 (by kernel_rfl)).2 (hfs1 2 _ q1_2 rfl rfl)
  have hk1_2' : [q1_2] = [.string a1_2] := hk1_2
  simp only [List.cons.injEq, and_true] at hk1_2'
  subst hk1_2'
  clear hk1_2
  obtain ⟨a1_3, hk1_3, hG1_3, hB1_3⟩ := (Z.Opens.int Try.underlying24 (by kernel_rfl)).2 (hfs1 3 _ q1_3 rfl rfl)
  have hk1_3' : [q1_3] = [.int .u32 a1_3] := hk1_3
  simp only [List.cons.injEq, and_true] at hk1_3'
  subst hk1_3'
  clear hk1_3
  have hP := Pure.InodeLimits a0_0 a0_1 a0_2 a0_3 a0_4 a1_0 a1_1 a1_2 a1_3 hG0_0 hG0_1 hG0_2 hG0_3 hG0_4 hG1_0 hG1_1 hG1_2 hG1_3
  obtain ⟨k, hk⟩ := hP
  refine (Z.cambiumlaw12_InodeLimits.calls k a0_0 a0_1 a0_2 a0_3 a0_4 a1_0 a1_1 a1_2 a1_3 true W  hk).mono fun e W' ⟨he, bel0⟩ => ?_
  have bel : Below W.heap.size W W' := bel0
  subst he
  exact ⟨_, rfl, _, _, _, [], _, [], hW', trodAll_mk1 (shut_bool Try.underlying4 _), (trodAll_cons_mk (Below.trod laidOut (by kernel_rfl) (of_decide_eq_true (by kernel_rfl)) k0 bel lt0) (trodAll_cons_mk (Below.trod laidOut (by kernel_rfl) (of_decide_eq_true (by kernel_rfl)) k1 bel lt1) trodAll_mk0)), rfl, bel.frame _, fun h => by cases h⟩
theorem over : Rows.inodeLimitsRow.holds Try.pinned (OpenSpec.ofChange Rows.inodeLimitsSpec) :=
  OpenClaim.holds_of_wide 7 Try.f7 rfl rfl rfl rfl rfl rfl rfl ⟨rfl, rfl, rfl, rfl, rfl⟩ rfl rfl rfl rfl rfl (by kernel_rfl) Try.func7 (by kernel_rfl)
    (of_decide_eq_true (by kernel_rfl)) (by unfold Func.isWrapper; first | (rw [if_pos (by decide +kernel)]; kernel_rfl) | (rw [if_neg (by decide +kernel)]; exact ⟨rfl, rfl⟩))
    (fun os started H enc _ => lifted os started H enc)
end Go.Proofs.Ytocmpidbeagimaa.inodeLimits
namespace Go.Proofs.Ytocmpidbeagimaa
theorem inodeLimits_holds : Rows.InodeLimitsSaid := inodeLimits.over
#print axioms inodeLimits_holds
end Go.Proofs.Ytocmpidbeagimaa
end
