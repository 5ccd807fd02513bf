/- InodePrefixes: at every input the law's function returns true and leaves its arguments as they were; no condition beyond the row's own. Part 5 of 5: this session's own texts, laid together. -/
import Derived.Test.YtocmpidbeagimaaProg
import Derived.Laws.Strings
import Derived.Test.YtocmpidbeagimaaMB1
import Derived.Test.YtocmpidbeagimaaMB3
import Derived.Test.YtocmpidbeagimaaMB2
import Derived.Test.YtocmpidbeagimaaMB4
import Derived.Test.YtocmpidbeagimaaRows
import Derived.WalkKit
import Derived.ProofKit
import Derived.OpenShut
import Derived.ShutString
import Derived.ChangeOld
import Derived.Below
import Derived.SizedLaws
import Derived.Carry
section
/- The order of texts, byte by byte; what the walk takes of a text's > and <=. -/
namespace Go.Proofs.Ytocmpidbeagimaa.Z
open Go
theorem bl_irrefl : ∀ x : List UInt8, Op.bytesLess x x = false
  | [] => rfl
  | a :: x => by simp [Op.bytesLess, bl_irrefl x]
theorem bl_trans : ∀ {x y z : List UInt8}, Op.bytesLess x y = true → Op.bytesLess y z = true → Op.bytesLess x z = true
  | _, [], _, h, _ => by simp [Op.bytesLess] at h
  | [], _ :: _, [], _, h => by simp [Op.bytesLess] at h
  | _ :: _, _ :: _, [], _, h => by simp [Op.bytesLess] at h
  | [], _ :: _, _ :: _, _, _ => rfl
  | a :: x, b :: y, c :: z, h, k => by
    simp only [Op.bytesLess, Bool.or_eq_true, decide_eq_true_eq, Bool.and_eq_true, beq_iff_eq] at h k ⊢
    rcases h with h | ⟨rfl, h⟩ <;> rcases k with k | ⟨rfl, k⟩
    · exact .inl (UInt8.lt_trans h k)
    · exact .inl h
    · exact .inl k
    · exact .inr ⟨rfl, bl_trans h k⟩
theorem bl_total : ∀ x y : List UInt8, x = y ∨ Op.bytesLess x y = true ∨ Op.bytesLess y x = true
  | [], [] => .inl rfl
  | [], _ :: _ => .inr (.inl rfl)
  | _ :: _, [] => .inr (.inr rfl)
  | a :: x, b :: y => by
    simp only [Op.bytesLess, Bool.or_eq_true, decide_eq_true_eq, Bool.and_eq_true, beq_iff_eq]
    rcases Nat.lt_trichotomy a.toNat b.toNat with h | h | h
    · exact .inr (.inl (.inl (UInt8.lt_iff_toNat_lt.2 h)))
    · obtain rfl := UInt8.toNat_inj.1 h
      rcases bl_total x y with rfl | k | k
      · exact .inl rfl
      · exact .inr (.inl (.inr ⟨rfl, k⟩))
      · exact .inr (.inr (.inr ⟨rfl, k⟩))
    · exact .inr (.inr (.inl (UInt8.lt_iff_toNat_lt.2 h)))
theorem bl_asymm {x y : List UInt8} (h : Op.bytesLess x y = true) : Op.bytesLess y x = false := by
  cases k : Op.bytesLess y x
  · rfl
  · have := bl_trans h k; rw [bl_irrefl] at this; cases this
theorem bl_ne {x y : List UInt8} (h : Op.bytesLess x y = true) : x ≠ y := by rintro rfl; rw [bl_irrefl] at h; cases h
theorem bl_leq (x y : List UInt8) : (Op.bytesLess x y || x == y) = !Op.bytesLess y x := by
  rcases bl_total x y with rfl | h | h
  · simp [bl_irrefl]
  · simp [h, bl_asymm h]
  · have : (x == y) = false := by simpa using (bl_ne h).symm
    simp [h, bl_asymm h, this]
theorem bl_gtr (x y : List UInt8) : (!(Op.bytesLess x y || x == y)) = Op.bytesLess y x := by rw [bl_leq]; simp
@[go_sem] theorem binOp_string_gtr_ (t : TypeId) (a b : ByteArray) : binOp .gtr t (.string a) (.string b) = pure (.bool (Op.bytesLess b.toList a.toList)) := by
  simp [binOp, Op.stringOp]
  rw [← Bool.not_or, bl_gtr]
@[go_sem] theorem binOp_string_leq_ (t : TypeId) (a b : ByteArray) : binOp .leq t (.string a) (.string b) = pure (.bool !(Op.bytesLess b.toList a.toList)) := by
  simp [binOp, Op.stringOp]
  rw [bl_leq]
@[go_sem] theorem binOp_string_geq_ (t : TypeId) (a b : ByteArray) : binOp .geq t (.string a) (.string b) = pure (.bool !(Op.bytesLess a.toList b.toList)) := by
  simp [binOp, Op.stringOp]
end Go.Proofs.Ytocmpidbeagimaa.Z
end

section
-- Printed by a program of this session (mp.py) out of the translation.
namespace Go.Proofs.Ytocmpidbeagimaa.Z
open Go.RowKit Go.Proofs.YtocmpidbeagimaaW.PrintWords Go.Proofs.YtocmpidbeagimaaW.PrintLast Go.Proofs.YtocmpidbeagimaaW.PrintMore
attribute [local go_sem] max2_int min2_int max_two min_two max_three min_three max_four min_four   -- for this text's walks alone
set_option linter.unusedVariables false
set_option linter.unusedSimpArgs false

attribute [local go_sem high] eqA37
/-! ### cambiumlaw12_InodePrefixes: function 6 -/
def cambiumlaw12_InodePrefixes.j0 : Nat → ByteArray → ByteArray → Bool → Int → Int → ByteArray → Int → Int → Int → ByteArray → Int → Option (Bool)
  | 0, _, _, _, _, _, _, _, _, _, _, _ => none
  | k + 1, x5, x7, x27, x337000, x337001, x337002, x337003, x338000, x338001, x338002, x338003 => if x27 = true then (some true) else (if x337000 = x338000 then (if 5 ≤ (x5.size : Int) then (if 5 ≤ (x7.size : Int) then (if (((x5.extract 0 5).toList == (x7.extract 0 5).toList) != (x337001 == x338001)) = true then (some false) else (if ((x5.toList == x7.toList) != (x337000 == x338000 && (x337001 == x338001 && (x337002.toList == x338002.toList && (x337003 == x338003))))) = true then (some false) else (if x337001 = x338001 then (if x337000 = 3 then (some ((Op.bytesLess x5.toList x7.toList) == (decide (x337003 < x338003)))) else (some true)) else (some true)))) else (none)) else (none)) else (if 5 ≤ (x5.size : Int) then (if 5 ≤ (x7.size : Int) then (if (((x5.extract 0 5).toList == (x7.extract 0 5).toList) != false) = true then (some false) else (if ((x5.toList == x7.toList) != (x337000 == x338000 && (x337001 == x338001 && (x337002.toList == x338002.toList && (x337003 == x338003))))) = true then (some false) else (some true))) else (none)) else (none)))
def cambiumlaw12_InodePrefixes.f (k : Nat) (a0_0 : Int) (a0_1 : Int) (a0_2 : ByteArray) (a0_3 : Int) (a1_0 : Int) (a1_1 : Int) (a1_2 : ByteArray) (a1_3 : Int) : Option (Bool) := (cambiumlaw12_lives.f k).bind fun t338 => (if t338 = true then ((inode_Key.f k a0_0 a0_1 a0_2 a0_3).bind fun bt339 => ((inode_Key.f k a1_0 a1_1 a1_2 a1_3).bind fun bt341 => (if bt339.2 = 0 then (cambiumlaw12_InodePrefixes.j0 k bt339.1 bt341.1 (bt341.2 != 0) a0_0 a0_1 a0_2 a0_3 a1_0 a1_1 a1_2 a1_3) else (cambiumlaw12_InodePrefixes.j0 k bt339.1 bt341.1 true a0_0 a0_1 a0_2 a0_3 a1_0 a1_1 a1_2 a1_3)))) else (some false))
theorem cambiumlaw12_InodePrefixes.mono_l : ∀ k, (∀ y0 y1 y2 y3 y4 y5 y6 y7 y8 y9 y10, LeO (cambiumlaw12_InodePrefixes.j0 k y0 y1 y2 y3 y4 y5 y6 y7 y8 y9 y10) (cambiumlaw12_InodePrefixes.j0 (k + 1) y0 y1 y2 y3 y4 y5 y6 y7 y8 y9 y10))
  | 0 => fun _ _ _ _ _ _ _ _ _ _ _ r h => by simp [cambiumlaw12_InodePrefixes.j0] at h
  | k + 1 => by
    have ih0 := cambiumlaw12_InodePrefixes.mono_l k
    · intro y0 y1 y2 y3 y4 y5 y6 y7 y8 y9 y10
      unfold cambiumlaw12_InodePrefixes.j0
      repeat' first
      | (with_reducible exact ih0 _ _ _ _ _ _ _ _ _ _ _)
      | (with_reducible exact cambiumlaw12_lives.mono _)
      | (with_reducible exact inode_Key.mono _ _ _ _ _)
      | (with_reducible exact LeO.refl _)
      | (with_reducible exact LeO.none _)
      | (with_reducible refine LeO.ite ?_ ?_)
      | (with_reducible refine LeO.bind ?_ (fun _ => ?_))
      | exact ih0 _ _ _ _ _ _ _ _ _ _ _
      | exact cambiumlaw12_lives.mono _
      | exact inode_Key.mono _ _ _ _ _
      | exact LeO.none _
      | refine LeO.ite ?_ ?_
      | refine LeO.bind ?_ (fun _ => ?_)
theorem cambiumlaw12_InodePrefixes.mono : ∀ a0 a1 a2 a3 a4 a5 a6 a7 k, LeO (cambiumlaw12_InodePrefixes.f k a0 a1 a2 a3 a4 a5 a6 a7) (cambiumlaw12_InodePrefixes.f (k + 1) a0 a1 a2 a3 a4 a5 a6 a7) := by
  intro a0 a1 a2 a3 a4 a5 a6 a7 k
  have ih0 := cambiumlaw12_InodePrefixes.mono_l k
  unfold cambiumlaw12_InodePrefixes.f
  repeat' first
      | (with_reducible exact ih0 _ _ _ _ _ _ _ _ _ _ _)
      | (with_reducible exact cambiumlaw12_lives.mono _)
      | (with_reducible exact inode_Key.mono _ _ _ _ _)
      | (with_reducible exact LeO.refl _)
      | (with_reducible exact LeO.none _)
      | (with_reducible refine LeO.ite ?_ ?_)
      | (with_reducible refine LeO.bind ?_ (fun _ => ?_))
      | exact ih0 _ _ _ _ _ _ _ _ _ _ _
      | exact cambiumlaw12_lives.mono _
      | exact inode_Key.mono _ _ _ _ _
      | exact LeO.none _
      | refine LeO.ite ?_ ?_
      | refine LeO.bind ?_ (fun _ => ?_)
set_option maxHeartbeats 8000000 in
set_option maxRecDepth 100000 in
theorem cambiumlaw12_InodePrefixes.calls (k : Nat) (a0_0 : Int) (a0_1 : Int) (a0_2 : ByteArray) (a0_3 : Int) (a1_0 : Int) (a1_1 : Int) (a1_2 : ByteArray) (a1_3 : Int) (r : Bool) (w : World) (h : cambiumlaw12_InodePrefixes.f k a0_0 a0_1 a0_2 a0_3 a1_0 a1_1 a1_2 a1_3 = some r) (hT_ : r = true := by rfl) :
    Calls Try.prog 6 #[.agg #[.int .u8 a0_0, .int .u32 a0_1, .string a0_2, .int .u32 a0_3], .agg #[.int .u8 a1_0, .int .u32 a1_1, .string a1_2, .int .u32 a1_3]] w fun e w' => e = .returned (.bool r) ∧ Below w.heap.size w w' := by
  have HT_ := Aside0.mk hT_
  clear hT_
  have hu37 := Try.underlying37
  have HB := Aside0.mk (Below.refl w.heap.size w)
  have H : ((cambiumlaw12_lives.f k).bind fun t338 => (if t338 = true then ((inode_Key.f k a0_0 a0_1 a0_2 a0_3).bind fun bt339 => ((inode_Key.f k a1_0 a1_1 a1_2 a1_3).bind fun bt341 => (if bt339.2 = 0 then (cambiumlaw12_InodePrefixes.j0 k bt339.1 bt341.1 (bt341.2 != 0) a0_0 a0_1 a0_2 a0_3 a1_0 a1_1 a1_2 a1_3) else (cambiumlaw12_InodePrefixes.j0 k bt339.1 bt341.1 true a0_0 a0_1 a0_2 a0_3 a1_0 a1_1 a1_2 a1_3)))) else (some false))) = some r := h
  clear h
  replace H := Option.bind_eq_some_iff.mp H
  obtain ⟨t338, A30, H⟩ := H
  replace H : (if t338 = true then ((inode_Key.f k a0_0 a0_1 a0_2 a0_3).bind fun bt339 => ((inode_Key.f k a1_0 a1_1 a1_2 a1_3).bind fun bt341 => (if bt339.2 = 0 then (cambiumlaw12_InodePrefixes.j0 k bt339.1 bt341.1 (bt341.2 != 0) a0_0 a0_1 a0_2 a0_3 a1_0 a1_1 a1_2 a1_3) else (cambiumlaw12_InodePrefixes.j0 k bt339.1 bt341.1 true a0_0 a0_1 a0_2 a0_3 a1_0 a1_1 a1_2 a1_3)))) else (some false)) = some r := H
  have A3 := Aside0.mk A30
  clear A30
  by_cases c4 : t338 = true
  · subst c4
    have H1 : ((inode_Key.f k a0_0 a0_1 a0_2 a0_3).bind fun bt339 => ((inode_Key.f k a1_0 a1_1 a1_2 a1_3).bind fun bt341 => (if bt339.2 = 0 then (cambiumlaw12_InodePrefixes.j0 k bt339.1 bt341.1 (bt341.2 != 0) a0_0 a0_1 a0_2 a0_3 a1_0 a1_1 a1_2 a1_3) else (cambiumlaw12_InodePrefixes.j0 k bt339.1 bt341.1 true a0_0 a0_1 a0_2 a0_3 a1_0 a1_1 a1_2 a1_3)))) = some r := by rw [if_pos rfl] at H; exact H
    clear H
    have H := H1
    clear H1
    replace H := Option.bind_eq_some_iff.mp H
    obtain ⟨⟨t339, t340⟩, A50, H⟩ := H
    replace H : ((inode_Key.f k a1_0 a1_1 a1_2 a1_3).bind fun bt341 => (if t340 = 0 then (cambiumlaw12_InodePrefixes.j0 k t339 bt341.1 (bt341.2 != 0) a0_0 a0_1 a0_2 a0_3 a1_0 a1_1 a1_2 a1_3) else (cambiumlaw12_InodePrefixes.j0 k t339 bt341.1 true a0_0 a0_1 a0_2 a0_3 a1_0 a1_1 a1_2 a1_3))) = some r := H
    have A5 := Aside0.mk A50
    clear A50
    replace H := Option.bind_eq_some_iff.mp H
    obtain ⟨⟨t341, t342⟩, A60, H⟩ := H
    replace H : (if t340 = 0 then (cambiumlaw12_InodePrefixes.j0 k t339 t341 (t342 != 0) a0_0 a0_1 a0_2 a0_3 a1_0 a1_1 a1_2 a1_3) else (cambiumlaw12_InodePrefixes.j0 k t339 t341 true a0_0 a0_1 a0_2 a0_3 a1_0 a1_1 a1_2 a1_3)) = some r := H
    have A6 := Aside0.mk A60
    clear A60
    have HC7 := Aside0.mk H
    clear H
    go_enter Try.func6, Try.ntmps6
    go_upto_region 5 with (first | ((with_reducible refine gate_dst (N := 2) rfl ?_); refine box_event ?hg (N := 2) ?hd (cs := #[.int .u8 a0_0, .int .u32 a0_1, .string a0_2, .int .u32 a0_3]) (t := 37) ?hr ?_; (case hd => rfl); (case hg => rfl); (case hr => first | (go_simp; done) | (go_simp; rfl)); intro gb336 hg w8 hbox hb; have n0_ := Aside0.mk (below_step (by repeat (first | (with_reducible first | exact HB.out | apply below_alloc | apply pw_below_drewN | apply below_drew1) | exact HB.out)) hb); have n1_ := Aside0.mk (hbox); have n2_ := Aside0.mk ((by rw [hg]; exact (below_size (by repeat (first | (with_reducible first | exact HB.out | apply below_alloc | apply pw_below_drewN | apply below_drew1) | exact HB.out))) : w.heap.size ≤ gb336)); have n3_ := Aside0.mk ((by rw [hg]; exact (below_size (by repeat (first | (with_reducible first | exact HB.out | apply below_alloc | apply pw_below_drewN | apply below_drew1) | exact HB.out))) : w.heap.size ≤ gb336)); clear HB; have HB := n0_; have BK336 := n1_; have GW336 := n2_; have GE336 := n3_; clear n0_ n1_ n2_ n3_; clear hb hbox hg) | ((with_reducible refine gate_dst (N := 3) rfl ?_); refine box_event ?hg (N := 3) ?hd (cs := #[.int .u8 a1_0, .int .u32 a1_1, .string a1_2, .int .u32 a1_3]) (t := 37) ?hr ?_; (case hd => rfl); (case hg => rfl); (case hr => first | (go_simp; done) | (go_simp; rfl)); intro gb337 hg w9 hbox hb; have n0_ := Aside0.mk (blk_below (g := gb336) (o := .cells #[.int .u8 a0_0, .int .u32 a0_1, .string a0_2, .int .u32 a0_3] 37 (0, 0)) (by (with_reducible repeat (first | refine blk_drewN ?_ _ | refine blk_drew ?_ | refine blk_alloc ?_ _)); exact BK336.out) hb); have n1_ := Aside0.mk (below_step (by repeat (first | (with_reducible first | exact HB.out | apply below_alloc | apply pw_below_drewN | apply below_drew1 | refine below_set ?_ GE336.out) | exact HB.out)) hb); have n2_ := Aside0.mk (hbox); have n3_ := Aside0.mk ((by rw [hg]; exact (below_size (by repeat (first | (with_reducible first | exact HB.out | apply below_alloc | apply pw_below_drewN | apply below_drew1 | refine below_set ?_ GE336.out) | exact HB.out))) : w.heap.size ≤ gb337)); have n4_ := Aside0.mk ((by rw [hg]; exact (below_size (by repeat (first | (with_reducible first | exact HB.out | apply below_alloc | apply pw_below_drewN | apply below_drew1 | refine below_set ?_ GE336.out) | exact HB.out))) : w.heap.size ≤ gb337)); have n5_ := Aside0.mk ((by rw [hg]; exact Nat.ne_of_lt (blk_lt (g := gb336) (o := .cells #[.int .u8 a0_0, .int .u32 a0_1, .string a0_2, .int .u32 a0_3] 37 (0, 0)) (by (with_reducible repeat (first | refine blk_drewN ?_ _ | refine blk_drew ?_ | refine blk_alloc ?_ _)); exact BK336.out)) : gb336 ≠ gb337)); have n6_ := Aside0.mk ((by rw [hg]; exact Nat.ne_of_gt (blk_lt (g := gb336) (o := .cells #[.int .u8 a0_0, .int .u32 a0_1, .string a0_2, .int .u32 a0_3] 37 (0, 0)) (by (with_reducible repeat (first | refine blk_drewN ?_ _ | refine blk_drew ?_ | refine blk_alloc ?_ _)); exact BK336.out)) : gb337 ≠ gb336)); clear BK336; clear HB; have BK336 := n0_; have HB := n1_; have BK337 := n2_; have GW337 := n3_; have GE337 := n4_; have NB336_337 := n5_; have NB337_336 := n6_; clear n0_ n1_ n2_ n3_ n4_ n5_ n6_; clear hb hbox hg) | (go_at_call 12; (with_reducible refine (cambiumlaw12_lives.calls k  true _ A3.out).mono ?_); rintro e w10 ⟨rfl, hb⟩; have n0_ := Aside0.mk (blk_below (g := gb336) (o := .cells #[.int .u8 a0_0, .int .u32 a0_1, .string a0_2, .int .u32 a0_3] 37 (0, 0)) (by (with_reducible repeat (first | refine blk_drewN ?_ _ | refine blk_drew ?_ | refine blk_alloc ?_ _)); exact BK336.out) hb); have n1_ := Aside0.mk (blk_below (g := gb337) (o := .cells #[.int .u8 a1_0, .int .u32 a1_1, .string a1_2, .int .u32 a1_3] 37 (0, 0)) (by (with_reducible repeat (first | refine blk_drewN ?_ _ | refine blk_drew ?_ | refine blk_alloc ?_ _)); exact BK337.out) hb); have n2_ := Aside0.mk (below_step (by repeat (first | (with_reducible first | exact HB.out | apply below_alloc | apply pw_below_drewN | apply below_drew1 | refine below_set ?_ GE336.out | refine below_set ?_ GE337.out) | exact HB.out)) hb); clear BK336; clear BK337; clear HB; have BK336 := n0_; have BK337 := n1_; have HB := n2_; clear n0_ n1_ n2_; (try clear hb); (try clear hb2); (try clear hk); (try clear hi); have hnb11 := NB336_337.out; have hnc11 := NB337_336.out; have hcz12_0 : w10.cell? ⟨gb336, 0, none⟩ = some (.int .u8 a0_0) := (blk_cell BK336.out 0).trans rfl; have hcz12_1 : w10.cell? ⟨gb336, 1, none⟩ = some (.int .u32 a0_1) := (blk_cell BK336.out 1).trans rfl; have hcz12_2 : w10.cell? ⟨gb336, 2, none⟩ = some (.string a0_2) := (blk_cell BK336.out 2).trans rfl; have hcz12_3 : w10.cell? ⟨gb336, 3, none⟩ = some (.int .u32 a0_3) := (blk_cell BK336.out 3).trans rfl; have hfz12_0 := blk_frozen BK336.out 0; have hfz12_1 := blk_frozen BK336.out 1; have hfz12_2 := blk_frozen BK336.out 2; have hfz12_3 := blk_frozen BK336.out 3) | (go_at_call 15; (with_reducible refine (inode_Key.calls k a0_0 a0_1 a0_2 a0_3 t339 t340 _ A5.out).mono ?_); rintro e w13 ⟨rfl, hb⟩; have n0_ := Aside0.mk (blk_below (g := gb336) (o := .cells #[.int .u8 a0_0, .int .u32 a0_1, .string a0_2, .int .u32 a0_3] 37 (0, 0)) (by (with_reducible repeat (first | refine blk_drewN ?_ _ | refine blk_drew ?_ | refine blk_alloc ?_ _)); exact BK336.out) hb); have n1_ := Aside0.mk (blk_below (g := gb337) (o := .cells #[.int .u8 a1_0, .int .u32 a1_1, .string a1_2, .int .u32 a1_3] 37 (0, 0)) (by (with_reducible repeat (first | refine blk_drewN ?_ _ | refine blk_drew ?_ | refine blk_alloc ?_ _)); exact BK337.out) hb); have n2_ := Aside0.mk (below_step (by repeat (first | (with_reducible first | exact HB.out | apply below_alloc | apply pw_below_drewN | apply below_drew1 | refine below_set ?_ GE336.out | refine below_set ?_ GE337.out) | exact HB.out)) hb); clear BK336; clear BK337; clear HB; have BK336 := n0_; have BK337 := n1_; have HB := n2_; clear n0_ n1_ n2_; (try clear hb); (try clear hb2); (try clear hk); (try clear hi); have hcz14_0 : w13.cell? ⟨gb337, 0, none⟩ = some (.int .u8 a1_0) := (blk_cell BK337.out 0).trans rfl; have hcz14_1 : w13.cell? ⟨gb337, 1, none⟩ = some (.int .u32 a1_1) := (blk_cell BK337.out 1).trans rfl; have hcz14_2 : w13.cell? ⟨gb337, 2, none⟩ = some (.string a1_2) := (blk_cell BK337.out 2).trans rfl; have hcz14_3 : w13.cell? ⟨gb337, 3, none⟩ = some (.int .u32 a1_3) := (blk_cell BK337.out 3).trans rfl; have hfz14_0 := blk_frozen BK337.out 0; have hfz14_1 := blk_frozen BK337.out 1; have hfz14_2 := blk_frozen BK337.out 2; have hfz14_3 := blk_frozen BK337.out 3) | (go_at_call 15; (with_reducible refine (inode_Key.calls k a1_0 a1_1 a1_2 a1_3 t341 t342 _ A6.out).mono ?_); rintro e w15 ⟨rfl, hb⟩; have n0_ := Aside0.mk (blk_below (g := gb336) (o := .cells #[.int .u8 a0_0, .int .u32 a0_1, .string a0_2, .int .u32 a0_3] 37 (0, 0)) (by (with_reducible repeat (first | refine blk_drewN ?_ _ | refine blk_drew ?_ | refine blk_alloc ?_ _)); exact BK336.out) hb); have n1_ := Aside0.mk (blk_below (g := gb337) (o := .cells #[.int .u8 a1_0, .int .u32 a1_1, .string a1_2, .int .u32 a1_3] 37 (0, 0)) (by (with_reducible repeat (first | refine blk_drewN ?_ _ | refine blk_drew ?_ | refine blk_alloc ?_ _)); exact BK337.out) hb); have n2_ := Aside0.mk (below_step (by repeat (first | (with_reducible first | exact HB.out | apply below_alloc | apply pw_below_drewN | apply below_drew1 | refine below_set ?_ GE336.out | refine below_set ?_ GE337.out) | exact HB.out)) hb); clear BK336; clear BK337; clear HB; have BK336 := n0_; have BK337 := n1_; have HB := n2_; clear n0_ n1_ n2_; (try clear hb); (try clear hb2); (try clear hk); (try clear hi)))
    repeat (go_quiet (first | ((with_reducible refine gate_dst (N := 2) rfl ?_); refine box_event ?hg (N := 2) ?hd (cs := #[.int .u8 a0_0, .int .u32 a0_1, .string a0_2, .int .u32 a0_3]) (t := 37) ?hr ?_; (case hd => rfl); (case hg => rfl); (case hr => first | (go_simp; done) | (go_simp; rfl)); intro gb336 hg w8 hbox hb; have n0_ := Aside0.mk (below_step (by repeat (first | (with_reducible first | exact HB.out | apply below_alloc | apply pw_below_drewN | apply below_drew1) | exact HB.out)) hb); have n1_ := Aside0.mk (hbox); have n2_ := Aside0.mk ((by rw [hg]; exact (below_size (by repeat (first | (with_reducible first | exact HB.out | apply below_alloc | apply pw_below_drewN | apply below_drew1) | exact HB.out))) : w.heap.size ≤ gb336)); have n3_ := Aside0.mk ((by rw [hg]; exact (below_size (by repeat (first | (with_reducible first | exact HB.out | apply below_alloc | apply pw_below_drewN | apply below_drew1) | exact HB.out))) : w.heap.size ≤ gb336)); clear HB; have HB := n0_; have BK336 := n1_; have GW336 := n2_; have GE336 := n3_; clear n0_ n1_ n2_ n3_; clear hb hbox hg) | ((with_reducible refine gate_dst (N := 3) rfl ?_); refine box_event ?hg (N := 3) ?hd (cs := #[.int .u8 a1_0, .int .u32 a1_1, .string a1_2, .int .u32 a1_3]) (t := 37) ?hr ?_; (case hd => rfl); (case hg => rfl); (case hr => first | (go_simp; done) | (go_simp; rfl)); intro gb337 hg w9 hbox hb; have n0_ := Aside0.mk (blk_below (g := gb336) (o := .cells #[.int .u8 a0_0, .int .u32 a0_1, .string a0_2, .int .u32 a0_3] 37 (0, 0)) (by (with_reducible repeat (first | refine blk_drewN ?_ _ | refine blk_drew ?_ | refine blk_alloc ?_ _)); exact BK336.out) hb); have n1_ := Aside0.mk (below_step (by repeat (first | (with_reducible first | exact HB.out | apply below_alloc | apply pw_below_drewN | apply below_drew1 | refine below_set ?_ GE336.out) | exact HB.out)) hb); have n2_ := Aside0.mk (hbox); have n3_ := Aside0.mk ((by rw [hg]; exact (below_size (by repeat (first | (with_reducible first | exact HB.out | apply below_alloc | apply pw_below_drewN | apply below_drew1 | refine below_set ?_ GE336.out) | exact HB.out))) : w.heap.size ≤ gb337)); have n4_ := Aside0.mk ((by rw [hg]; exact (below_size (by repeat (first | (with_reducible first | exact HB.out | apply below_alloc | apply pw_below_drewN | apply below_drew1 | refine below_set ?_ GE336.out) | exact HB.out))) : w.heap.size ≤ gb337)); have n5_ := Aside0.mk ((by rw [hg]; exact Nat.ne_of_lt (blk_lt (g := gb336) (o := .cells #[.int .u8 a0_0, .int .u32 a0_1, .string a0_2, .int .u32 a0_3] 37 (0, 0)) (by (with_reducible repeat (first | refine blk_drewN ?_ _ | refine blk_drew ?_ | refine blk_alloc ?_ _)); exact BK336.out)) : gb336 ≠ gb337)); have n6_ := Aside0.mk ((by rw [hg]; exact Nat.ne_of_gt (blk_lt (g := gb336) (o := .cells #[.int .u8 a0_0, .int .u32 a0_1, .string a0_2, .int .u32 a0_3] 37 (0, 0)) (by (with_reducible repeat (first | refine blk_drewN ?_ _ | refine blk_drew ?_ | refine blk_alloc ?_ _)); exact BK336.out)) : gb337 ≠ gb336)); clear BK336; clear HB; have BK336 := n0_; have HB := n1_; have BK337 := n2_; have GW337 := n3_; have GE337 := n4_; have NB336_337 := n5_; have NB337_336 := n6_; clear n0_ n1_ n2_ n3_ n4_ n5_ n6_; clear hb hbox hg) | (go_at_call 12; (with_reducible refine (cambiumlaw12_lives.calls k  true _ A3.out).mono ?_); rintro e w10 ⟨rfl, hb⟩; have n0_ := Aside0.mk (blk_below (g := gb336) (o := .cells #[.int .u8 a0_0, .int .u32 a0_1, .string a0_2, .int .u32 a0_3] 37 (0, 0)) (by (with_reducible repeat (first | refine blk_drewN ?_ _ | refine blk_drew ?_ | refine blk_alloc ?_ _)); exact BK336.out) hb); have n1_ := Aside0.mk (blk_below (g := gb337) (o := .cells #[.int .u8 a1_0, .int .u32 a1_1, .string a1_2, .int .u32 a1_3] 37 (0, 0)) (by (with_reducible repeat (first | refine blk_drewN ?_ _ | refine blk_drew ?_ | refine blk_alloc ?_ _)); exact BK337.out) hb); have n2_ := Aside0.mk (below_step (by repeat (first | (with_reducible first | exact HB.out | apply below_alloc | apply pw_below_drewN | apply below_drew1 | refine below_set ?_ GE336.out | refine below_set ?_ GE337.out) | exact HB.out)) hb); clear BK336; clear BK337; clear HB; have BK336 := n0_; have BK337 := n1_; have HB := n2_; clear n0_ n1_ n2_; (try clear hb); (try clear hb2); (try clear hk); (try clear hi); have hnb11 := NB336_337.out; have hnc11 := NB337_336.out; have hcz12_0 : w10.cell? ⟨gb336, 0, none⟩ = some (.int .u8 a0_0) := (blk_cell BK336.out 0).trans rfl; have hcz12_1 : w10.cell? ⟨gb336, 1, none⟩ = some (.int .u32 a0_1) := (blk_cell BK336.out 1).trans rfl; have hcz12_2 : w10.cell? ⟨gb336, 2, none⟩ = some (.string a0_2) := (blk_cell BK336.out 2).trans rfl; have hcz12_3 : w10.cell? ⟨gb336, 3, none⟩ = some (.int .u32 a0_3) := (blk_cell BK336.out 3).trans rfl; have hfz12_0 := blk_frozen BK336.out 0; have hfz12_1 := blk_frozen BK336.out 1; have hfz12_2 := blk_frozen BK336.out 2; have hfz12_3 := blk_frozen BK336.out 3) | (go_at_call 15; (with_reducible refine (inode_Key.calls k a0_0 a0_1 a0_2 a0_3 t339 t340 _ A5.out).mono ?_); rintro e w13 ⟨rfl, hb⟩; have n0_ := Aside0.mk (blk_below (g := gb336) (o := .cells #[.int .u8 a0_0, .int .u32 a0_1, .string a0_2, .int .u32 a0_3] 37 (0, 0)) (by (with_reducible repeat (first | refine blk_drewN ?_ _ | refine blk_drew ?_ | refine blk_alloc ?_ _)); exact BK336.out) hb); have n1_ := Aside0.mk (blk_below (g := gb337) (o := .cells #[.int .u8 a1_0, .int .u32 a1_1, .string a1_2, .int .u32 a1_3] 37 (0, 0)) (by (with_reducible repeat (first | refine blk_drewN ?_ _ | refine blk_drew ?_ | refine blk_alloc ?_ _)); exact BK337.out) hb); have n2_ := Aside0.mk (below_step (by repeat (first | (with_reducible first | exact HB.out | apply below_alloc | apply pw_below_drewN | apply below_drew1 | refine below_set ?_ GE336.out | refine below_set ?_ GE337.out) | exact HB.out)) hb); clear BK336; clear BK337; clear HB; have BK336 := n0_; have BK337 := n1_; have HB := n2_; clear n0_ n1_ n2_; (try clear hb); (try clear hb2); (try clear hk); (try clear hi); have hcz14_0 : w13.cell? ⟨gb337, 0, none⟩ = some (.int .u8 a1_0) := (blk_cell BK337.out 0).trans rfl; have hcz14_1 : w13.cell? ⟨gb337, 1, none⟩ = some (.int .u32 a1_1) := (blk_cell BK337.out 1).trans rfl; have hcz14_2 : w13.cell? ⟨gb337, 2, none⟩ = some (.string a1_2) := (blk_cell BK337.out 2).trans rfl; have hcz14_3 : w13.cell? ⟨gb337, 3, none⟩ = some (.int .u32 a1_3) := (blk_cell BK337.out 3).trans rfl; have hfz14_0 := blk_frozen BK337.out 0; have hfz14_1 := blk_frozen BK337.out 1; have hfz14_2 := blk_frozen BK337.out 2; have hfz14_3 := blk_frozen BK337.out 3) | (go_at_call 15; (with_reducible refine (inode_Key.calls k a1_0 a1_1 a1_2 a1_3 t341 t342 _ A6.out).mono ?_); rintro e w15 ⟨rfl, hb⟩; have n0_ := Aside0.mk (blk_below (g := gb336) (o := .cells #[.int .u8 a0_0, .int .u32 a0_1, .string a0_2, .int .u32 a0_3] 37 (0, 0)) (by (with_reducible repeat (first | refine blk_drewN ?_ _ | refine blk_drew ?_ | refine blk_alloc ?_ _)); exact BK336.out) hb); have n1_ := Aside0.mk (blk_below (g := gb337) (o := .cells #[.int .u8 a1_0, .int .u32 a1_1, .string a1_2, .int .u32 a1_3] 37 (0, 0)) (by (with_reducible repeat (first | refine blk_drewN ?_ _ | refine blk_drew ?_ | refine blk_alloc ?_ _)); exact BK337.out) hb); have n2_ := Aside0.mk (below_step (by repeat (first | (with_reducible first | exact HB.out | apply below_alloc | apply pw_below_drewN | apply below_drew1 | refine below_set ?_ GE336.out | refine below_set ?_ GE337.out) | exact HB.out)) hb); clear BK336; clear BK337; clear HB; have BK336 := n0_; have BK337 := n1_; have HB := n2_; clear n0_ n1_ n2_; (try clear hb); (try clear hb2); (try clear hk); (try clear hi))); go_upto_region 5 with (first | ((with_reducible refine gate_dst (N := 2) rfl ?_); refine box_event ?hg (N := 2) ?hd (cs := #[.int .u8 a0_0, .int .u32 a0_1, .string a0_2, .int .u32 a0_3]) (t := 37) ?hr ?_; (case hd => rfl); (case hg => rfl); (case hr => first | (go_simp; done) | (go_simp; rfl)); intro gb336 hg w8 hbox hb; have n0_ := Aside0.mk (below_step (by repeat (first | (with_reducible first | exact HB.out | apply below_alloc | apply pw_below_drewN | apply below_drew1) | exact HB.out)) hb); have n1_ := Aside0.mk (hbox); have n2_ := Aside0.mk ((by rw [hg]; exact (below_size (by repeat (first | (with_reducible first | exact HB.out | apply below_alloc | apply pw_below_drewN | apply below_drew1) | exact HB.out))) : w.heap.size ≤ gb336)); have n3_ := Aside0.mk ((by rw [hg]; exact (below_size (by repeat (first | (with_reducible first | exact HB.out | apply below_alloc | apply pw_below_drewN | apply below_drew1) | exact HB.out))) : w.heap.size ≤ gb336)); clear HB; have HB := n0_; have BK336 := n1_; have GW336 := n2_; have GE336 := n3_; clear n0_ n1_ n2_ n3_; clear hb hbox hg) | ((with_reducible refine gate_dst (N := 3) rfl ?_); refine box_event ?hg (N := 3) ?hd (cs := #[.int .u8 a1_0, .int .u32 a1_1, .string a1_2, .int .u32 a1_3]) (t := 37) ?hr ?_; (case hd => rfl); (case hg => rfl); (case hr => first | (go_simp; done) | (go_simp; rfl)); intro gb337 hg w9 hbox hb; have n0_ := Aside0.mk (blk_below (g := gb336) (o := .cells #[.int .u8 a0_0, .int .u32 a0_1, .string a0_2, .int .u32 a0_3] 37 (0, 0)) (by (with_reducible repeat (first | refine blk_drewN ?_ _ | refine blk_drew ?_ | refine blk_alloc ?_ _)); exact BK336.out) hb); have n1_ := Aside0.mk (below_step (by repeat (first | (with_reducible first | exact HB.out | apply below_alloc | apply pw_below_drewN | apply below_drew1 | refine below_set ?_ GE336.out) | exact HB.out)) hb); have n2_ := Aside0.mk (hbox); have n3_ := Aside0.mk ((by rw [hg]; exact (below_size (by repeat (first | (with_reducible first | exact HB.out | apply below_alloc | apply pw_below_drewN | apply below_drew1 | refine below_set ?_ GE336.out) | exact HB.out))) : w.heap.size ≤ gb337)); have n4_ := Aside0.mk ((by rw [hg]; exact (below_size (by repeat (first | (with_reducible first | exact HB.out | apply below_alloc | apply pw_below_drewN | apply below_drew1 | refine below_set ?_ GE336.out) | exact HB.out))) : w.heap.size ≤ gb337)); have n5_ := Aside0.mk ((by rw [hg]; exact Nat.ne_of_lt (blk_lt (g := gb336) (o := .cells #[.int .u8 a0_0, .int .u32 a0_1, .string a0_2, .int .u32 a0_3] 37 (0, 0)) (by (with_reducible repeat (first | refine blk_drewN ?_ _ | refine blk_drew ?_ | refine blk_alloc ?_ _)); exact BK336.out)) : gb336 ≠ gb337)); have n6_ := Aside0.mk ((by rw [hg]; exact Nat.ne_of_gt (blk_lt (g := gb336) (o := .cells #[.int .u8 a0_0, .int .u32 a0_1, .string a0_2, .int .u32 a0_3] 37 (0, 0)) (by (with_reducible repeat (first | refine blk_drewN ?_ _ | refine blk_drew ?_ | refine blk_alloc ?_ _)); exact BK336.out)) : gb337 ≠ gb336)); clear BK336; clear HB; have BK336 := n0_; have HB := n1_; have BK337 := n2_; have GW337 := n3_; have GE337 := n4_; have NB336_337 := n5_; have NB337_336 := n6_; clear n0_ n1_ n2_ n3_ n4_ n5_ n6_; clear hb hbox hg) | (go_at_call 12; (with_reducible refine (cambiumlaw12_lives.calls k  true _ A3.out).mono ?_); rintro e w10 ⟨rfl, hb⟩; have n0_ := Aside0.mk (blk_below (g := gb336) (o := .cells #[.int .u8 a0_0, .int .u32 a0_1, .string a0_2, .int .u32 a0_3] 37 (0, 0)) (by (with_reducible repeat (first | refine blk_drewN ?_ _ | refine blk_drew ?_ | refine blk_alloc ?_ _)); exact BK336.out) hb); have n1_ := Aside0.mk (blk_below (g := gb337) (o := .cells #[.int .u8 a1_0, .int .u32 a1_1, .string a1_2, .int .u32 a1_3] 37 (0, 0)) (by (with_reducible repeat (first | refine blk_drewN ?_ _ | refine blk_drew ?_ | refine blk_alloc ?_ _)); exact BK337.out) hb); have n2_ := Aside0.mk (below_step (by repeat (first | (with_reducible first | exact HB.out | apply below_alloc | apply pw_below_drewN | apply below_drew1 | refine below_set ?_ GE336.out | refine below_set ?_ GE337.out) | exact HB.out)) hb); clear BK336; clear BK337; clear HB; have BK336 := n0_; have BK337 := n1_; have HB := n2_; clear n0_ n1_ n2_; (try clear hb); (try clear hb2); (try clear hk); (try clear hi); have hnb11 := NB336_337.out; have hnc11 := NB337_336.out; have hcz12_0 : w10.cell? ⟨gb336, 0, none⟩ = some (.int .u8 a0_0) := (blk_cell BK336.out 0).trans rfl; have hcz12_1 : w10.cell? ⟨gb336, 1, none⟩ = some (.int .u32 a0_1) := (blk_cell BK336.out 1).trans rfl; have hcz12_2 : w10.cell? ⟨gb336, 2, none⟩ = some (.string a0_2) := (blk_cell BK336.out 2).trans rfl; have hcz12_3 : w10.cell? ⟨gb336, 3, none⟩ = some (.int .u32 a0_3) := (blk_cell BK336.out 3).trans rfl; have hfz12_0 := blk_frozen BK336.out 0; have hfz12_1 := blk_frozen BK336.out 1; have hfz12_2 := blk_frozen BK336.out 2; have hfz12_3 := blk_frozen BK336.out 3) | (go_at_call 15; (with_reducible refine (inode_Key.calls k a0_0 a0_1 a0_2 a0_3 t339 t340 _ A5.out).mono ?_); rintro e w13 ⟨rfl, hb⟩; have n0_ := Aside0.mk (blk_below (g := gb336) (o := .cells #[.int .u8 a0_0, .int .u32 a0_1, .string a0_2, .int .u32 a0_3] 37 (0, 0)) (by (with_reducible repeat (first | refine blk_drewN ?_ _ | refine blk_drew ?_ | refine blk_alloc ?_ _)); exact BK336.out) hb); have n1_ := Aside0.mk (blk_below (g := gb337) (o := .cells #[.int .u8 a1_0, .int .u32 a1_1, .string a1_2, .int .u32 a1_3] 37 (0, 0)) (by (with_reducible repeat (first | refine blk_drewN ?_ _ | refine blk_drew ?_ | refine blk_alloc ?_ _)); exact BK337.out) hb); have n2_ := Aside0.mk (below_step (by repeat (first | (with_reducible first | exact HB.out | apply below_alloc | apply pw_below_drewN | apply below_drew1 | refine below_set ?_ GE336.out | refine below_set ?_ GE337.out) | exact HB.out)) hb); clear BK336; clear BK337; clear HB; have BK336 := n0_; have BK337 := n1_; have HB := n2_; clear n0_ n1_ n2_; (try clear hb); (try clear hb2); (try clear hk); (try clear hi); have hcz14_0 : w13.cell? ⟨gb337, 0, none⟩ = some (.int .u8 a1_0) := (blk_cell BK337.out 0).trans rfl; have hcz14_1 : w13.cell? ⟨gb337, 1, none⟩ = some (.int .u32 a1_1) := (blk_cell BK337.out 1).trans rfl; have hcz14_2 : w13.cell? ⟨gb337, 2, none⟩ = some (.string a1_2) := (blk_cell BK337.out 2).trans rfl; have hcz14_3 : w13.cell? ⟨gb337, 3, none⟩ = some (.int .u32 a1_3) := (blk_cell BK337.out 3).trans rfl; have hfz14_0 := blk_frozen BK337.out 0; have hfz14_1 := blk_frozen BK337.out 1; have hfz14_2 := blk_frozen BK337.out 2; have hfz14_3 := blk_frozen BK337.out 3) | (go_at_call 15; (with_reducible refine (inode_Key.calls k a1_0 a1_1 a1_2 a1_3 t341 t342 _ A6.out).mono ?_); rintro e w15 ⟨rfl, hb⟩; have n0_ := Aside0.mk (blk_below (g := gb336) (o := .cells #[.int .u8 a0_0, .int .u32 a0_1, .string a0_2, .int .u32 a0_3] 37 (0, 0)) (by (with_reducible repeat (first | refine blk_drewN ?_ _ | refine blk_drew ?_ | refine blk_alloc ?_ _)); exact BK336.out) hb); have n1_ := Aside0.mk (blk_below (g := gb337) (o := .cells #[.int .u8 a1_0, .int .u32 a1_1, .string a1_2, .int .u32 a1_3] 37 (0, 0)) (by (with_reducible repeat (first | refine blk_drewN ?_ _ | refine blk_drew ?_ | refine blk_alloc ?_ _)); exact BK337.out) hb); have n2_ := Aside0.mk (below_step (by repeat (first | (with_reducible first | exact HB.out | apply below_alloc | apply pw_below_drewN | apply below_drew1 | refine below_set ?_ GE336.out | refine below_set ?_ GE337.out) | exact HB.out)) hb); clear BK336; clear BK337; clear HB; have BK336 := n0_; have BK337 := n1_; have HB := n2_; clear n0_ n1_ n2_; (try clear hb); (try clear hb2); (try clear hk); (try clear hi))))
    (try simp only [Act.put, List.setIfInBounds_toArray, List.set_cons_zero, List.set_cons_succ])
    go_cut [27] (fun v27 wc => ∃ (kq : Nat) (x27_6 : Bool), v27 = .bool x27_6 ∧ Aside0 (cambiumlaw12_InodePrefixes.j0 kq t339 t341 x27_6 a0_0 a0_1 a0_2 a0_3 a1_0 a1_1 a1_2 a1_3 = some r) ∧ Aside0 (kq ≤ k) ∧ Aside0 (wc.heap[gb336]? = some (.cells #[.int .u8 a0_0, .int .u32 a0_1, .string a0_2, .int .u32 a0_3] 37 (0, 0))) ∧ Aside0 (wc.heap[gb337]? = some (.cells #[.int .u8 a1_0, .int .u32 a1_1, .string a1_2, .int .u32 a1_3] 37 (0, 0))) ∧ Aside0 (Below w.heap.size w wc))
    case first =>
      have H := HC7.out
      clear HC7
      by_cases c16 : t340 = 0
      · rw [if_pos c16] at H
        have c16b0 : (t340 == 0) = true := beq_iff_eq.mpr c16
        have c16b1 : (t340 != 0) = false := bne_eq_false_iff_eq.mpr c16
        clear c16
        (first | rw [c16b0] | (simp only [i64_w, i32_w]; rw [c16b0]) | skip)
        have H' := Aside0.mk H
        clear H
        go_wp2
        repeat (go_quiet (fail); try go_wp2)
        go_meet
        case rel => exact ⟨_, ((t342 != 0)), (by first | rfl | (simp; done) | (simp [*]; done)), H', ⟨by first | omega | exact Nat.le_refl _⟩, ⟨by (with_reducible repeat (first | refine blk_drewN ?_ _ | refine blk_drew ?_ | refine blk_alloc ?_ _)); exact BK336.out⟩, ⟨by (with_reducible repeat (first | refine blk_drewN ?_ _ | refine blk_drew ?_ | refine blk_alloc ?_ _)); exact BK337.out⟩, ⟨by repeat (first | (with_reducible first | exact HB.out | apply below_alloc | apply pw_below_drewN | apply below_drew1 | refine below_set ?_ GE336.out | refine below_set ?_ GE337.out) | exact HB.out)⟩⟩
      · rw [if_neg c16] at H
        have c16b0 : (t340 == 0) = false := beq_eq_false_iff_ne.mpr c16
        have c16b1 : (t340 != 0) = true := bne_iff_ne.mpr c16
        (first | rw [c16b0] | (simp only [i64_w, i32_w]; rw [c16b0]) | skip)
        have H' := Aside0.mk H
        clear H
        go_wp2
        repeat (go_quiet (fail); try go_wp2)
        go_meet
        case rel => exact ⟨_, (true), (by first | rfl | (simp; done) | (simp [*]; done)), H', ⟨by first | omega | exact Nat.le_refl _⟩, ⟨by (with_reducible repeat (first | refine blk_drewN ?_ _ | refine blk_drew ?_ | refine blk_alloc ?_ _)); exact BK336.out⟩, ⟨by (with_reducible repeat (first | refine blk_drewN ?_ _ | refine blk_drew ?_ | refine blk_alloc ?_ _)); exact BK337.out⟩, ⟨by repeat (first | (with_reducible first | exact HB.out | apply below_alloc | apply pw_below_drewN | apply below_drew1 | refine below_set ?_ GE336.out | refine below_set ?_ GE337.out) | exact HB.out)⟩⟩
    case rest =>
      clear HC7
      try clear c1
      try clear p2
      try clear c4
      try clear c6
      try clear c11
      try clear c16
      try clear c16b0
      try clear c16b1
      try clear hcz12_0
      try clear hcz12_1
      try clear hcz12_2
      try clear hcz12_3
      try clear hcz14_0
      try clear hcz14_1
      try clear hcz14_2
      try clear hcz14_3
      try clear hfz12_0
      try clear hfz12_1
      try clear hfz12_2
      try clear hfz12_3
      try clear hfz14_0
      try clear hfz14_1
      try clear hfz14_2
      try clear hfz14_3
      obtain ⟨kq, x27_6, rfl, HA, HJ6, BK336, BK337, HB⟩ := hcut
      cases kq with
      | zero => exact absurd HA.out (by simp [cambiumlaw12_InodePrefixes.j0])
      | succ kj6 =>
        have H := HA.out
        clear HA
        simp only [cambiumlaw12_InodePrefixes.j0] at H
        by_cases c17 : x27_6 = true
        · subst c17
          have H1 : (some true) = some r := by rw [if_pos rfl] at H; exact H
          clear H
          have H := H1
          clear H1
          obtain rfl := Option.some.inj H
          (try (have hq_ := beq_iff_eq.1 HT_.out))
          go_wp2
          repeat (go_quiet (fail); try go_wp2)
          go_ret
          exact ⟨by first | rfl | (simp [errW_none, errW_some] <;> rfl) | (simp [*, errW_none, errW_some] <;> rfl), by repeat (first | (with_reducible first | exact HB.out | apply below_alloc | apply pw_below_drewN | apply below_drew1 | refine below_set ?_ GE336.out | refine below_set ?_ GE337.out) | exact HB.out)⟩
        · replace c17 := Bool.eq_false_iff.mpr c17
          subst c17
          have H1 : (if a0_0 = a1_0 then (if 5 ≤ (t339.size : Int) then (if 5 ≤ (t341.size : Int) then (if (((t339.extract 0 5).toList == (t341.extract 0 5).toList) != (a0_1 == a1_1)) = true then (some false) else (if ((t339.toList == t341.toList) != (a0_0 == a1_0 && (a0_1 == a1_1 && (a0_2.toList == a1_2.toList && (a0_3 == a1_3))))) = true then (some false) else (if a0_1 = a1_1 then (if a0_0 = 3 then (some ((Op.bytesLess t339.toList t341.toList) == (decide (a0_3 < a1_3)))) else (some true)) else (some true)))) else (none)) else (none)) else (if 5 ≤ (t339.size : Int) then (if 5 ≤ (t341.size : Int) then (if (((t339.extract 0 5).toList == (t341.extract 0 5).toList) != false) = true then (some false) else (if ((t339.toList == t341.toList) != (a0_0 == a1_0 && (a0_1 == a1_1 && (a0_2.toList == a1_2.toList && (a0_3 == a1_3))))) = true then (some false) else (some true))) else (none)) else (none))) = some r := by rw [if_neg (show ¬ (false = true) by decide)] at H; exact H
          clear H
          have H := H1
          clear H1
          by_cases c18 : a0_0 = a1_0
          · rw [if_pos c18] at H
            have c18b0 : (a0_0 == a1_0) = true := beq_iff_eq.mpr c18
            have c18b1 : (a0_0 != a1_0) = false := bne_eq_false_iff_eq.mpr c18
            clear c18
            by_cases c19 : 5 ≤ (t339.size : Int)
            · rw [if_pos c19] at H
              have c19b0 := eq_true c19
              have c19b1 : decide (5 ≤ (t339.size : Int)) = true := decide_eq_true c19
              clear c19
              by_cases c20 : 5 ≤ (t341.size : Int)
              · rw [if_pos c20] at H
                have c20b0 := eq_true c20
                have c20b1 : decide (5 ≤ (t341.size : Int)) = true := decide_eq_true c20
                clear c20
                by_cases c21 : (((t339.extract 0 5).toList == (t341.extract 0 5).toList) != (a0_1 == a1_1)) = true
                · rw [if_pos c21] at H
                  have c21b0 : (((t339.extract 0 5).toList == (t341.extract 0 5).toList) != (a0_1 == a1_1)) = true := c21
                  (try (have c21b0s1 := c21b0; simp only [c18b0, Bool.false_and, Bool.true_and, Bool.and_false, Bool.and_true, Bool.bne_false, Bool.bne_true, Bool.not_eq_true', Bool.not_eq_false'] at c21b0s1))
                  (try (have c21b0n1 := c21b0s1; simp only [show ∀ a b : Bool, (a != b) = !(a == b) from by decide, Bool.not_eq_true', Bool.not_eq_false'] at c21b0n1))
                  (try (have c21b1 : decide (((t339.extract 0 5).toList == (t341.extract 0 5).toList) = (a0_1 == a1_1)) = false := by simpa using c21))
                  (try (have c21b2 : (((t339.extract 0 5).toList == (t341.extract 0 5).toList) == (a0_1 == a1_1)) = false := by simpa using c21))
                  (try (have c21b3 : ¬ (((t339.extract 0 5).toList == (t341.extract 0 5).toList) = (a0_1 == a1_1)) := by simpa using c21))
                  clear c21
                  exact absurd ((Option.some.inj H).trans HT_.out) (by simp)
                · rw [if_neg c21] at H
                  have c21b0 : (((t339.extract 0 5).toList == (t341.extract 0 5).toList) != (a0_1 == a1_1)) = false := by simpa using c21
                  (try (have c21b0s2 := c21b0; simp only [c18b0, Bool.false_and, Bool.true_and, Bool.and_false, Bool.and_true, Bool.bne_false, Bool.bne_true, Bool.not_eq_true', Bool.not_eq_false'] at c21b0s2))
                  (try (have c21b0n2 := c21b0s2; simp only [show ∀ a b : Bool, (a != b) = !(a == b) from by decide, Bool.not_eq_true', Bool.not_eq_false'] at c21b0n2))
                  (try (have c21b1 : decide (((t339.extract 0 5).toList == (t341.extract 0 5).toList) = (a0_1 == a1_1)) = true := by simpa using c21))
                  (try (have c21b2 : (((t339.extract 0 5).toList == (t341.extract 0 5).toList) == (a0_1 == a1_1)) = true := by simpa using c21))
                  clear c21
                  by_cases c22 : ((t339.toList == t341.toList) != (a0_0 == a1_0 && (a0_1 == a1_1 && (a0_2.toList == a1_2.toList && (a0_3 == a1_3))))) = true
                  · rw [if_pos c22] at H
                    have c22b0 : ((t339.toList == t341.toList) != (a0_0 == a1_0 && (a0_1 == a1_1 && (a0_2.toList == a1_2.toList && (a0_3 == a1_3))))) = true := c22
                    (try (have c21b0s3 := c21b0; simp only [c18b0, Bool.false_and, Bool.true_and, Bool.and_false, Bool.and_true, Bool.bne_false, Bool.bne_true, Bool.not_eq_true', Bool.not_eq_false'] at c21b0s3))
                    (try (have c21b0n3 := c21b0s3; simp only [show ∀ a b : Bool, (a != b) = !(a == b) from by decide, Bool.not_eq_true', Bool.not_eq_false'] at c21b0n3))
                    (try (have c22b0s4 := c22b0; simp only [c18b0, Bool.false_and, Bool.true_and, Bool.and_false, Bool.and_true, Bool.bne_false, Bool.bne_true, Bool.not_eq_true', Bool.not_eq_false'] at c22b0s4))
                    (try (have c22b0n4 := c22b0s4; simp only [show ∀ a b : Bool, (a != b) = !(a == b) from by decide, Bool.not_eq_true', Bool.not_eq_false'] at c22b0n4))
                    (try (have c22b1 : decide ((t339.toList == t341.toList) = (a0_0 == a1_0 && (a0_1 == a1_1 && (a0_2.toList == a1_2.toList && (a0_3 == a1_3))))) = false := by simpa using c22))
                    (try (have c22b2 : ((t339.toList == t341.toList) == (a0_0 == a1_0 && (a0_1 == a1_1 && (a0_2.toList == a1_2.toList && (a0_3 == a1_3))))) = false := by simpa using c22))
                    (try (have c22b3 : ¬ ((t339.toList == t341.toList) = (a0_0 == a1_0 && (a0_1 == a1_1 && (a0_2.toList == a1_2.toList && (a0_3 == a1_3))))) := by simpa using c22))
                    clear c22
                    exact absurd ((Option.some.inj H).trans HT_.out) (by simp)
                  · rw [if_neg c22] at H
                    have c22b0 : ((t339.toList == t341.toList) != (a0_0 == a1_0 && (a0_1 == a1_1 && (a0_2.toList == a1_2.toList && (a0_3 == a1_3))))) = false := by simpa using c22
                    (try (have c21b0s5 := c21b0; simp only [c18b0, Bool.false_and, Bool.true_and, Bool.and_false, Bool.and_true, Bool.bne_false, Bool.bne_true, Bool.not_eq_true', Bool.not_eq_false'] at c21b0s5))
                    (try (have c21b0n5 := c21b0s5; simp only [show ∀ a b : Bool, (a != b) = !(a == b) from by decide, Bool.not_eq_true', Bool.not_eq_false'] at c21b0n5))
                    (try (have c22b0s6 := c22b0; simp only [c18b0, Bool.false_and, Bool.true_and, Bool.and_false, Bool.and_true, Bool.bne_false, Bool.bne_true, Bool.not_eq_true', Bool.not_eq_false'] at c22b0s6))
                    (try (have c22b0n6 := c22b0s6; simp only [show ∀ a b : Bool, (a != b) = !(a == b) from by decide, Bool.not_eq_true', Bool.not_eq_false'] at c22b0n6))
                    (try (have c22b1 : decide ((t339.toList == t341.toList) = (a0_0 == a1_0 && (a0_1 == a1_1 && (a0_2.toList == a1_2.toList && (a0_3 == a1_3))))) = true := by simpa using c22))
                    (try (have c22b2 : ((t339.toList == t341.toList) == (a0_0 == a1_0 && (a0_1 == a1_1 && (a0_2.toList == a1_2.toList && (a0_3 == a1_3))))) = true := by simpa using c22))
                    clear c22
                    by_cases c23 : a0_1 = a1_1
                    · rw [if_pos c23] at H
                      have c23b0 : (a0_1 == a1_1) = true := beq_iff_eq.mpr c23
                      (try (have c21b0s7 := c21b0; simp only [c18b0, c23b0, Bool.false_and, Bool.true_and, Bool.and_false, Bool.and_true, Bool.bne_false, Bool.bne_true, Bool.not_eq_true', Bool.not_eq_false'] at c21b0s7))
                      (try (have c21b0n7 := c21b0s7; simp only [show ∀ a b : Bool, (a != b) = !(a == b) from by decide, Bool.not_eq_true', Bool.not_eq_false'] at c21b0n7))
                      (try (have c22b0s8 := c22b0; simp only [c18b0, c23b0, Bool.false_and, Bool.true_and, Bool.and_false, Bool.and_true, Bool.bne_false, Bool.bne_true, Bool.not_eq_true', Bool.not_eq_false'] at c22b0s8))
                      (try (have c22b0n8 := c22b0s8; simp only [show ∀ a b : Bool, (a != b) = !(a == b) from by decide, Bool.not_eq_true', Bool.not_eq_false'] at c22b0n8))
                      have c23b1 : (a0_1 != a1_1) = false := bne_eq_false_iff_eq.mpr c23
                      clear c23
                      by_cases c24 : a0_0 = 3
                      · rw [if_pos c24] at H
                        have c24b0 : (a0_0 == 3) = true := beq_iff_eq.mpr c24
                        (try (have c21b0s9 := c21b0; simp only [c18b0, c23b0, c24b0, Bool.false_and, Bool.true_and, Bool.and_false, Bool.and_true, Bool.bne_false, Bool.bne_true, Bool.not_eq_true', Bool.not_eq_false'] at c21b0s9))
                        (try (have c21b0n9 := c21b0s9; simp only [show ∀ a b : Bool, (a != b) = !(a == b) from by decide, Bool.not_eq_true', Bool.not_eq_false'] at c21b0n9))
                        (try (have c22b0s10 := c22b0; simp only [c18b0, c23b0, c24b0, Bool.false_and, Bool.true_and, Bool.and_false, Bool.and_true, Bool.bne_false, Bool.bne_true, Bool.not_eq_true', Bool.not_eq_false'] at c22b0s10))
                        (try (have c22b0n10 := c22b0s10; simp only [show ∀ a b : Bool, (a != b) = !(a == b) from by decide, Bool.not_eq_true', Bool.not_eq_false'] at c22b0n10))
                        have c24b1 : (a0_0 != 3) = false := bne_eq_false_iff_eq.mpr c24
                        clear c24
                        obtain rfl := Option.some.inj H
                        (try (have hq_ := beq_iff_eq.1 HT_.out))
                        have hnb25 := NB336_337.out
                        have hnc25 := NB337_336.out
                        have hcz26_0 : wc.cell? ⟨gb336, 0, none⟩ = some (.int .u8 a0_0) := (blk_cell BK336.out 0).trans rfl
                        have hcz26_1 : wc.cell? ⟨gb336, 1, none⟩ = some (.int .u32 a0_1) := (blk_cell BK336.out 1).trans rfl
                        have hcz26_2 : wc.cell? ⟨gb336, 2, none⟩ = some (.string a0_2) := (blk_cell BK336.out 2).trans rfl
                        have hcz26_3 : wc.cell? ⟨gb336, 3, none⟩ = some (.int .u32 a0_3) := (blk_cell BK336.out 3).trans rfl
                        have hfz26_0 := blk_frozen BK336.out 0
                        have hfz26_1 := blk_frozen BK336.out 1
                        have hfz26_2 := blk_frozen BK336.out 2
                        have hfz26_3 := blk_frozen BK336.out 3
                        have hcz27_0 : wc.cell? ⟨gb337, 0, none⟩ = some (.int .u8 a1_0) := (blk_cell BK337.out 0).trans rfl
                        have hcz27_1 : wc.cell? ⟨gb337, 1, none⟩ = some (.int .u32 a1_1) := (blk_cell BK337.out 1).trans rfl
                        have hcz27_2 : wc.cell? ⟨gb337, 2, none⟩ = some (.string a1_2) := (blk_cell BK337.out 2).trans rfl
                        have hcz27_3 : wc.cell? ⟨gb337, 3, none⟩ = some (.int .u32 a1_3) := (blk_cell BK337.out 3).trans rfl
                        have hfz27_0 := blk_frozen BK337.out 0
                        have hfz27_1 := blk_frozen BK337.out 1
                        have hfz27_2 := blk_frozen BK337.out 2
                        have hfz27_3 := blk_frozen BK337.out 3
                        go_wp2
                        repeat (go_quiet (fail); try go_wp2)
                        go_ret
                        exact ⟨by first | rfl | (simp [errW_none, errW_some] <;> rfl) | (simp [*, errW_none, errW_some] <;> rfl), by repeat (first | (with_reducible first | exact HB.out | apply below_alloc | apply pw_below_drewN | apply below_drew1 | refine below_set ?_ GE336.out | refine below_set ?_ GE337.out) | exact HB.out)⟩
                      · rw [if_neg c24] at H
                        have c24b0 : (a0_0 == 3) = false := beq_eq_false_iff_ne.mpr c24
                        (try (have c21b0s11 := c21b0; simp only [c18b0, c23b0, c24b0, Bool.false_and, Bool.true_and, Bool.and_false, Bool.and_true, Bool.bne_false, Bool.bne_true, Bool.not_eq_true', Bool.not_eq_false'] at c21b0s11))
                        (try (have c21b0n11 := c21b0s11; simp only [show ∀ a b : Bool, (a != b) = !(a == b) from by decide, Bool.not_eq_true', Bool.not_eq_false'] at c21b0n11))
                        (try (have c22b0s12 := c22b0; simp only [c18b0, c23b0, c24b0, Bool.false_and, Bool.true_and, Bool.and_false, Bool.and_true, Bool.bne_false, Bool.bne_true, Bool.not_eq_true', Bool.not_eq_false'] at c22b0s12))
                        (try (have c22b0n12 := c22b0s12; simp only [show ∀ a b : Bool, (a != b) = !(a == b) from by decide, Bool.not_eq_true', Bool.not_eq_false'] at c22b0n12))
                        have c24b1 : (a0_0 != 3) = true := bne_iff_ne.mpr c24
                        obtain rfl := Option.some.inj H
                        (try (have hq_ := beq_iff_eq.1 HT_.out))
                        have hnb28 := NB336_337.out
                        have hnc28 := NB337_336.out
                        have hcz29_0 : wc.cell? ⟨gb336, 0, none⟩ = some (.int .u8 a0_0) := (blk_cell BK336.out 0).trans rfl
                        have hcz29_1 : wc.cell? ⟨gb336, 1, none⟩ = some (.int .u32 a0_1) := (blk_cell BK336.out 1).trans rfl
                        have hcz29_2 : wc.cell? ⟨gb336, 2, none⟩ = some (.string a0_2) := (blk_cell BK336.out 2).trans rfl
                        have hcz29_3 : wc.cell? ⟨gb336, 3, none⟩ = some (.int .u32 a0_3) := (blk_cell BK336.out 3).trans rfl
                        have hfz29_0 := blk_frozen BK336.out 0
                        have hfz29_1 := blk_frozen BK336.out 1
                        have hfz29_2 := blk_frozen BK336.out 2
                        have hfz29_3 := blk_frozen BK336.out 3
                        have hcz30_0 : wc.cell? ⟨gb337, 0, none⟩ = some (.int .u8 a1_0) := (blk_cell BK337.out 0).trans rfl
                        have hcz30_1 : wc.cell? ⟨gb337, 1, none⟩ = some (.int .u32 a1_1) := (blk_cell BK337.out 1).trans rfl
                        have hcz30_2 : wc.cell? ⟨gb337, 2, none⟩ = some (.string a1_2) := (blk_cell BK337.out 2).trans rfl
                        have hcz30_3 : wc.cell? ⟨gb337, 3, none⟩ = some (.int .u32 a1_3) := (blk_cell BK337.out 3).trans rfl
                        have hfz30_0 := blk_frozen BK337.out 0
                        have hfz30_1 := blk_frozen BK337.out 1
                        have hfz30_2 := blk_frozen BK337.out 2
                        have hfz30_3 := blk_frozen BK337.out 3
                        go_wp2
                        repeat (go_quiet (fail); try go_wp2)
                        go_ret
                        exact ⟨by first | rfl | (simp [errW_none, errW_some] <;> rfl) | (simp [*, errW_none, errW_some] <;> rfl), by repeat (first | (with_reducible first | exact HB.out | apply below_alloc | apply pw_below_drewN | apply below_drew1 | refine below_set ?_ GE336.out | refine below_set ?_ GE337.out) | exact HB.out)⟩
                    · rw [if_neg c23] at H
                      have c23b0 : (a0_1 == a1_1) = false := beq_eq_false_iff_ne.mpr c23
                      (try (have c21b0s13 := c21b0; simp only [c18b0, c23b0, Bool.false_and, Bool.true_and, Bool.and_false, Bool.and_true, Bool.bne_false, Bool.bne_true, Bool.not_eq_true', Bool.not_eq_false'] at c21b0s13))
                      (try (have c21b0n13 := c21b0s13; simp only [show ∀ a b : Bool, (a != b) = !(a == b) from by decide, Bool.not_eq_true', Bool.not_eq_false'] at c21b0n13))
                      (try (have c22b0s14 := c22b0; simp only [c18b0, c23b0, Bool.false_and, Bool.true_and, Bool.and_false, Bool.and_true, Bool.bne_false, Bool.bne_true, Bool.not_eq_true', Bool.not_eq_false'] at c22b0s14))
                      (try (have c22b0n14 := c22b0s14; simp only [show ∀ a b : Bool, (a != b) = !(a == b) from by decide, Bool.not_eq_true', Bool.not_eq_false'] at c22b0n14))
                      have c23b1 : (a0_1 != a1_1) = true := bne_iff_ne.mpr c23
                      obtain rfl := Option.some.inj H
                      (try (have hq_ := beq_iff_eq.1 HT_.out))
                      have hnb31 := NB336_337.out
                      have hnc31 := NB337_336.out
                      have hcz32_0 : wc.cell? ⟨gb336, 0, none⟩ = some (.int .u8 a0_0) := (blk_cell BK336.out 0).trans rfl
                      have hcz32_1 : wc.cell? ⟨gb336, 1, none⟩ = some (.int .u32 a0_1) := (blk_cell BK336.out 1).trans rfl
                      have hcz32_2 : wc.cell? ⟨gb336, 2, none⟩ = some (.string a0_2) := (blk_cell BK336.out 2).trans rfl
                      have hcz32_3 : wc.cell? ⟨gb336, 3, none⟩ = some (.int .u32 a0_3) := (blk_cell BK336.out 3).trans rfl
                      have hfz32_0 := blk_frozen BK336.out 0
                      have hfz32_1 := blk_frozen BK336.out 1
                      have hfz32_2 := blk_frozen BK336.out 2
                      have hfz32_3 := blk_frozen BK336.out 3
                      have hcz33_0 : wc.cell? ⟨gb337, 0, none⟩ = some (.int .u8 a1_0) := (blk_cell BK337.out 0).trans rfl
                      have hcz33_1 : wc.cell? ⟨gb337, 1, none⟩ = some (.int .u32 a1_1) := (blk_cell BK337.out 1).trans rfl
                      have hcz33_2 : wc.cell? ⟨gb337, 2, none⟩ = some (.string a1_2) := (blk_cell BK337.out 2).trans rfl
                      have hcz33_3 : wc.cell? ⟨gb337, 3, none⟩ = some (.int .u32 a1_3) := (blk_cell BK337.out 3).trans rfl
                      have hfz33_0 := blk_frozen BK337.out 0
                      have hfz33_1 := blk_frozen BK337.out 1
                      have hfz33_2 := blk_frozen BK337.out 2
                      have hfz33_3 := blk_frozen BK337.out 3
                      go_wp2
                      repeat (go_quiet (fail); try go_wp2)
                      go_ret
                      exact ⟨by first | rfl | (simp [errW_none, errW_some] <;> rfl) | (simp [*, errW_none, errW_some] <;> rfl), by repeat (first | (with_reducible first | exact HB.out | apply below_alloc | apply pw_below_drewN | apply below_drew1 | refine below_set ?_ GE336.out | refine below_set ?_ GE337.out) | exact HB.out)⟩
              · rw [if_neg c20] at H
                exact absurd H (by simp)
            · rw [if_neg c19] at H
              exact absurd H (by simp)
          · rw [if_neg c18] at H
            have c18b0 : (a0_0 == a1_0) = false := beq_eq_false_iff_ne.mpr c18
            have c18b1 : (a0_0 != a1_0) = true := bne_iff_ne.mpr c18
            by_cases c34 : 5 ≤ (t339.size : Int)
            · rw [if_pos c34] at H
              have c34b0 := eq_true c34
              have c34b1 : decide (5 ≤ (t339.size : Int)) = true := decide_eq_true c34
              clear c34
              by_cases c35 : 5 ≤ (t341.size : Int)
              · rw [if_pos c35] at H
                have c35b0 := eq_true c35
                have c35b1 : decide (5 ≤ (t341.size : Int)) = true := decide_eq_true c35
                clear c35
                by_cases c36 : (((t339.extract 0 5).toList == (t341.extract 0 5).toList) != false) = true
                · rw [if_pos c36] at H
                  have c36b0 : (((t339.extract 0 5).toList == (t341.extract 0 5).toList) != false) = true := c36
                  (try (have c36b1 : decide (((t339.extract 0 5).toList == (t341.extract 0 5).toList) = false) = false := by simpa using c36))
                  (try (have c36b2 : (((t339.extract 0 5).toList == (t341.extract 0 5).toList) == false) = false := by simpa using c36))
                  (try (have c36b3 : ¬ (((t339.extract 0 5).toList == (t341.extract 0 5).toList) = false) := by simpa using c36))
                  clear c36
                  exact absurd ((Option.some.inj H).trans HT_.out) (by simp)
                · rw [if_neg c36] at H
                  have c36b0 : (((t339.extract 0 5).toList == (t341.extract 0 5).toList) != false) = false := by simpa using c36
                  (try (have c36b1 : decide (((t339.extract 0 5).toList == (t341.extract 0 5).toList) = false) = true := by simpa using c36))
                  (try (have c36b2 : (((t339.extract 0 5).toList == (t341.extract 0 5).toList) == false) = true := by simpa using c36))
                  clear c36
                  by_cases c37 : ((t339.toList == t341.toList) != (a0_0 == a1_0 && (a0_1 == a1_1 && (a0_2.toList == a1_2.toList && (a0_3 == a1_3))))) = true
                  · rw [if_pos c37] at H
                    have c37b0 : ((t339.toList == t341.toList) != (a0_0 == a1_0 && (a0_1 == a1_1 && (a0_2.toList == a1_2.toList && (a0_3 == a1_3))))) = true := c37
                    (try (have c37b0s15 := c37b0; simp only [c18b0, Bool.false_and, Bool.true_and, Bool.and_false, Bool.and_true, Bool.bne_false, Bool.bne_true, Bool.not_eq_true', Bool.not_eq_false'] at c37b0s15))
                    (try (have c37b0n15 := c37b0s15; simp only [show ∀ a b : Bool, (a != b) = !(a == b) from by decide, Bool.not_eq_true', Bool.not_eq_false'] at c37b0n15))
                    (try (have c37b1 : decide ((t339.toList == t341.toList) = (a0_0 == a1_0 && (a0_1 == a1_1 && (a0_2.toList == a1_2.toList && (a0_3 == a1_3))))) = false := by simpa using c37))
                    (try (have c37b2 : ((t339.toList == t341.toList) == (a0_0 == a1_0 && (a0_1 == a1_1 && (a0_2.toList == a1_2.toList && (a0_3 == a1_3))))) = false := by simpa using c37))
                    (try (have c37b3 : ¬ ((t339.toList == t341.toList) = (a0_0 == a1_0 && (a0_1 == a1_1 && (a0_2.toList == a1_2.toList && (a0_3 == a1_3))))) := by simpa using c37))
                    clear c37
                    exact absurd ((Option.some.inj H).trans HT_.out) (by simp)
                  · rw [if_neg c37] at H
                    have c37b0 : ((t339.toList == t341.toList) != (a0_0 == a1_0 && (a0_1 == a1_1 && (a0_2.toList == a1_2.toList && (a0_3 == a1_3))))) = false := by simpa using c37
                    (try (have c37b0s16 := c37b0; simp only [c18b0, Bool.false_and, Bool.true_and, Bool.and_false, Bool.and_true, Bool.bne_false, Bool.bne_true, Bool.not_eq_true', Bool.not_eq_false'] at c37b0s16))
                    (try (have c37b0n16 := c37b0s16; simp only [show ∀ a b : Bool, (a != b) = !(a == b) from by decide, Bool.not_eq_true', Bool.not_eq_false'] at c37b0n16))
                    (try (have c37b1 : decide ((t339.toList == t341.toList) = (a0_0 == a1_0 && (a0_1 == a1_1 && (a0_2.toList == a1_2.toList && (a0_3 == a1_3))))) = true := by simpa using c37))
                    (try (have c37b2 : ((t339.toList == t341.toList) == (a0_0 == a1_0 && (a0_1 == a1_1 && (a0_2.toList == a1_2.toList && (a0_3 == a1_3))))) = true := by simpa using c37))
                    clear c37
                    obtain rfl := Option.some.inj H
                    (try (have hq_ := beq_iff_eq.1 HT_.out))
                    have hnb38 := NB336_337.out
                    have hnc38 := NB337_336.out
                    have hcz39_0 : wc.cell? ⟨gb336, 0, none⟩ = some (.int .u8 a0_0) := (blk_cell BK336.out 0).trans rfl
                    have hcz39_1 : wc.cell? ⟨gb336, 1, none⟩ = some (.int .u32 a0_1) := (blk_cell BK336.out 1).trans rfl
                    have hcz39_2 : wc.cell? ⟨gb336, 2, none⟩ = some (.string a0_2) := (blk_cell BK336.out 2).trans rfl
                    have hcz39_3 : wc.cell? ⟨gb336, 3, none⟩ = some (.int .u32 a0_3) := (blk_cell BK336.out 3).trans rfl
                    have hfz39_0 := blk_frozen BK336.out 0
                    have hfz39_1 := blk_frozen BK336.out 1
                    have hfz39_2 := blk_frozen BK336.out 2
                    have hfz39_3 := blk_frozen BK336.out 3
                    have hcz40_0 : wc.cell? ⟨gb337, 0, none⟩ = some (.int .u8 a1_0) := (blk_cell BK337.out 0).trans rfl
                    have hcz40_1 : wc.cell? ⟨gb337, 1, none⟩ = some (.int .u32 a1_1) := (blk_cell BK337.out 1).trans rfl
                    have hcz40_2 : wc.cell? ⟨gb337, 2, none⟩ = some (.string a1_2) := (blk_cell BK337.out 2).trans rfl
                    have hcz40_3 : wc.cell? ⟨gb337, 3, none⟩ = some (.int .u32 a1_3) := (blk_cell BK337.out 3).trans rfl
                    have hfz40_0 := blk_frozen BK337.out 0
                    have hfz40_1 := blk_frozen BK337.out 1
                    have hfz40_2 := blk_frozen BK337.out 2
                    have hfz40_3 := blk_frozen BK337.out 3
                    go_wp2
                    repeat (go_quiet (fail); try go_wp2)
                    go_ret
                    exact ⟨by first | rfl | (simp [errW_none, errW_some] <;> rfl) | (simp [*, errW_none, errW_some] <;> rfl), by repeat (first | (with_reducible first | exact HB.out | apply below_alloc | apply pw_below_drewN | apply below_drew1 | refine below_set ?_ GE336.out | refine below_set ?_ GE337.out) | exact HB.out)⟩
              · rw [if_neg c35] at H
                exact absurd H (by simp)
            · rw [if_neg c34] at H
              exact absurd H (by simp)
  · replace c4 := Bool.eq_false_iff.mpr c4
    subst c4
    have H1 : (some false) = some r := by rw [if_neg (show ¬ (false = true) by decide)] at H; exact H
    clear H
    have H := H1
    clear H1
    exact absurd ((Option.some.inj H).trans HT_.out) (by simp)

end Go.Proofs.Ytocmpidbeagimaa.Z
end

section
/- InodePrefixes, over numbers and lists: the law's function answers true. -/
namespace Go.Proofs.Ytocmpidbeagimaa.Pure
open Go.RowKit Go.Proofs.Ytocmpidbeagimaa Go.Proofs.Ytocmpidbeagimaa.Z Go.Proofs.YtocmpidbeagimaaW.PrintWords Go.Proofs.Ytocmpidbeagimaa.PM
theorem pref_inj {k i q j : Int} (hk : lett k ≠ []) (hq : lett q ≠ []) (hi : 0 ≤ i ∧ i < 4294967296) (hj : 0 ≤ j ∧ j < 4294967296) (h : prefL k i = prefL q j) : k = q ∧ i = j := by
  obtain ⟨a, ha, hka⟩ := lett_one hk
  obtain ⟨b, hb, hkb⟩ := lett_one hq
  unfold prefL at h
  rw [if_neg hk, if_neg hq, ha, hb, List.singleton_append, List.singleton_append] at h
  injection h with h1 h2
  have := be_inj (by rw [p4]; omega) (by rw [p4]; omega) h2
  subst h1
  exact ⟨by omega, by omega⟩
theorem pre_case (x27 : Bool) (k i c q j d : Int) (n m s t : ByteArray) (hx : x27 = true ∨ rightK k i n.data.toList c = true ∧ rightK q j m.data.toList d = true ∧ s = ba (keyL k i n.data.toList c) ∧ t = ba (keyL q j m.data.toList d))
    (hi : 0 ≤ i ∧ i < 4294967296) (hj : 0 ≤ j ∧ j < 4294967296) (hc : 0 ≤ c) (hd : 0 ≤ d) : Ev (fun r => cambiumlaw12_InodePrefixes.j0 r s t x27 k i n c q j m d) true := by
  refine Ev.step (fun k => by rw [cambiumlaw12_InodePrefixes.j0]) ?_
  cases x27
  case true => exact Ev.ifp rfl (Ev.const rfl)
  case false =>
    refine Ev.ifn (by decide) ?_
    rcases hx with hx | ⟨h1, h2, rfl, rfl⟩
    · cases hx
    · have hk := lett_ne h1
      have hq := lett_ne h2
      have l1 := prefL_len (i := i) hk
      have l2 := prefL_len (i := j) hq
      have t1 := key_len h1
      have t2 := key_len h2
      have e1 : ((ba (keyL k i n.data.toList c)).extract 0 5).toList = prefL k i := by
        rw [ext_front, ba_toList, ba_data]; unfold keyL; exact tk l1
      have e2 : ((ba (keyL q j m.data.toList d)).extract 0 5).toList = prefL q j := by
        rw [ext_front, ba_toList, ba_data]; unfold keyL; exact tk l2
      have same : keyL k i n.data.toList c = keyL q j m.data.toList d ↔ k = q ∧ i = j ∧ n.data.toList = m.data.toList ∧ c = d := by
        constructor
        · intro h
          have a1 := pars_key h1 hi hc
          have a2 := pars_key h2 hj hd
          rw [h, a2] at a1
          simp only [Prod.mk.injEq] at a1
          obtain ⟨b1, b2, b3, b4, _⟩ := a1
          exact ⟨b1.symm, b2.symm, b3.symm, b4.symm⟩
        · rintro ⟨rfl, rfl, hn, rfl⟩
          rw [hn]
      have key_ : ((ba (keyL k i n.data.toList c)).toList == (ba (keyL q j m.data.toList d)).toList) = (k == q && (i == j && (n.toList == m.toList && (c == d)))) := by
        rw [ba_toList, ba_toList, ByteArray.toList_eq, ByteArray.toList_eq, Bool.eq_iff_iff]
        simp only [beq_iff_eq, Bool.and_eq_true]
        exact same
      rw [e1, e2, key_]
      have p1 : (5 : Int) ≤ ((ba (keyL k i n.data.toList c)).size : Int) := by rw [ba_size]; omega
      have p2 : (5 : Int) ≤ ((ba (keyL q j m.data.toList d)).size : Int) := by rw [ba_size]; omega
      by_cases hkq : k = q
      · have e3 : (prefL k i == prefL q j) = (i == j) := by
          rw [Bool.eq_iff_iff]
          simp only [beq_iff_eq]
          exact ⟨fun h => (pref_inj hk hq hi hj h).2, fun h => by rw [hkq, h]⟩
        rw [e3]
        refine Ev.ifp hkq (Ev.ifp p1 (Ev.ifp p2 (Ev.ifn (by simp) (Ev.ifn (by simp) ?_))))
        by_cases hij : i = j
        · refine Ev.ifp hij ?_
          by_cases h3 : k = 3
          · refine Ev.ifp h3 (Ev.const ?_)
            have q3 : q = 3 := by omega
            have c1 := (rightK_size h1).2
            have c2 := (rightK_size h2).2
            rw [ba_toList, ba_toList]
            unfold keyL
            rw [if_pos h3, if_pos q3, hkq, hij, bl_pre, be_less 4 _ _ (by rw [p4]; omega) (by rw [p4]; omega)]
            refine congrArg some ?_
            rw [beq_iff_eq]
            exact decide_eq_decide.2 (by omega)
          · exact Ev.ifn h3 (Ev.const rfl)
        · exact Ev.ifn hij (Ev.const rfl)
      · have e3 : (prefL k i == prefL q j) = false := by
          simp only [beq_eq_false_iff_ne, ne_eq]
          exact fun h => hkq (pref_inj hk hq hi hj h).1
        rw [e3]
        exact Ev.ifn hkq (Ev.ifp p1 (Ev.ifp p2 (Ev.ifn (by simp) (Ev.ifn (by simp) (Ev.const rfl)))))
theorem InodePrefixes : ∀ (a0_0 : Int) (a0_1 : Int) (a0_2 : ByteArray) (a0_3 : Int) (a1_0 : Int) (a1_1 : Int) (a1_2 : ByteArray) (a1_3 : Int), (Lit.int .u8 a0_0).wf = true → (Lit.int .u32 a0_1).wf = true → a0_2.size ≤ maxLen → (Lit.int .u32 a0_3).wf = true → (Lit.int .u8 a1_0).wf = true → (Lit.int .u32 a1_1).wf = true → a1_2.size ≤ maxLen → (Lit.int .u32 a1_3).wf = true → ∃ k, Z.cambiumlaw12_InodePrefixes.f k a0_0 a0_1 a0_2 a0_3 a1_0 a1_1 a1_2 a1_3 = some true := by
  intro k i n c q j m d hk hi hn hc hq hj hm hd
  refine Ev.rounds (g := fun r => Z.cambiumlaw12_InodePrefixes.f r k i n c q j m d) ?_
  have hk := wf8 hk
  have hi := wf32 hi
  have hc := wf32 hc
  have hq := wf8 hq
  have hj := wf32 hj
  have hd := wf32 hd
  unfold cambiumlaw12_InodePrefixes.f
  refine Ev.bind lives_f (Ev.ifp rfl (Ev.bind (key_f k i n c hk.1 hi hc.1) (Ev.bind (key_f q j m d hq.1 hj hd.1) ?_)))
  unfold keyS
  by_cases h1 : rightK k i n.data.toList c = true
  · simp only [if_pos h1]
    refine Ev.ifp trivial ?_
    by_cases h2 : rightK q j m.data.toList d = true
    · simp only [if_pos h2]
      exact pre_case _ k i c q j d n m _ _ (.inr ⟨h1, h2, rfl, rfl⟩) hi hj hc.1 hd.1
    · simp only [if_neg h2]
      exact pre_case _ k i c q j d n m _ _ (.inl rfl) hi hj hc.1 hd.1
  · simp only [if_neg h1]
    exact Ev.ifn (by decide) (pre_case _ k i c q j d n m _ _ (.inl rfl) hi hj hc.1 hd.1)
end Go.Proofs.Ytocmpidbeagimaa.Pure
end

section
/- cambium/cambiumlaw12.InodePrefixes: at every input the law's function returns true, and each argument reads afterwards as before. Conditions: none beyond the row's own. Printed by a program of this session (mp.py) over the pure statement in YtocmpidbeagimaaPureInodePrefixes. -/
namespace Go.Proofs.Ytocmpidbeagimaa.inodePrefixes
open Go.ChangeShapes Go.WideShapes Go.ChangeAt Go.RowKit
open Go.ChangeMaps (open_string shut_string)
set_option linter.unusedVariables false
set_option linter.unusedSimpArgs false
theorem own : ownKnob Try.prog.godebug = none := by kernel_rfl
theorem laidOut : laidOutB Try.prog = true := by kernel_rfl
theorem lstOf4 {α : Type} (l : List α) (h : l.length = 4) : ∃ z0 z1 z2 z3, l = [z0, z1, z2, z3] := by
  match l, h with
  | [z0, z1, z2, z3], _ => exact ⟨z0, z1, z2, z3, rfl⟩
theorem arrOf4 {α : Type} (a : Array α) (h : a.toList.length = 4) : ∃ z0 z1 z2 z3, a = #[z0, z1, z2, z3] := by
  obtain ⟨l⟩ := a
  obtain ⟨z0, z1, z2, z3, rfl⟩ := lstOf4 l h
  exact ⟨z0, z1, z2, z3, rfl⟩
set_option maxHeartbeats 1000000 in
set_option maxRecDepth 100000 in
theorem lifted (os : Os) (started : os.Started) (H : Type) (enc : TypeId × Value → H) :
    ReturnsInHanded {} Try.checked os 6 .any (Rows.inodePrefixesSpec.pre6 enc Try.prog Try.f6 Rows.inodePrefixesRow.domain false) (Rows.inodePrefixesSpec.post enc Try.prog Try.f6 false true false false) := by
  refine returnsInHanded_of_change_sized (C := Try.checked) own started (by kernel_rfl) Try.func6
    (ChangeSpec.witness6 (enc := enc) (C := Try.checked) false ⟨#[], #[.agg #[.int .u8 0, .int .u32 0, .string ByteArray.empty, .int .u32 0], .agg #[.int .u8 0, .int .u32 0, .string ByteArray.empty, .int .u32 0]], []⟩ 8 (by kernel_rfl) (by kernel_rfl) (by kernel_rfl) (by kernel_rfl)) ?_
  intro W base args ds gs before hval0 hW hcnd hwz_ _
  have hsz : (DataW.weightsEach Try.prog (Try.f6.params.toList ++ Rows.inodePrefixesSpec.plain.varTypes Try.prog) (ds ++ gs)).all (· ≤ reachBytes) = true := hwz_
  have hval : ∀ (j : Nat) t v, Try.f6.params[j]? = some t → args[j]? = some v → Value.okWide Try.prog W .any base t v := hval0
  have hW' := hW
  obtain ⟨p, q, hA0, hV, rfl, hfz, hnd⟩ := hW
  have hA : DataW.TrodAll enc Try.prog W 0 (fun _ => true) true Try.f6.params.toList args.toList ds p := hA0
  rw [Try.params6] at hA hval hsz
  obtain ⟨v0, vs0, d0, ds0, p0, q0, hargs, rfl, rfl, h0, r0⟩ := trodAll_cons hA
  obtain ⟨v1, vs1, d1, ds1, p1, q1, rfl, rfl, rfl, h1, r1⟩ := trodAll_cons r0
  obtain ⟨rfl, rfl, rfl⟩ := trodAll_nil r1
  obtain rfl : args = #[v0, v1] := by cases args; simp_all
  obtain ⟨rfl, rfl⟩ := trodVars_none hV
  have k0 := h0
  have lt0 : ∀ x ∈ p0, x.block < W.heap.size := by obtain ⟨m, hm⟩ := k0; exact DataW.trod_lt m _ _ _ hm
  obtain ⟨cs0, rfl, hsz_0⟩ := okWide_struct Try.underlying37 (hval 0 37 v0 rfl rfl)
  obtain ⟨fuel0, hf0⟩ := h0
  obtain ⟨ys0, n0, hl0, hy0, hx0, hfs0⟩ := Z.flat_fields Try.underlying37 (by kernel_rfl) (by kernel_rfl) hf0
  obtain ⟨q0_0, q0_1, q0_2, q0_3, rfl⟩ := arrOf4 cs0 hl0
  obtain ⟨r0_0, r0_1, r0_2, r0_3, rfl⟩ := lstOf4 ys0 hy0
  obtain ⟨a0_0, hk0_0, hG0_0, hB0_0⟩ := (Z.Opens.int Try.underlying35 (by kernel_rfl)).2 (hfs0 0 _ q0_0 rfl rfl)
  have hk0_0' : [q0_0] = [.int .u8 a0_0] := hk0_0
  simp only [List.cons.injEq, and_true] at hk0_0'
  subst hk0_0'
  clear hk0_0
  obtain ⟨a0_1, hk0_1, hG0_1, hB0_1⟩ := (Z.Opens.int Try.underlying24 (by kernel_rfl)).2 (hfs0 1 _ q0_1 rfl rfl)
  have hk0_1' : [q0_1] = [.int .u32 a0_1] := hk0_1
  simp only [List.cons.injEq, and_true] at hk0_1'
  subst hk0_1'
  clear hk0_1
  obtain ⟨a0_2, hk0_2, hG0_2, hB0_2⟩ := (Z.Opens.string Try.underlying9 (by kernel_rfl)).2 (hfs0 2 _ q0_2 rfl rfl)
  have hk0_2' : [q0_2] = [.string a0_2] := hk0_2
  simp only [List.cons.injEq, and_true] at hk0_2'
  subst hk0_2'
  clear hk0_2
  obtain ⟨a0_3, hk0_3, hG0_3, hB0_3⟩ := (Z.Opens.int Try.underlying24 (by kernel_rfl)).2 (hfs0 3 _ q0_3 rfl rfl)
  have hk0_3' : [q0_3] = [.int .u32 a0_3] := hk0_3
  simp only [List.cons.injEq, and_true] at hk0_3'
  subst hk0_3'
  clear hk0_3
  have k1 := h1
  have lt1 : ∀ x ∈ p1, x.block < W.heap.size := by obtain ⟨m, hm⟩ := k1; exact DataW.trod_lt m _ _ _ hm
  obtain ⟨cs1, rfl, hsz_1⟩ := okWide_struct Try.underlying37 (hval 1 37 v1 rfl rfl)
  obtain ⟨fuel1, hf1⟩ := h1
  obtain ⟨ys1, n1, hl1, hy1, hx1, hfs1⟩ := Z.flat_fields Try.underlying37 (by kernel_rfl) (by kernel_rfl) hf1
  obtain ⟨q1_0, q1_1, q1_2, q1_3, rfl⟩ := arrOf4 cs1 hl1
  obtain ⟨r1_0, r1_1, r1_2, r1_3, rfl⟩ := lstOf4 ys1 hy1
  obtain ⟨a1_0, hk1_0, hG1_0, hB1_0⟩ := (Z.Opens.int Try.underlying35 (by kernel_rfl)).2 (hfs1 0 _ q1_0 rfl rfl)
  have hk1_0' : [q1_0] = [.int .u8 a1_0] := hk1_0
  simp only [List.cons.injEq, and_true] at hk1_0'
  subst hk1_0'
  clear hk1_0
  obtain ⟨a1_1, hk1_1, hG1_1, hB1_1⟩ := (Z.Opens.int Try.underlying24 (by kernel_rfl)).2 (hfs1 1 _ q1_1 rfl rfl)
  have hk1_1' : [q1_1] = [.int .u32 a1_1] := hk1_1
  simp only [List.cons.injEq, and_true] at hk1_1'
  subst hk1_1'
  clear hk1_1
  obtain ⟨a1_2, hk1_2, hG1_2, hB1_2⟩ := (Z.Opens.string Try.underlying9 (by kernel_rfl)).2 (hfs1 2 _ q1_2 rfl rfl)
  have hk1_2' : [q1_2] = [.string a1_2] := hk1_2
  simp only [List.cons.injEq, and_true] at hk1_2'
  subst hk1_2'
  clear hk1_2
  obtain ⟨a1_3, hk1_3, hG1_3, hB1_3⟩ := (Z.Opens.int Try.underlying24 (by kernel_rfl)).2 (hfs1 3 _ q1_3 rfl rfl)
  have hk1_3' : [q1_3] = [.int .u32 a1_3] := hk1_3
  simp only [List.cons.injEq, and_true] at hk1_3'
  subst hk1_3'
  clear hk1_3
  have hP := Pure.InodePrefixes a0_0 a0_1 a0_2 a0_3 a1_0 a1_1 a1_2 a1_3 hG0_0 hG0_1 hG0_2 hG0_3 hG1_0 hG1_1 hG1_2 hG1_3
  obtain ⟨k, hk⟩ := hP
  refine (Z.cambiumlaw12_InodePrefixes.calls k a0_0 a0_1 a0_2 a0_3 a1_0 a1_1 a1_2 a1_3 true W  hk).mono fun e W' ⟨he, bel0⟩ => ?_
  have bel : Below W.heap.size W W' := bel0
  subst he
  exact ⟨_, rfl, _, _, _, [], _, [], hW', trodAll_mk1 (shut_bool Try.underlying4 _), (trodAll_cons_mk (Below.trod laidOut (by kernel_rfl) (of_decide_eq_true (by kernel_rfl)) k0 bel lt0) (trodAll_cons_mk (Below.trod laidOut (by kernel_rfl) (of_decide_eq_true (by kernel_rfl)) k1 bel lt1) trodAll_mk0)), rfl, bel.frame _, fun h => by cases h⟩
theorem over : Rows.inodePrefixesRow.holds Try.pinned (OpenSpec.ofChange Rows.inodePrefixesSpec) :=
  OpenClaim.holds_of_wide 6 Try.f6 rfl rfl rfl rfl rfl rfl rfl ⟨rfl, rfl, rfl, rfl, rfl⟩ rfl rfl rfl rfl rfl (by kernel_rfl) Try.func6 (by kernel_rfl)
    (of_decide_eq_true (by kernel_rfl)) (by unfold Func.isWrapper; first | (rw [if_pos (by decide +kernel)]; kernel_rfl) | (rw [if_neg (by decide +kernel)]; exact ⟨rfl, rfl⟩))
    (fun os started H enc _ => lifted os started H enc)
end Go.Proofs.Ytocmpidbeagimaa.inodePrefixes
namespace Go.Proofs.Ytocmpidbeagimaa
theorem inodePrefixes_holds : Rows.InodePrefixesSaid := inodePrefixes.over
#print axioms inodePrefixes_holds
end Go.Proofs.Ytocmpidbeagimaa
end
