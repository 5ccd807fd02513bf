/- InodeBack: at every input the law's function returns true and leaves its arguments as they were; no condition beyond the row's own. Part 5 of 5: this session's own texts, laid together. -/
import Derived.Test.YtocmpidbeagimaaMB1
import Derived.Test.YtocmpidbeagimaaMB3
import Derived.Test.YtocmpidbeagimaaMB2
import Derived.Test.YtocmpidbeagimaaMB4
import Derived.Test.YtocmpidbeagimaaRows
import Derived.WalkKit
import Derived.ProofKit
import Derived.OpenShut
import Derived.ShutString
import Derived.ChangeOld
import Derived.Below
import Derived.SizedLaws
import Derived.Carry
section
-- Printed by a program of this session (mp.py) out of the translation.
namespace Go.Proofs.Ytocmpidbeagimaa.Z
open Go.RowKit Go.Proofs.YtocmpidbeagimaaW.PrintWords Go.Proofs.YtocmpidbeagimaaW.PrintLast Go.Proofs.YtocmpidbeagimaaW.PrintMore
attribute [local go_sem] max2_int min2_int max_two min_two max_three min_three max_four min_four   -- for this text's walks alone
set_option linter.unusedVariables false
set_option linter.unusedSimpArgs false

theorem eqA26 (d : Nat) (w : World) (x0 y0 : Int) (x1 y1 : Int) (x2 y2 : Int) (x3 y3 : Int) (x4 y4 : ByteArray) :
    (Op.equalIn (d + 2) 26 (.agg #[.int .u8 x0, .int .u16 x1, .int .u32 x2, .int .u32 x3, .string x4]) (.agg #[.int .u8 y0, .int .u16 y1, .int .u32 y2, .int .u32 y3, .string y4])).run Try.prog w = .ok (x0 == y0 && (x1 == y1 && (x2 == y2 && (x3 == y3 && (x4.toList == y4.toList))))) w := by
  refine eqA_of Try.underlying26 (by kernel_rfl) ?_
  refine eqf_cons (by rfl) (by go_simp; rfl) (by go_simp; rfl) (by go_simp) ?_
  refine eqf_cons (by rfl) (by go_simp; rfl) (by go_simp; rfl) (by go_simp) ?_
  refine eqf_cons (by rfl) (by go_simp; rfl) (by go_simp; rfl) (by go_simp) ?_
  refine eqf_cons (by rfl) (by go_simp; rfl) (by go_simp; rfl) (by go_simp) ?_
  exact eqf_last (by rfl) (by go_simp; rfl) (by go_simp; rfl) (by go_simp)
end Go.Proofs.Ytocmpidbeagimaa.Z
end

section
-- Printed by a program of this session (mp.py) out of the translation.
namespace Go.Proofs.Ytocmpidbeagimaa.Z
open Go.RowKit Go.Proofs.YtocmpidbeagimaaW.PrintWords Go.Proofs.YtocmpidbeagimaaW.PrintLast Go.Proofs.YtocmpidbeagimaaW.PrintMore
attribute [local go_sem] max2_int min2_int max_two min_two max_three min_three max_four min_four   -- for this text's walks alone
set_option linter.unusedVariables false
set_option linter.unusedSimpArgs false

attribute [local go_sem high] eqA26 eqA37
/-! ### cambiumlaw12_InodeBack: function 5 -/
mutual
def cambiumlaw12_InodeBack.j0 : Nat → ByteArray → Int → Int → ByteArray → Int → Option (Bool)
  | 0, _, _, _, _, _ => none
  | k + 1, x2, x300000, x300001, x300002, x300003 => (inode_Key.f k x300000 x300001 x300002 x300003).bind fun bt310 => (if bt310.2 = 0 then ((inode_Prefix.f k x300000 x300001).bind fun t312 => ((inode_Parse.f k bt310.1).bind fun bt313 => (if (!(bt313.1 == x300000) || (!(bt313.2.1 == x300001) || (!(bt313.2.2.1.toList == x300002.toList) || (!(bt313.2.2.2.1 == x300003))))) = true then (some false) else (if bt313.2.2.2.2 = 0 then (if (t312.size : Int) = 5 then (if 5 ≤ (bt310.1.size : Int) then (if (bt310.1.extract 0 5).toList = t312.toList then (cambiumlaw12_InodeBack.j1 k x2) else (some false)) else (none)) else (some false)) else (some false))))) else (cambiumlaw12_InodeBack.j1 k x2))
def cambiumlaw12_InodeBack.j1 : Nat → ByteArray → Option (Bool)
  | 0, _ => none
  | k + 1, x2 => (inode_Decode.f k x2).bind fun bt319 => (if bt319.2.2.2.2.2 = 0 then ((inode_Encode.f k bt319.1 bt319.2.1 bt319.2.2.1 bt319.2.2.2.1 bt319.2.2.2.2.1).bind fun bt326 => (if bt326.1.toList = x2.toList then (if bt326.2 = 0 then (cambiumlaw12_InodeBack.j2 k x2) else (some false)) else (some false))) else (cambiumlaw12_InodeBack.j2 k x2))
def cambiumlaw12_InodeBack.j2 : Nat → ByteArray → Option (Bool)
  | 0, _ => none
  | k + 1, x2 => (inode_Parse.f k x2).bind fun bt328 => (if bt328.2.2.2.2 = 0 then ((inode_Key.f k bt328.1 bt328.2.1 bt328.2.2.1 bt328.2.2.2.1).bind fun bt334 => (if bt334.1.toList = x2.toList then (if bt334.2 = 0 then (some (decide ((bt334.1.size : Int) ≤ 48))) else (some false)) else (some false))) else (some true))
end
def cambiumlaw12_InodeBack.f (k : Nat) (a0_0 : Int) (a0_1 : Int) (a0_2 : Int) (a0_3 : Int) (a0_4 : ByteArray) (a1_0 : Int) (a1_1 : Int) (a1_2 : ByteArray) (a1_3 : Int) (a2 : ByteArray) : Option (Bool) := (cambiumlaw12_lives.f k).bind fun t300 => (if t300 = true then ((inode_Encode.f k a0_0 a0_1 a0_2 a0_3 a0_4).bind fun bt301 => (if bt301.2 = 0 then ((inode_Decode.f k bt301.1).bind fun bt303 => (if (!(bt303.1 == a0_0) || (!(bt303.2.1 == a0_1) || (!(bt303.2.2.1 == a0_2) || (!(bt303.2.2.2.1 == a0_3) || (!(bt303.2.2.2.2.1.toList == a0_4.toList)))))) = true then (some false) else (if bt303.2.2.2.2.2 = 0 then (cambiumlaw12_InodeBack.j0 k a2 a1_0 a1_1 a1_2 a1_3) else (some false)))) else (cambiumlaw12_InodeBack.j0 k a2 a1_0 a1_1 a1_2 a1_3))) else (some false))
theorem cambiumlaw12_InodeBack.mono_l : ∀ k, (∀ y0 y1 y2 y3 y4, LeO (cambiumlaw12_InodeBack.j0 k y0 y1 y2 y3 y4) (cambiumlaw12_InodeBack.j0 (k + 1) y0 y1 y2 y3 y4)) ∧ (∀ y0, LeO (cambiumlaw12_InodeBack.j1 k y0) (cambiumlaw12_InodeBack.j1 (k + 1) y0)) ∧ (∀ y0, LeO (cambiumlaw12_InodeBack.j2 k y0) (cambiumlaw12_InodeBack.j2 (k + 1) y0))
  | 0 => ⟨fun _ _ _ _ _ r h => by simp [cambiumlaw12_InodeBack.j0] at h, fun _ r h => by simp [cambiumlaw12_InodeBack.j1] at h, fun _ r h => by simp [cambiumlaw12_InodeBack.j2] at h⟩
  | k + 1 => by
    obtain ⟨ih0, ih1, ih2⟩ := cambiumlaw12_InodeBack.mono_l k
    refine ⟨?_, ?_, ?_⟩
    · intro y0 y1 y2 y3 y4
      unfold cambiumlaw12_InodeBack.j0
      repeat' first
      | (with_reducible exact ih0 _ _ _ _ _)
      | (with_reducible exact ih1 _)
      | (with_reducible exact ih2 _)
      | (with_reducible exact cambiumlaw12_lives.mono _)
      | (with_reducible exact inode_Decode.mono _ _)
      | (with_reducible exact inode_Encode.mono _ _ _ _ _ _)
      | (with_reducible exact inode_Key.mono _ _ _ _ _)
      | (with_reducible exact inode_Parse.mono _ _)
      | (with_reducible exact inode_Prefix.mono _ _ _)
      | (with_reducible exact LeO.refl _)
      | (with_reducible exact LeO.none _)
      | (with_reducible refine LeO.ite ?_ ?_)
      | (with_reducible refine LeO.bind ?_ (fun _ => ?_))
      | exact ih0 _ _ _ _ _
      | exact ih1 _
      | exact ih2 _
      | exact cambiumlaw12_lives.mono _
      | exact inode_Decode.mono _ _
      | exact inode_Encode.mono _ _ _ _ _ _
      | exact inode_Key.mono _ _ _ _ _
      | exact inode_Parse.mono _ _
      | exact inode_Prefix.mono _ _ _
      | exact LeO.none _
      | refine LeO.ite ?_ ?_
      | refine LeO.bind ?_ (fun _ => ?_)
    · intro y0
      unfold cambiumlaw12_InodeBack.j1
      repeat' first
      | (with_reducible exact ih0 _ _ _ _ _)
      | (with_reducible exact ih1 _)
      | (with_reducible exact ih2 _)
      | (with_reducible exact cambiumlaw12_lives.mono _)
      | (with_reducible exact inode_Decode.mono _ _)
      | (with_reducible exact inode_Encode.mono _ _ _ _ _ _)
      | (with_reducible exact inode_Key.mono _ _ _ _ _)
      | (with_reducible exact inode_Parse.mono _ _)
      | (with_reducible exact inode_Prefix.mono _ _ _)
      | (with_reducible exact LeO.refl _)
      | (with_reducible exact LeO.none _)
      | (with_reducible refine LeO.ite ?_ ?_)
      | (with_reducible refine LeO.bind ?_ (fun _ => ?_))
      | exact ih0 _ _ _ _ _
      | exact ih1 _
      | exact ih2 _
      | exact cambiumlaw12_lives.mono _
      | exact inode_Decode.mono _ _
      | exact inode_Encode.mono _ _ _ _ _ _
      | exact inode_Key.mono _ _ _ _ _
      | exact inode_Parse.mono _ _
      | exact inode_Prefix.mono _ _ _
      | exact LeO.none _
      | refine LeO.ite ?_ ?_
      | refine LeO.bind ?_ (fun _ => ?_)
    · intro y0
      unfold cambiumlaw12_InodeBack.j2
      repeat' first
      | (with_reducible exact ih0 _ _ _ _ _)
      | (with_reducible exact ih1 _)
      | (with_reducible exact ih2 _)
      | (with_reducible exact cambiumlaw12_lives.mono _)
      | (with_reducible exact inode_Decode.mono _ _)
      | (with_reducible exact inode_Encode.mono _ _ _ _ _ _)
      | (with_reducible exact inode_Key.mono _ _ _ _ _)
      | (with_reducible exact inode_Parse.mono _ _)
      | (with_reducible exact inode_Prefix.mono _ _ _)
      | (with_reducible exact LeO.refl _)
      | (with_reducible exact LeO.none _)
      | (with_reducible refine LeO.ite ?_ ?_)
      | (with_reducible refine LeO.bind ?_ (fun _ => ?_))
      | exact ih0 _ _ _ _ _
      | exact ih1 _
      | exact ih2 _
      | exact cambiumlaw12_lives.mono _
      | exact inode_Decode.mono _ _
      | exact inode_Encode.mono _ _ _ _ _ _
      | exact inode_Key.mono _ _ _ _ _
      | exact inode_Parse.mono _ _
      | exact inode_Prefix.mono _ _ _
      | exact LeO.none _
      | refine LeO.ite ?_ ?_
      | refine LeO.bind ?_ (fun _ => ?_)
theorem cambiumlaw12_InodeBack.mono : ∀ a0 a1 a2 a3 a4 a5 a6 a7 a8 a9 k, LeO (cambiumlaw12_InodeBack.f k a0 a1 a2 a3 a4 a5 a6 a7 a8 a9) (cambiumlaw12_InodeBack.f (k + 1) a0 a1 a2 a3 a4 a5 a6 a7 a8 a9) := by
  intro a0 a1 a2 a3 a4 a5 a6 a7 a8 a9 k
  obtain ⟨ih0, ih1, ih2⟩ := cambiumlaw12_InodeBack.mono_l k
  unfold cambiumlaw12_InodeBack.f
  repeat' first
      | (with_reducible exact ih0 _ _ _ _ _)
      | (with_reducible exact ih1 _)
      | (with_reducible exact ih2 _)
      | (with_reducible exact cambiumlaw12_lives.mono _)
      | (with_reducible exact inode_Decode.mono _ _)
      | (with_reducible exact inode_Encode.mono _ _ _ _ _ _)
      | (with_reducible exact inode_Key.mono _ _ _ _ _)
      | (with_reducible exact inode_Parse.mono _ _)
      | (with_reducible exact inode_Prefix.mono _ _ _)
      | (with_reducible exact LeO.refl _)
      | (with_reducible exact LeO.none _)
      | (with_reducible refine LeO.ite ?_ ?_)
      | (with_reducible refine LeO.bind ?_ (fun _ => ?_))
      | exact ih0 _ _ _ _ _
      | exact ih1 _
      | exact ih2 _
      | exact cambiumlaw12_lives.mono _
      | exact inode_Decode.mono _ _
      | exact inode_Encode.mono _ _ _ _ _ _
      | exact inode_Key.mono _ _ _ _ _
      | exact inode_Parse.mono _ _
      | exact inode_Prefix.mono _ _ _
      | exact LeO.none _
      | refine LeO.ite ?_ ?_
      | refine LeO.bind ?_ (fun _ => ?_)
set_option maxHeartbeats 8000000 in
set_option maxRecDepth 100000 in
theorem cambiumlaw12_InodeBack.calls (k : Nat) (a0_0 : Int) (a0_1 : Int) (a0_2 : Int) (a0_3 : Int) (a0_4 : ByteArray) (a1_0 : Int) (a1_1 : Int) (a1_2 : ByteArray) (a1_3 : Int) (a2 : ByteArray) (r : Bool) (w : World) (h : cambiumlaw12_InodeBack.f k a0_0 a0_1 a0_2 a0_3 a0_4 a1_0 a1_1 a1_2 a1_3 a2 = some r) (hT_ : r = true := by rfl) :
    Calls Try.prog 5 #[.agg #[.int .u8 a0_0, .int .u16 a0_1, .int .u32 a0_2, .int .u32 a0_3, .string a0_4], .agg #[.int .u8 a1_0, .int .u32 a1_1, .string a1_2, .int .u32 a1_3], .string a2] w fun e w' => e = .returned (.bool r) ∧ Below w.heap.size w w' := by
  have HT_ := Aside0.mk hT_
  clear hT_
  have hu26 := Try.underlying26
  have hu37 := Try.underlying37
  have HB := Aside0.mk (Below.refl w.heap.size w)
  have H : ((cambiumlaw12_lives.f k).bind fun t300 => (if t300 = true then ((inode_Encode.f k a0_0 a0_1 a0_2 a0_3 a0_4).bind fun bt301 => (if bt301.2 = 0 then ((inode_Decode.f k bt301.1).bind fun bt303 => (if (!(bt303.1 == a0_0) || (!(bt303.2.1 == a0_1) || (!(bt303.2.2.1 == a0_2) || (!(bt303.2.2.2.1 == a0_3) || (!(bt303.2.2.2.2.1.toList == a0_4.toList)))))) = true then (some false) else (if bt303.2.2.2.2.2 = 0 then (cambiumlaw12_InodeBack.j0 k a2 a1_0 a1_1 a1_2 a1_3) else (some false)))) else (cambiumlaw12_InodeBack.j0 k a2 a1_0 a1_1 a1_2 a1_3))) else (some false))) = some r := h
  clear h
  replace H := Option.bind_eq_some_iff.mp H
  obtain ⟨t300, A40, H⟩ := H
  replace H : (if t300 = true then ((inode_Encode.f k a0_0 a0_1 a0_2 a0_3 a0_4).bind fun bt301 => (if bt301.2 = 0 then ((inode_Decode.f k bt301.1).bind fun bt303 => (if (!(bt303.1 == a0_0) || (!(bt303.2.1 == a0_1) || (!(bt303.2.2.1 == a0_2) || (!(bt303.2.2.2.1 == a0_3) || (!(bt303.2.2.2.2.1.toList == a0_4.toList)))))) = true then (some false) else (if bt303.2.2.2.2.2 = 0 then (cambiumlaw12_InodeBack.j0 k a2 a1_0 a1_1 a1_2 a1_3) else (some false)))) else (cambiumlaw12_InodeBack.j0 k a2 a1_0 a1_1 a1_2 a1_3))) else (some false)) = some r := H
  have A4 := Aside0.mk A40
  clear A40
  by_cases c5 : t300 = true
  · subst c5
    have H1 : ((inode_Encode.f k a0_0 a0_1 a0_2 a0_3 a0_4).bind fun bt301 => (if bt301.2 = 0 then ((inode_Decode.f k bt301.1).bind fun bt303 => (if (!(bt303.1 == a0_0) || (!(bt303.2.1 == a0_1) || (!(bt303.2.2.1 == a0_2) || (!(bt303.2.2.2.1 == a0_3) || (!(bt303.2.2.2.2.1.toList == a0_4.toList)))))) = true then (some false) else (if bt303.2.2.2.2.2 = 0 then (cambiumlaw12_InodeBack.j0 k a2 a1_0 a1_1 a1_2 a1_3) else (some false)))) else (cambiumlaw12_InodeBack.j0 k a2 a1_0 a1_1 a1_2 a1_3))) = some r := by rw [if_pos rfl] at H; exact H
    clear H
    have H := H1
    clear H1
    replace H := Option.bind_eq_some_iff.mp H
    obtain ⟨⟨t301, t302⟩, A60, H⟩ := H
    replace H : (if t302 = 0 then ((inode_Decode.f k t301).bind fun bt303 => (if (!(bt303.1 == a0_0) || (!(bt303.2.1 == a0_1) || (!(bt303.2.2.1 == a0_2) || (!(bt303.2.2.2.1 == a0_3) || (!(bt303.2.2.2.2.1.toList == a0_4.toList)))))) = true then (some false) else (if bt303.2.2.2.2.2 = 0 then (cambiumlaw12_InodeBack.j0 k a2 a1_0 a1_1 a1_2 a1_3) else (some false)))) else (cambiumlaw12_InodeBack.j0 k a2 a1_0 a1_1 a1_2 a1_3)) = some r := H
    have A6 := Aside0.mk A60
    clear A60
    have HC7 := Aside0.mk H
    clear H
    go_enter Try.func5, Try.ntmps5
    go_upto_if 32 with (first | ((with_reducible refine gate_dst (N := 3) rfl ?_); (try (refine gate_guard (by rfl) ?_; dsimp only)); refine box_event ?hg (N := 3) ?hd (cs := #[.int .u8 a0_0, .int .u16 a0_1, .int .u32 a0_2, .int .u32 a0_3, .string a0_4]) (t := 26) ?hr ?_; (case hd => rfl); (case hg => rfl); (case hr => first | (go_simp; done) | (go_simp; rfl)); intro gb298 hg w8 hbox hb; have n0_ := Aside0.mk (below_step (by repeat (first | (with_reducible first | exact HB.out | apply below_alloc | apply pw_below_drewN | apply below_drew1) | exact HB.out)) hb); have n1_ := Aside0.mk (hbox); have n2_ := Aside0.mk ((by rw [hg]; exact (below_size (by repeat (first | (with_reducible first | exact HB.out | apply below_alloc | apply pw_below_drewN | apply below_drew1) | exact HB.out))) : w.heap.size ≤ gb298)); have n3_ := Aside0.mk ((by rw [hg]; exact (below_size (by repeat (first | (with_reducible first | exact HB.out | apply below_alloc | apply pw_below_drewN | apply below_drew1) | exact HB.out))) : w.heap.size ≤ gb298)); clear HB; have HB := n0_; have BK298 := n1_; have GW298 := n2_; have GE298 := n3_; clear n0_ n1_ n2_ n3_; clear hb hbox hg) | ((with_reducible refine gate_dst (N := 4) rfl ?_); (try (refine gate_guard (by rfl) ?_; dsimp only)); refine box_event ?hg (N := 4) ?hd (cs := #[.int .u8 a1_0, .int .u32 a1_1, .string a1_2, .int .u32 a1_3]) (t := 37) ?hr ?_; (case hd => rfl); (case hg => rfl); (case hr => first | (go_simp; done) | (go_simp; rfl)); intro gb299 hg w9 hbox hb; have n0_ := Aside0.mk (blk_below (g := gb298) (o := .cells #[.int .u8 a0_0, .int .u16 a0_1, .int .u32 a0_2, .int .u32 a0_3, .string a0_4] 26 (0, 0)) (by (with_reducible repeat (first | refine blk_drewN ?_ _ | refine blk_drew ?_ | refine blk_alloc ?_ _)); exact BK298.out) hb); have n1_ := Aside0.mk (below_step (by repeat (first | (with_reducible first | exact HB.out | apply below_alloc | apply pw_below_drewN | apply below_drew1 | refine below_set ?_ GE298.out) | exact HB.out)) hb); have n2_ := Aside0.mk (hbox); have n3_ := Aside0.mk ((by rw [hg]; exact (below_size (by repeat (first | (with_reducible first | exact HB.out | apply below_alloc | apply pw_below_drewN | apply below_drew1 | refine below_set ?_ GE298.out) | exact HB.out))) : w.heap.size ≤ gb299)); have n4_ := Aside0.mk ((by rw [hg]; exact (below_size (by repeat (first | (with_reducible first | exact HB.out | apply below_alloc | apply pw_below_drewN | apply below_drew1 | refine below_set ?_ GE298.out) | exact HB.out))) : w.heap.size ≤ gb299)); have n5_ := Aside0.mk ((by rw [hg]; exact Nat.ne_of_lt (blk_lt (g := gb298) (o := .cells #[.int .u8 a0_0, .int .u16 a0_1, .int .u32 a0_2, .int .u32 a0_3, .string a0_4] 26 (0, 0)) (by (with_reducible repeat (first | refine blk_drewN ?_ _ | refine blk_drew ?_ | refine blk_alloc ?_ _)); exact BK298.out)) : gb298 ≠ gb299)); have n6_ := Aside0.mk ((by rw [hg]; exact Nat.ne_of_gt (blk_lt (g := gb298) (o := .cells #[.int .u8 a0_0, .int .u16 a0_1, .int .u32 a0_2, .int .u32 a0_3, .string a0_4] 26 (0, 0)) (by (with_reducible repeat (first | refine blk_drewN ?_ _ | refine blk_drew ?_ | refine blk_alloc ?_ _)); exact BK298.out)) : gb299 ≠ gb298)); clear BK298; clear HB; have BK298 := n0_; have HB := n1_; have BK299 := n2_; have GW299 := n3_; have GE299 := n4_; have NB298_299 := n5_; have NB299_298 := n6_; clear n0_ n1_ n2_ n3_ n4_ n5_ n6_; clear hb hbox hg) | ((with_reducible refine gate_callee (f := 12) rfl ?_); refine goesL_ (some 24) rfl rfl Try.func12 (by kernel_rfl) rfl #[] rfl (by (try simp only [List.map_toArray, List.map_cons, List.map_nil]); first | done | rfl | (simp only [List.length_drop, List.length_take]; rfl)) ?_; (with_reducible refine (cambiumlaw12_lives.calls k  true _ A4.out).mono ?_); rintro e w10 ⟨rfl, hb⟩; refine ⟨_, rfl, ?_⟩; have n0_ := Aside0.mk (blk_below (g := gb298) (o := .cells #[.int .u8 a0_0, .int .u16 a0_1, .int .u32 a0_2, .int .u32 a0_3, .string a0_4] 26 (0, 0)) (by (with_reducible repeat (first | refine blk_drewN ?_ _ | refine blk_drew ?_ | refine blk_alloc ?_ _)); exact BK298.out) hb); have n1_ := Aside0.mk (blk_below (g := gb299) (o := .cells #[.int .u8 a1_0, .int .u32 a1_1, .string a1_2, .int .u32 a1_3] 37 (0, 0)) (by (with_reducible repeat (first | refine blk_drewN ?_ _ | refine blk_drew ?_ | refine blk_alloc ?_ _)); exact BK299.out) hb); have n2_ := Aside0.mk (below_step (by repeat (first | (with_reducible first | exact HB.out | apply below_alloc | apply pw_below_drewN | apply below_drew1 | refine below_set ?_ GE298.out | refine below_set ?_ GE299.out) | exact HB.out)) hb); clear BK298; clear BK299; clear HB; have BK298 := n0_; have BK299 := n1_; have HB := n2_; clear n0_ n1_ n2_; (try clear hb); (try clear hb2); (try clear hk); (try clear hi); have hnb11 := NB298_299.out; have hnc11 := NB299_298.out; have hcz12_0 : w10.cell? ⟨gb298, 0, none⟩ = some (.int .u8 a0_0) := (blk_cell BK298.out 0).trans rfl; have hcz12_1 : w10.cell? ⟨gb298, 1, none⟩ = some (.int .u16 a0_1) := (blk_cell BK298.out 1).trans rfl; have hcz12_2 : w10.cell? ⟨gb298, 2, none⟩ = some (.int .u32 a0_2) := (blk_cell BK298.out 2).trans rfl; have hcz12_3 : w10.cell? ⟨gb298, 3, none⟩ = some (.int .u32 a0_3) := (blk_cell BK298.out 3).trans rfl; have hcz12_4 : w10.cell? ⟨gb298, 4, none⟩ = some (.string a0_4) := (blk_cell BK298.out 4).trans rfl; have hfz12_0 := blk_frozen BK298.out 0; have hfz12_1 := blk_frozen BK298.out 1; have hfz12_2 := blk_frozen BK298.out 2; have hfz12_3 := blk_frozen BK298.out 3; have hfz12_4 := blk_frozen BK298.out 4) | ((with_reducible refine gate_callee (f := 8) rfl ?_); refine goesL_ (some 28) rfl rfl Try.func8 (by kernel_rfl) rfl #[.agg #[.int .u8 a0_0, .int .u16 a0_1, .int .u32 a0_2, .int .u32 a0_3, .string a0_4]] rfl (by (try simp only [List.map_toArray, List.map_cons, List.map_nil]); first | done | rfl | (simp only [List.length_drop, List.length_take]; rfl)) ?_; (with_reducible refine (inode_Encode.calls k a0_0 a0_1 a0_2 a0_3 a0_4 t301 t302 _ A6.out).mono ?_); rintro e w13 ⟨rfl, hb⟩; refine ⟨_, rfl, ?_⟩; have n0_ := Aside0.mk (blk_below (g := gb298) (o := .cells #[.int .u8 a0_0, .int .u16 a0_1, .int .u32 a0_2, .int .u32 a0_3, .string a0_4] 26 (0, 0)) (by (with_reducible repeat (first | refine blk_drewN ?_ _ | refine blk_drew ?_ | refine blk_alloc ?_ _)); exact BK298.out) hb); have n1_ := Aside0.mk (blk_below (g := gb299) (o := .cells #[.int .u8 a1_0, .int .u32 a1_1, .string a1_2, .int .u32 a1_3] 37 (0, 0)) (by (with_reducible repeat (first | refine blk_drewN ?_ _ | refine blk_drew ?_ | refine blk_alloc ?_ _)); exact BK299.out) hb); have n2_ := Aside0.mk (below_step (by repeat (first | (with_reducible first | exact HB.out | apply below_alloc | apply pw_below_drewN | apply below_drew1 | refine below_set ?_ GE298.out | refine below_set ?_ GE299.out) | exact HB.out)) hb); clear BK298; clear BK299; clear HB; have BK298 := n0_; have BK299 := n1_; have HB := n2_; clear n0_ n1_ n2_; (try clear hb); (try clear hb2); (try clear hk); (try clear hi)))
    (try simp only [Act.put, List.setIfInBounds_toArray, List.set_cons_zero, List.set_cons_succ])
    go_cut [] (fun wc => ∃ (kq : Nat), Aside0 (cambiumlaw12_InodeBack.j0 kq a2 a1_0 a1_1 a1_2 a1_3 = some r) ∧ Aside0 (kq ≤ k) ∧ Aside0 (wc.heap[gb298]? = some (.cells #[.int .u8 a0_0, .int .u16 a0_1, .int .u32 a0_2, .int .u32 a0_3, .string a0_4] 26 (0, 0))) ∧ Aside0 (wc.heap[gb299]? = some (.cells #[.int .u8 a1_0, .int .u32 a1_1, .string a1_2, .int .u32 a1_3] 37 (0, 0))) ∧ Aside0 (Below w.heap.size w wc))
    case first =>
      have H := HC7.out
      clear HC7
      by_cases c14 : t302 = 0
      · rw [if_pos c14] at H
        have c14b0 : (t302 == 0) = true := beq_iff_eq.mpr c14
        have c14b1 : (t302 != 0) = false := bne_eq_false_iff_eq.mpr c14
        clear c14
        (first | rw [c14b0] | (simp only [i64_w, i32_w]; rw [c14b0]) | skip)
        replace H := Option.bind_eq_some_iff.mp H
        obtain ⟨⟨t303, t304, t305, t306, t307, t308⟩, A150, H⟩ := H
        replace H : (if (!(t303 == a0_0) || (!(t304 == a0_1) || (!(t305 == a0_2) || (!(t306 == a0_3) || (!(t307.toList == a0_4.toList)))))) = true then (some false) else (if t308 = 0 then (cambiumlaw12_InodeBack.j0 k a2 a1_0 a1_1 a1_2 a1_3) else (some false))) = some r := H
        have A15 := Aside0.mk A150
        clear A150
        by_cases c16 : (!(t303 == a0_0) || (!(t304 == a0_1) || (!(t305 == a0_2) || (!(t306 == a0_3) || (!(t307.toList == a0_4.toList)))))) = true
        · rw [if_pos c16] at H
          have c16b0 : (!(t303 == a0_0) || (!(t304 == a0_1) || (!(t305 == a0_2) || (!(t306 == a0_3) || (!(t307.toList == a0_4.toList)))))) = true := c16
          clear c16
          exact absurd ((Option.some.inj H).trans HT_.out) (by simp)
        · rw [if_neg c16] at H
          have c16b0 : (!(t303 == a0_0) || (!(t304 == a0_1) || (!(t305 == a0_2) || (!(t306 == a0_3) || (!(t307.toList == a0_4.toList)))))) = false := by simpa using c16
          clear c16
          by_cases c17 : t308 = 0
          · rw [if_pos c17] at H
            have c17b0 : (t308 == 0) = true := beq_iff_eq.mpr c17
            have c17b1 : (t308 != 0) = false := bne_eq_false_iff_eq.mpr c17
            clear c17
            have H' := Aside0.mk H
            clear H
            go_wp2_with (first | ((with_reducible refine gate_callee (f := 10) rfl ?_); refine goesL_ (some 35) rfl rfl Try.func10 (by kernel_rfl) rfl #[.string t301] rfl (by (try simp only [List.map_toArray, List.map_cons, List.map_nil]); first | done | rfl | (simp only [List.length_drop, List.length_take]; rfl)) ?_; (with_reducible refine (inode_Decode.calls k t301 t303 t304 t305 t306 t307 t308 _ A15.out).mono ?_); rintro e w18 ⟨rfl, hb⟩; refine ⟨_, rfl, ?_⟩; have n0_ := Aside0.mk (blk_below (g := gb298) (o := .cells #[.int .u8 a0_0, .int .u16 a0_1, .int .u32 a0_2, .int .u32 a0_3, .string a0_4] 26 (0, 0)) (by (with_reducible repeat (first | refine blk_drewN ?_ _ | refine blk_drew ?_ | refine blk_alloc ?_ _)); exact BK298.out) hb); have n1_ := Aside0.mk (blk_below (g := gb299) (o := .cells #[.int .u8 a1_0, .int .u32 a1_1, .string a1_2, .int .u32 a1_3] 37 (0, 0)) (by (with_reducible repeat (first | refine blk_drewN ?_ _ | refine blk_drew ?_ | refine blk_alloc ?_ _)); exact BK299.out) hb); have n2_ := Aside0.mk (below_step (by repeat (first | (with_reducible first | exact HB.out | apply below_alloc | apply pw_below_drewN | apply below_drew1 | refine below_set ?_ GE298.out | refine below_set ?_ GE299.out) | exact HB.out)) hb); clear BK298; clear BK299; clear HB; have BK298 := n0_; have BK299 := n1_; have HB := n2_; clear n0_ n1_ n2_; (try clear hb); (try clear hb2); (try clear hk); (try clear hi)) | ((with_reducible refine gate_dst (N := 9) rfl ?_); (try (refine gate_guard (by rfl) ?_; dsimp only)); refine box_event ?hg (N := 9) ?hd (cs := #[.int .u8 0, .int .u16 0, .int .u32 0, .int .u32 0, .string (⟨#[]⟩ : ByteArray)]) (t := 26) ?hr ?_; (case hd => rfl); (case hg => rfl); (case hr => first | (go_simp; done) | (go_simp; rfl)); intro gb309 hg w19 hbox hb; have n0_ := Aside0.mk (blk_below (g := gb298) (o := .cells #[.int .u8 a0_0, .int .u16 a0_1, .int .u32 a0_2, .int .u32 a0_3, .string a0_4] 26 (0, 0)) (by (with_reducible repeat (first | refine blk_drewN ?_ _ | refine blk_drew ?_ | refine blk_alloc ?_ _)); exact BK298.out) hb); have n1_ := Aside0.mk (blk_below (g := gb299) (o := .cells #[.int .u8 a1_0, .int .u32 a1_1, .string a1_2, .int .u32 a1_3] 37 (0, 0)) (by (with_reducible repeat (first | refine blk_drewN ?_ _ | refine blk_drew ?_ | refine blk_alloc ?_ _)); exact BK299.out) hb); have n2_ := Aside0.mk (below_step (by repeat (first | (with_reducible first | exact HB.out | apply below_alloc | apply pw_below_drewN | apply below_drew1 | refine below_set ?_ GE298.out | refine below_set ?_ GE299.out) | exact HB.out)) hb); have n3_ := Aside0.mk (hbox); have n4_ := Aside0.mk ((by rw [hg]; exact (below_size (by repeat (first | (with_reducible first | exact HB.out | apply below_alloc | apply pw_below_drewN | apply below_drew1 | refine below_set ?_ GE298.out | refine below_set ?_ GE299.out) | exact HB.out))) : w.heap.size ≤ gb309)); have n5_ := Aside0.mk ((by rw [hg]; exact (below_size (by repeat (first | (with_reducible first | exact HB.out | apply below_alloc | apply pw_below_drewN | apply below_drew1 | refine below_set ?_ GE298.out | refine below_set ?_ GE299.out) | exact HB.out))) : w.heap.size ≤ gb309)); have n6_ := Aside0.mk ((by rw [hg]; exact Nat.ne_of_lt (blk_lt (g := gb298) (o := .cells #[.int .u8 a0_0, .int .u16 a0_1, .int .u32 a0_2, .int .u32 a0_3, .string a0_4] 26 (0, 0)) (by (with_reducible repeat (first | refine blk_drewN ?_ _ | refine blk_drew ?_ | refine blk_alloc ?_ _)); exact BK298.out)) : gb298 ≠ gb309)); have n7_ := Aside0.mk ((by rw [hg]; exact Nat.ne_of_gt (blk_lt (g := gb298) (o := .cells #[.int .u8 a0_0, .int .u16 a0_1, .int .u32 a0_2, .int .u32 a0_3, .string a0_4] 26 (0, 0)) (by (with_reducible repeat (first | refine blk_drewN ?_ _ | refine blk_drew ?_ | refine blk_alloc ?_ _)); exact BK298.out)) : gb309 ≠ gb298)); have n8_ := Aside0.mk ((by rw [hg]; exact Nat.ne_of_lt (blk_lt (g := gb299) (o := .cells #[.int .u8 a1_0, .int .u32 a1_1, .string a1_2, .int .u32 a1_3] 37 (0, 0)) (by (with_reducible repeat (first | refine blk_drewN ?_ _ | refine blk_drew ?_ | refine blk_alloc ?_ _)); exact BK299.out)) : gb299 ≠ gb309)); have n9_ := Aside0.mk ((by rw [hg]; exact Nat.ne_of_gt (blk_lt (g := gb299) (o := .cells #[.int .u8 a1_0, .int .u32 a1_1, .string a1_2, .int .u32 a1_3] 37 (0, 0)) (by (with_reducible repeat (first | refine blk_drewN ?_ _ | refine blk_drew ?_ | refine blk_alloc ?_ _)); exact BK299.out)) : gb309 ≠ gb299)); clear BK298; clear BK299; clear HB; have BK298 := n0_; have BK299 := n1_; have HB := n2_; have BK309 := n3_; have GW309 := n4_; have GE309 := n5_; have NB298_309 := n6_; have NB309_298 := n7_; have NB299_309 := n8_; have NB309_299 := n9_; clear n0_ n1_ n2_ n3_ n4_ n5_ n6_ n7_ n8_ n9_; clear hb hbox hg; have hnb20 := NB309_298.out; have hnc20 := NB298_309.out; have hnb21 := NB309_299.out; have hnc21 := NB299_309.out; have hcz22_0 : w19.cell? ⟨gb309, 0, none⟩ = some (.int .u8 0) := (blk_cell BK309.out 0).trans rfl; have hcz22_1 : w19.cell? ⟨gb309, 1, none⟩ = some (.int .u16 0) := (blk_cell BK309.out 1).trans rfl; have hcz22_2 : w19.cell? ⟨gb309, 2, none⟩ = some (.int .u32 0) := (blk_cell BK309.out 2).trans rfl; have hcz22_3 : w19.cell? ⟨gb309, 3, none⟩ = some (.int .u32 0) := (blk_cell BK309.out 3).trans rfl; have hcz22_4 : w19.cell? ⟨gb309, 4, none⟩ = some (.string (⟨#[]⟩ : ByteArray)) := (blk_cell BK309.out 4).trans rfl; have hfz22_0 := blk_frozen BK309.out 0; have hfz22_1 := blk_frozen BK309.out 1; have hfz22_2 := blk_frozen BK309.out 2; have hfz22_3 := blk_frozen BK309.out 3; have hfz22_4 := blk_frozen BK309.out 4; have hnb23 := NB298_299.out; have hnc23 := NB299_298.out; have hcz24_0 : w19.cell? ⟨gb298, 0, none⟩ = some (.int .u8 a0_0) := (blk_cell BK298.out 0).trans rfl; have hcz24_1 : w19.cell? ⟨gb298, 1, none⟩ = some (.int .u16 a0_1) := (blk_cell BK298.out 1).trans rfl; have hcz24_2 : w19.cell? ⟨gb298, 2, none⟩ = some (.int .u32 a0_2) := (blk_cell BK298.out 2).trans rfl; have hcz24_3 : w19.cell? ⟨gb298, 3, none⟩ = some (.int .u32 a0_3) := (blk_cell BK298.out 3).trans rfl; have hcz24_4 : w19.cell? ⟨gb298, 4, none⟩ = some (.string a0_4) := (blk_cell BK298.out 4).trans rfl; have hfz24_0 := blk_frozen BK298.out 0; have hfz24_1 := blk_frozen BK298.out 1; have hfz24_2 := blk_frozen BK298.out 2; have hfz24_3 := blk_frozen BK298.out 3; have hfz24_4 := blk_frozen BK298.out 4))
            go_meet
            case rel => exact ⟨_, H', ⟨by first | omega | exact Nat.le_refl _⟩, ⟨by (with_reducible repeat (first | refine blk_drewN ?_ _ | refine blk_drew ?_ | refine blk_alloc ?_ _)); refine blk_far ?_ NB298_309.out _; (with_reducible repeat (first | refine blk_drewN ?_ _ | refine blk_drew ?_ | refine blk_alloc ?_ _)); refine blk_far ?_ NB298_309.out _; (with_reducible repeat (first | refine blk_drewN ?_ _ | refine blk_drew ?_ | refine blk_alloc ?_ _)); refine blk_far ?_ NB298_309.out _; (with_reducible repeat (first | refine blk_drewN ?_ _ | refine blk_drew ?_ | refine blk_alloc ?_ _)); refine blk_far ?_ NB298_309.out _; (with_reducible repeat (first | refine blk_drewN ?_ _ | refine blk_drew ?_ | refine blk_alloc ?_ _)); refine blk_far ?_ NB298_309.out _; (with_reducible repeat (first | refine blk_drewN ?_ _ | refine blk_drew ?_ | refine blk_alloc ?_ _)); exact BK298.out⟩, ⟨by (with_reducible repeat (first | refine blk_drewN ?_ _ | refine blk_drew ?_ | refine blk_alloc ?_ _)); refine blk_far ?_ NB299_309.out _; (with_reducible repeat (first | refine blk_drewN ?_ _ | refine blk_drew ?_ | refine blk_alloc ?_ _)); refine blk_far ?_ NB299_309.out _; (with_reducible repeat (first | refine blk_drewN ?_ _ | refine blk_drew ?_ | refine blk_alloc ?_ _)); refine blk_far ?_ NB299_309.out _; (with_reducible repeat (first | refine blk_drewN ?_ _ | refine blk_drew ?_ | refine blk_alloc ?_ _)); refine blk_far ?_ NB299_309.out _; (with_reducible repeat (first | refine blk_drewN ?_ _ | refine blk_drew ?_ | refine blk_alloc ?_ _)); refine blk_far ?_ NB299_309.out _; (with_reducible repeat (first | refine blk_drewN ?_ _ | refine blk_drew ?_ | refine blk_alloc ?_ _)); exact BK299.out⟩, ⟨by repeat (first | (with_reducible first | exact HB.out | apply below_alloc | apply pw_below_drewN | apply below_drew1 | refine below_set ?_ GE298.out | refine below_set ?_ GE299.out | refine below_set ?_ GE309.out) | exact HB.out)⟩⟩
          · rw [if_neg c17] at H
            have c17b0 : (t308 == 0) = false := beq_eq_false_iff_ne.mpr c17
            have c17b1 : (t308 != 0) = true := bne_iff_ne.mpr c17
            exact absurd ((Option.some.inj H).trans HT_.out) (by simp)
      · rw [if_neg c14] at H
        have c14b0 : (t302 == 0) = false := beq_eq_false_iff_ne.mpr c14
        have c14b1 : (t302 != 0) = true := bne_iff_ne.mpr c14
        (first | rw [c14b0] | (simp only [i64_w, i32_w]; rw [c14b0]) | skip)
        have H' := Aside0.mk H
        clear H
        go_wp2
        go_meet
        case rel => exact ⟨_, H', ⟨by first | omega | exact Nat.le_refl _⟩, ⟨by (with_reducible repeat (first | refine blk_drewN ?_ _ | refine blk_drew ?_ | refine blk_alloc ?_ _)); exact BK298.out⟩, ⟨by (with_reducible repeat (first | refine blk_drewN ?_ _ | refine blk_drew ?_ | refine blk_alloc ?_ _)); exact BK299.out⟩, ⟨by repeat (first | (with_reducible first | exact HB.out | apply below_alloc | apply pw_below_drewN | apply below_drew1 | refine below_set ?_ GE298.out | refine below_set ?_ GE299.out) | exact HB.out)⟩⟩
    case rest =>
      clear HC7
      try clear c1
      try clear c2
      try clear p2
      try clear c5
      try clear c8
      try clear c10
      try clear c11
      try clear c12
      try clear c14
      try clear c14b0
      try clear c14b1
      try clear c16
      try clear c16b0
      try clear c17
      try clear c17b0
      try clear c17b1
      try clear c20
      try clear c21
      try clear c23
      try clear hcz12_0
      try clear hcz12_1
      try clear hcz12_2
      try clear hcz12_3
      try clear hcz12_4
      try clear hcz22_0
      try clear hcz22_1
      try clear hcz22_2
      try clear hcz22_3
      try clear hcz22_4
      try clear hcz24_0
      try clear hcz24_1
      try clear hcz24_2
      try clear hcz24_3
      try clear hcz24_4
      try clear hfz12_0
      try clear hfz12_1
      try clear hfz12_2
      try clear hfz12_3
      try clear hfz12_4
      try clear hfz22_0
      try clear hfz22_1
      try clear hfz22_2
      try clear hfz22_3
      try clear hfz22_4
      try clear hfz24_0
      try clear hfz24_1
      try clear hfz24_2
      try clear hfz24_3
      try clear hfz24_4
      obtain ⟨kq, HA, HJ6, BK298, BK299, HB⟩ := hcut
      cases kq with
      | zero => exact absurd HA.out (by simp [cambiumlaw12_InodeBack.j0])
      | succ kj6 =>
        have H := HA.out
        clear HA
        simp only [cambiumlaw12_InodeBack.j0] at H
        replace H := Option.bind_eq_some_iff.mp H
        obtain ⟨⟨t310, t311⟩, A250, H⟩ := H
        replace H : (if t311 = 0 then ((inode_Prefix.f kj6 a1_0 a1_1).bind fun t312 => ((inode_Parse.f kj6 t310).bind fun bt313 => (if (!(bt313.1 == a1_0) || (!(bt313.2.1 == a1_1) || (!(bt313.2.2.1.toList == a1_2.toList) || (!(bt313.2.2.2.1 == a1_3))))) = true then (some false) else (if bt313.2.2.2.2 = 0 then (if (t312.size : Int) = 5 then (if 5 ≤ (t310.size : Int) then (if (t310.extract 0 5).toList = t312.toList then (cambiumlaw12_InodeBack.j1 kj6 a2) else (some false)) else (none)) else (some false)) else (some false))))) else (cambiumlaw12_InodeBack.j1 kj6 a2)) = some r := H
        have A25 := Aside0.mk A250
        clear A250
        have HC26 := Aside0.mk H
        clear H
        have hnb27 := NB299_298.out
        have hnc27 := NB298_299.out
        have hcz28_0 : wc.cell? ⟨gb299, 0, none⟩ = some (.int .u8 a1_0) := (blk_cell BK299.out 0).trans rfl
        have hcz28_1 : wc.cell? ⟨gb299, 1, none⟩ = some (.int .u32 a1_1) := (blk_cell BK299.out 1).trans rfl
        have hcz28_2 : wc.cell? ⟨gb299, 2, none⟩ = some (.string a1_2) := (blk_cell BK299.out 2).trans rfl
        have hcz28_3 : wc.cell? ⟨gb299, 3, none⟩ = some (.int .u32 a1_3) := (blk_cell BK299.out 3).trans rfl
        have hfz28_0 := blk_frozen BK299.out 0
        have hfz28_1 := blk_frozen BK299.out 1
        have hfz28_2 := blk_frozen BK299.out 2
        have hfz28_3 := blk_frozen BK299.out 3
        go_upto_if 51 with (first | ((with_reducible refine gate_callee (f := 15) rfl ?_); refine goesL_ (some 47) rfl rfl Try.func15 (by kernel_rfl) rfl #[.agg #[.int .u8 a1_0, .int .u32 a1_1, .string a1_2, .int .u32 a1_3]] rfl (by (try simp only [List.map_toArray, List.map_cons, List.map_nil]); first | done | rfl | (simp only [List.length_drop, List.length_take]; rfl)) ?_; (with_reducible refine (inode_Key.calls kj6 a1_0 a1_1 a1_2 a1_3 t310 t311 _ A25.out).mono ?_); rintro e w29 ⟨rfl, hb⟩; refine ⟨_, rfl, ?_⟩; have n0_ := Aside0.mk (blk_below (g := gb298) (o := .cells #[.int .u8 a0_0, .int .u16 a0_1, .int .u32 a0_2, .int .u32 a0_3, .string a0_4] 26 (0, 0)) (by (with_reducible repeat (first | refine blk_drewN ?_ _ | refine blk_drew ?_ | refine blk_alloc ?_ _)); exact BK298.out) hb); have n1_ := Aside0.mk (blk_below (g := gb299) (o := .cells #[.int .u8 a1_0, .int .u32 a1_1, .string a1_2, .int .u32 a1_3] 37 (0, 0)) (by (with_reducible repeat (first | refine blk_drewN ?_ _ | refine blk_drew ?_ | refine blk_alloc ?_ _)); exact BK299.out) hb); have n2_ := Aside0.mk (below_step (by repeat (first | (with_reducible first | exact HB.out | apply below_alloc | apply pw_below_drewN | apply below_drew1 | refine below_set ?_ GE298.out | refine below_set ?_ GE299.out) | exact HB.out)) hb); clear BK298; clear BK299; clear HB; have BK298 := n0_; have BK299 := n1_; have HB := n2_; clear n0_ n1_ n2_; (try clear hb); (try clear hb2); (try clear hk); (try clear hi)))
        (try simp only [Act.put, List.setIfInBounds_toArray, List.set_cons_zero, List.set_cons_succ])
        go_cut [] (fun wc => ∃ (kq : Nat), Aside0 (cambiumlaw12_InodeBack.j1 kq a2 = some r) ∧ Aside0 (kq ≤ kj6) ∧ Aside0 (wc.heap[gb298]? = some (.cells #[.int .u8 a0_0, .int .u16 a0_1, .int .u32 a0_2, .int .u32 a0_3, .string a0_4] 26 (0, 0))) ∧ Aside0 (wc.heap[gb299]? = some (.cells #[.int .u8 a1_0, .int .u32 a1_1, .string a1_2, .int .u32 a1_3] 37 (0, 0))) ∧ Aside0 (Below w.heap.size w wc))
        case first =>
          have H := HC26.out
          clear HC26
          by_cases c30 : t311 = 0
          · rw [if_pos c30] at H
            have c30b0 : (t311 == 0) = true := beq_iff_eq.mpr c30
            have c30b1 : (t311 != 0) = false := bne_eq_false_iff_eq.mpr c30
            clear c30
            (first | rw [c30b0] | (simp only [i64_w, i32_w]; rw [c30b0]) | skip)
            replace H := Option.bind_eq_some_iff.mp H
            obtain ⟨t312, A310, H⟩ := H
            replace H : ((inode_Parse.f kj6 t310).bind fun bt313 => (if (!(bt313.1 == a1_0) || (!(bt313.2.1 == a1_1) || (!(bt313.2.2.1.toList == a1_2.toList) || (!(bt313.2.2.2.1 == a1_3))))) = true then (some false) else (if bt313.2.2.2.2 = 0 then (if (t312.size : Int) = 5 then (if 5 ≤ (t310.size : Int) then (if (t310.extract 0 5).toList = t312.toList then (cambiumlaw12_InodeBack.j1 kj6 a2) else (some false)) else (none)) else (some false)) else (some false)))) = some r := H
            have A31 := Aside0.mk A310
            clear A310
            replace H := Option.bind_eq_some_iff.mp H
            obtain ⟨⟨t313, t314, t315, t316, t317⟩, A320, H⟩ := H
            replace H : (if (!(t313 == a1_0) || (!(t314 == a1_1) || (!(t315.toList == a1_2.toList) || (!(t316 == a1_3))))) = true then (some false) else (if t317 = 0 then (if (t312.size : Int) = 5 then (if 5 ≤ (t310.size : Int) then (if (t310.extract 0 5).toList = t312.toList then (cambiumlaw12_InodeBack.j1 kj6 a2) else (some false)) else (none)) else (some false)) else (some false))) = some r := H
            have A32 := Aside0.mk A320
            clear A320
            by_cases c33 : (!(t313 == a1_0) || (!(t314 == a1_1) || (!(t315.toList == a1_2.toList) || (!(t316 == a1_3))))) = true
            · rw [if_pos c33] at H
              have c33b0 : (!(t313 == a1_0) || (!(t314 == a1_1) || (!(t315.toList == a1_2.toList) || (!(t316 == a1_3))))) = true := c33
              clear c33
              exact absurd ((Option.some.inj H).trans HT_.out) (by simp)
            · rw [if_neg c33] at H
              have c33b0 : (!(t313 == a1_0) || (!(t314 == a1_1) || (!(t315.toList == a1_2.toList) || (!(t316 == a1_3))))) = false := by simpa using c33
              clear c33
              by_cases c34 : t317 = 0
              · rw [if_pos c34] at H
                have c34b0 : (t317 == 0) = true := beq_iff_eq.mpr c34
                have c34b1 : (t317 != 0) = false := bne_eq_false_iff_eq.mpr c34
                clear c34
                by_cases c35 : (t312.size : Int) = 5
                · rw [if_pos c35] at H
                  have c35b0 : ((t312.size : Int) == 5) = true := beq_iff_eq.mpr c35
                  have c35b1 : ((t312.size : Int) != 5) = false := bne_eq_false_iff_eq.mpr c35
                  clear c35
                  by_cases c36 : 5 ≤ (t310.size : Int)
                  · rw [if_pos c36] at H
                    have c36b0 := eq_true c36
                    have c36b1 : decide (5 ≤ (t310.size : Int)) = true := decide_eq_true c36
                    clear c36
                    by_cases c37 : (t310.extract 0 5).toList = t312.toList
                    · rw [if_pos c37] at H
                      have c37b0 : ((t310.extract 0 5).toList == t312.toList) = true := beq_iff_eq.mpr c37
                      have c37b1 : ((t310.extract 0 5).toList != t312.toList) = false := bne_eq_false_iff_eq.mpr c37
                      clear c37
                      have H' := Aside0.mk H
                      clear H
                      have hnb38 := NB299_298.out
                      have hnc38 := NB298_299.out
                      have hcz39_0 : w29.cell? ⟨gb299, 0, none⟩ = some (.int .u8 a1_0) := (blk_cell BK299.out 0).trans rfl
                      have hcz39_1 : w29.cell? ⟨gb299, 1, none⟩ = some (.int .u32 a1_1) := (blk_cell BK299.out 1).trans rfl
                      have hcz39_2 : w29.cell? ⟨gb299, 2, none⟩ = some (.string a1_2) := (blk_cell BK299.out 2).trans rfl
                      have hcz39_3 : w29.cell? ⟨gb299, 3, none⟩ = some (.int .u32 a1_3) := (blk_cell BK299.out 3).trans rfl
                      have hfz39_0 := blk_frozen BK299.out 0
                      have hfz39_1 := blk_frozen BK299.out 1
                      have hfz39_2 := blk_frozen BK299.out 2
                      have hfz39_3 := blk_frozen BK299.out 3
                      go_wp2_with (first | ((with_reducible refine gate_callee (f := 19) rfl ?_); refine goesL_ (some 56) rfl rfl Try.func19 (by kernel_rfl) rfl #[.int .u8 a1_0, .int .u32 a1_1] rfl (by (try simp only [List.map_toArray, List.map_cons, List.map_nil]); first | done | rfl | (simp only [List.length_drop, List.length_take]; rfl)) ?_; (with_reducible refine (inode_Prefix.calls kj6 a1_0 a1_1 t312 _ A31.out).mono ?_); rintro e w40 ⟨rfl, hb⟩; refine ⟨_, rfl, ?_⟩; have n0_ := Aside0.mk (blk_below (g := gb298) (o := .cells #[.int .u8 a0_0, .int .u16 a0_1, .int .u32 a0_2, .int .u32 a0_3, .string a0_4] 26 (0, 0)) (by (with_reducible repeat (first | refine blk_drewN ?_ _ | refine blk_drew ?_ | refine blk_alloc ?_ _)); exact BK298.out) hb); have n1_ := Aside0.mk (blk_below (g := gb299) (o := .cells #[.int .u8 a1_0, .int .u32 a1_1, .string a1_2, .int .u32 a1_3] 37 (0, 0)) (by (with_reducible repeat (first | refine blk_drewN ?_ _ | refine blk_drew ?_ | refine blk_alloc ?_ _)); exact BK299.out) hb); have n2_ := Aside0.mk (below_step (by repeat (first | (with_reducible first | exact HB.out | apply below_alloc | apply pw_below_drewN | apply below_drew1 | refine below_set ?_ GE298.out | refine below_set ?_ GE299.out) | exact HB.out)) hb); clear BK298; clear BK299; clear HB; have BK298 := n0_; have BK299 := n1_; have HB := n2_; clear n0_ n1_ n2_; (try clear hb); (try clear hb2); (try clear hk); (try clear hi)) | ((with_reducible refine gate_callee (f := 17) rfl ?_); refine goesL_ (some 59) rfl rfl Try.func17 (by kernel_rfl) rfl #[.string t310] rfl (by (try simp only [List.map_toArray, List.map_cons, List.map_nil]); first | done | rfl | (simp only [List.length_drop, List.length_take]; rfl)) ?_; (with_reducible refine (inode_Parse.calls kj6 t310 t313 t314 t315 t316 t317 _ A32.out).mono ?_); rintro e w41 ⟨rfl, hb⟩; refine ⟨_, rfl, ?_⟩; have n0_ := Aside0.mk (blk_below (g := gb298) (o := .cells #[.int .u8 a0_0, .int .u16 a0_1, .int .u32 a0_2, .int .u32 a0_3, .string a0_4] 26 (0, 0)) (by (with_reducible repeat (first | refine blk_drewN ?_ _ | refine blk_drew ?_ | refine blk_alloc ?_ _)); exact BK298.out) hb); have n1_ := Aside0.mk (blk_below (g := gb299) (o := .cells #[.int .u8 a1_0, .int .u32 a1_1, .string a1_2, .int .u32 a1_3] 37 (0, 0)) (by (with_reducible repeat (first | refine blk_drewN ?_ _ | refine blk_drew ?_ | refine blk_alloc ?_ _)); exact BK299.out) hb); have n2_ := Aside0.mk (below_step (by repeat (first | (with_reducible first | exact HB.out | apply below_alloc | apply pw_below_drewN | apply below_drew1 | refine below_set ?_ GE298.out | refine below_set ?_ GE299.out) | exact HB.out)) hb); clear BK298; clear BK299; clear HB; have BK298 := n0_; have BK299 := n1_; have HB := n2_; clear n0_ n1_ n2_; (try clear hb); (try clear hb2); (try clear hk); (try clear hi)) | ((with_reducible refine gate_dst (N := 14) rfl ?_); (try (refine gate_guard (by rfl) ?_; dsimp only)); refine box_event ?hg (N := 14) ?hd (cs := #[.int .u8 0, .int .u32 0, .string (⟨#[]⟩ : ByteArray), .int .u32 0]) (t := 37) ?hr ?_; (case hd => rfl); (case hg => rfl); (case hr => first | (go_simp; done) | (go_simp; rfl)); intro gb318 hg w42 hbox hb; have n0_ := Aside0.mk (blk_below (g := gb298) (o := .cells #[.int .u8 a0_0, .int .u16 a0_1, .int .u32 a0_2, .int .u32 a0_3, .string a0_4] 26 (0, 0)) (by (with_reducible repeat (first | refine blk_drewN ?_ _ | refine blk_drew ?_ | refine blk_alloc ?_ _)); exact BK298.out) hb); have n1_ := Aside0.mk (blk_below (g := gb299) (o := .cells #[.int .u8 a1_0, .int .u32 a1_1, .string a1_2, .int .u32 a1_3] 37 (0, 0)) (by (with_reducible repeat (first | refine blk_drewN ?_ _ | refine blk_drew ?_ | refine blk_alloc ?_ _)); exact BK299.out) hb); have n2_ := Aside0.mk (below_step (by repeat (first | (with_reducible first | exact HB.out | apply below_alloc | apply pw_below_drewN | apply below_drew1 | refine below_set ?_ GE298.out | refine below_set ?_ GE299.out) | exact HB.out)) hb); have n3_ := Aside0.mk (hbox); have n4_ := Aside0.mk ((by rw [hg]; exact (below_size (by repeat (first | (with_reducible first | exact HB.out | apply below_alloc | apply pw_below_drewN | apply below_drew1 | refine below_set ?_ GE298.out | refine below_set ?_ GE299.out) | exact HB.out))) : w.heap.size ≤ gb318)); have n5_ := Aside0.mk ((by rw [hg]; exact (below_size (by repeat (first | (with_reducible first | exact HB.out | apply below_alloc | apply pw_below_drewN | apply below_drew1 | refine below_set ?_ GE298.out | refine below_set ?_ GE299.out) | exact HB.out))) : w.heap.size ≤ gb318)); have n6_ := Aside0.mk ((by rw [hg]; exact Nat.ne_of_lt (blk_lt (g := gb298) (o := .cells #[.int .u8 a0_0, .int .u16 a0_1, .int .u32 a0_2, .int .u32 a0_3, .string a0_4] 26 (0, 0)) (by (with_reducible repeat (first | refine blk_drewN ?_ _ | refine blk_drew ?_ | refine blk_alloc ?_ _)); exact BK298.out)) : gb298 ≠ gb318)); have n7_ := Aside0.mk ((by rw [hg]; exact Nat.ne_of_gt (blk_lt (g := gb298) (o := .cells #[.int .u8 a0_0, .int .u16 a0_1, .int .u32 a0_2, .int .u32 a0_3, .string a0_4] 26 (0, 0)) (by (with_reducible repeat (first | refine blk_drewN ?_ _ | refine blk_drew ?_ | refine blk_alloc ?_ _)); exact BK298.out)) : gb318 ≠ gb298)); have n8_ := Aside0.mk ((by rw [hg]; exact Nat.ne_of_lt (blk_lt (g := gb299) (o := .cells #[.int .u8 a1_0, .int .u32 a1_1, .string a1_2, .int .u32 a1_3] 37 (0, 0)) (by (with_reducible repeat (first | refine blk_drewN ?_ _ | refine blk_drew ?_ | refine blk_alloc ?_ _)); exact BK299.out)) : gb299 ≠ gb318)); have n9_ := Aside0.mk ((by rw [hg]; exact Nat.ne_of_gt (blk_lt (g := gb299) (o := .cells #[.int .u8 a1_0, .int .u32 a1_1, .string a1_2, .int .u32 a1_3] 37 (0, 0)) (by (with_reducible repeat (first | refine blk_drewN ?_ _ | refine blk_drew ?_ | refine blk_alloc ?_ _)); exact BK299.out)) : gb318 ≠ gb299)); clear BK298; clear BK299; clear HB; have BK298 := n0_; have BK299 := n1_; have HB := n2_; have BK318 := n3_; have GW318 := n4_; have GE318 := n5_; have NB298_318 := n6_; have NB318_298 := n7_; have NB299_318 := n8_; have NB318_299 := n9_; clear n0_ n1_ n2_ n3_ n4_ n5_ n6_ n7_ n8_ n9_; clear hb hbox hg; have hnb43 := NB318_298.out; have hnc43 := NB298_318.out; have hnb44 := NB318_299.out; have hnc44 := NB299_318.out; have hcz45_0 : w42.cell? ⟨gb318, 0, none⟩ = some (.int .u8 0) := (blk_cell BK318.out 0).trans rfl; have hcz45_1 : w42.cell? ⟨gb318, 1, none⟩ = some (.int .u32 0) := (blk_cell BK318.out 1).trans rfl; have hcz45_2 : w42.cell? ⟨gb318, 2, none⟩ = some (.string (⟨#[]⟩ : ByteArray)) := (blk_cell BK318.out 2).trans rfl; have hcz45_3 : w42.cell? ⟨gb318, 3, none⟩ = some (.int .u32 0) := (blk_cell BK318.out 3).trans rfl; have hfz45_0 := blk_frozen BK318.out 0; have hfz45_1 := blk_frozen BK318.out 1; have hfz45_2 := blk_frozen BK318.out 2; have hfz45_3 := blk_frozen BK318.out 3; have hcz46_0 : w42.cell? ⟨gb299, 0, none⟩ = some (.int .u8 a1_0) := (blk_cell BK299.out 0).trans rfl; have hcz46_1 : w42.cell? ⟨gb299, 1, none⟩ = some (.int .u32 a1_1) := (blk_cell BK299.out 1).trans rfl; have hcz46_2 : w42.cell? ⟨gb299, 2, none⟩ = some (.string a1_2) := (blk_cell BK299.out 2).trans rfl; have hcz46_3 : w42.cell? ⟨gb299, 3, none⟩ = some (.int .u32 a1_3) := (blk_cell BK299.out 3).trans rfl; have hfz46_0 := blk_frozen BK299.out 0; have hfz46_1 := blk_frozen BK299.out 1; have hfz46_2 := blk_frozen BK299.out 2; have hfz46_3 := blk_frozen BK299.out 3))
                      go_meet
                      case rel => exact ⟨_, H', ⟨by have := HJ6.out; first | omega | exact Nat.le_refl _⟩, ⟨by (with_reducible repeat (first | refine blk_drewN ?_ _ | refine blk_drew ?_ | refine blk_alloc ?_ _)); refine blk_far ?_ NB298_318.out _; (with_reducible repeat (first | refine blk_drewN ?_ _ | refine blk_drew ?_ | refine blk_alloc ?_ _)); refine blk_far ?_ NB298_318.out _; (with_reducible repeat (first | refine blk_drewN ?_ _ | refine blk_drew ?_ | refine blk_alloc ?_ _)); refine blk_far ?_ NB298_318.out _; (with_reducible repeat (first | refine blk_drewN ?_ _ | refine blk_drew ?_ | refine blk_alloc ?_ _)); refine blk_far ?_ NB298_318.out _; (with_reducible repeat (first | refine blk_drewN ?_ _ | refine blk_drew ?_ | refine blk_alloc ?_ _)); exact BK298.out⟩, ⟨by (with_reducible repeat (first | refine blk_drewN ?_ _ | refine blk_drew ?_ | refine blk_alloc ?_ _)); refine blk_far ?_ NB299_318.out _; (with_reducible repeat (first | refine blk_drewN ?_ _ | refine blk_drew ?_ | refine blk_alloc ?_ _)); refine blk_far ?_ NB299_318.out _; (with_reducible repeat (first | refine blk_drewN ?_ _ | refine blk_drew ?_ | refine blk_alloc ?_ _)); refine blk_far ?_ NB299_318.out _; (with_reducible repeat (first | refine blk_drewN ?_ _ | refine blk_drew ?_ | refine blk_alloc ?_ _)); refine blk_far ?_ NB299_318.out _; (with_reducible repeat (first | refine blk_drewN ?_ _ | refine blk_drew ?_ | refine blk_alloc ?_ _)); exact BK299.out⟩, ⟨by repeat (first | (with_reducible first | exact HB.out | apply below_alloc | apply pw_below_drewN | apply below_drew1 | refine below_set ?_ GE298.out | refine below_set ?_ GE299.out | refine below_set ?_ GE318.out) | exact HB.out)⟩⟩
                    · rw [if_neg c37] at H
                      have c37b0 : ((t310.extract 0 5).toList == t312.toList) = false := beq_eq_false_iff_ne.mpr c37
                      have c37b1 : ((t310.extract 0 5).toList != t312.toList) = true := bne_iff_ne.mpr c37
                      exact absurd ((Option.some.inj H).trans HT_.out) (by simp)
                  · rw [if_neg c36] at H
                    exact absurd H (by simp)
                · rw [if_neg c35] at H
                  have c35b0 : ((t312.size : Int) == 5) = false := beq_eq_false_iff_ne.mpr c35
                  have c35b1 : ((t312.size : Int) != 5) = true := bne_iff_ne.mpr c35
                  exact absurd ((Option.some.inj H).trans HT_.out) (by simp)
              · rw [if_neg c34] at H
                have c34b0 : (t317 == 0) = false := beq_eq_false_iff_ne.mpr c34
                have c34b1 : (t317 != 0) = true := bne_iff_ne.mpr c34
                exact absurd ((Option.some.inj H).trans HT_.out) (by simp)
          · rw [if_neg c30] at H
            have c30b0 : (t311 == 0) = false := beq_eq_false_iff_ne.mpr c30
            have c30b1 : (t311 != 0) = true := bne_iff_ne.mpr c30
            (first | rw [c30b0] | (simp only [i64_w, i32_w]; rw [c30b0]) | skip)
            have H' := Aside0.mk H
            clear H
            go_wp2
            go_meet
            case rel => exact ⟨_, H', ⟨by have := HJ6.out; first | omega | exact Nat.le_refl _⟩, ⟨by (with_reducible repeat (first | refine blk_drewN ?_ _ | refine blk_drew ?_ | refine blk_alloc ?_ _)); exact BK298.out⟩, ⟨by (with_reducible repeat (first | refine blk_drewN ?_ _ | refine blk_drew ?_ | refine blk_alloc ?_ _)); exact BK299.out⟩, ⟨by repeat (first | (with_reducible first | exact HB.out | apply below_alloc | apply pw_below_drewN | apply below_drew1 | refine below_set ?_ GE298.out | refine below_set ?_ GE299.out) | exact HB.out)⟩⟩
        case rest =>
          clear HC26
          try clear c1
          try clear c2
          try clear p2
          try clear c3
          try clear c4
          try clear c5
          try clear c8
          try clear c10
          try clear c11
          try clear c12
          try clear c14
          try clear c14b0
          try clear c14b1
          try clear c15
          try clear c16
          try clear c16b0
          try clear c17
          try clear c17b0
          try clear c17b1
          try clear c19
          try clear c20
          try clear c21
          try clear c23
          try clear c27
          try clear c30
          try clear c30b0
          try clear c30b1
          try clear c33
          try clear c33b0
          try clear c34
          try clear c34b0
          try clear c34b1
          try clear c35
          try clear c35b0
          try clear c35b1
          try clear c36
          try clear c36b0
          try clear c36b1
          try clear c37
          try clear c37b0
          try clear c37b1
          try clear c38
          try clear c43
          try clear c44
          try clear hcz12_0
          try clear hcz12_1
          try clear hcz12_2
          try clear hcz12_3
          try clear hcz12_4
          try clear hcz22_0
          try clear hcz22_1
          try clear hcz22_2
          try clear hcz22_3
          try clear hcz22_4
          try clear hcz24_0
          try clear hcz24_1
          try clear hcz24_2
          try clear hcz24_3
          try clear hcz24_4
          try clear hcz28_0
          try clear hcz28_1
          try clear hcz28_2
          try clear hcz28_3
          try clear hcz39_0
          try clear hcz39_1
          try clear hcz39_2
          try clear hcz39_3
          try clear hcz45_0
          try clear hcz45_1
          try clear hcz45_2
          try clear hcz45_3
          try clear hcz46_0
          try clear hcz46_1
          try clear hcz46_2
          try clear hcz46_3
          try clear hfz12_0
          try clear hfz12_1
          try clear hfz12_2
          try clear hfz12_3
          try clear hfz12_4
          try clear hfz22_0
          try clear hfz22_1
          try clear hfz22_2
          try clear hfz22_3
          try clear hfz22_4
          try clear hfz24_0
          try clear hfz24_1
          try clear hfz24_2
          try clear hfz24_3
          try clear hfz24_4
          try clear hfz28_0
          try clear hfz28_1
          try clear hfz28_2
          try clear hfz28_3
          try clear hfz39_0
          try clear hfz39_1
          try clear hfz39_2
          try clear hfz39_3
          try clear hfz45_0
          try clear hfz45_1
          try clear hfz45_2
          try clear hfz45_3
          try clear hfz46_0
          try clear hfz46_1
          try clear hfz46_2
          try clear hfz46_3
          try clear p2
          obtain ⟨kq, HA, HJ25, BK298, BK299, HB⟩ := hcut
          cases kq with
          | zero => exact absurd HA.out (by simp [cambiumlaw12_InodeBack.j1])
          | succ kj25 =>
            have H := HA.out
            clear HA
            simp only [cambiumlaw12_InodeBack.j1] at H
            replace H := Option.bind_eq_some_iff.mp H
            obtain ⟨⟨t319, t320, t321, t322, t323, t324⟩, A470, H⟩ := H
            replace H : (if t324 = 0 then ((inode_Encode.f kj25 t319 t320 t321 t322 t323).bind fun bt326 => (if bt326.1.toList = a2.toList then (if bt326.2 = 0 then (cambiumlaw12_InodeBack.j2 kj25 a2) else (some false)) else (some false))) else (cambiumlaw12_InodeBack.j2 kj25 a2)) = some r := H
            have A47 := Aside0.mk A470
            clear A470
            have HC48 := Aside0.mk H
            clear H
            go_upto_if 86 with (first | ((with_reducible refine gate_callee (f := 10) rfl ?_); refine goesL_ (some 82) rfl rfl Try.func10 (by kernel_rfl) rfl #[.string a2] rfl (by (try simp only [List.map_toArray, List.map_cons, List.map_nil]); first | done | rfl | (simp only [List.length_drop, List.length_take]; rfl)) ?_; (with_reducible refine (inode_Decode.calls kj25 a2 t319 t320 t321 t322 t323 t324 _ A47.out).mono ?_); rintro e w49 ⟨rfl, hb⟩; refine ⟨_, rfl, ?_⟩; have n0_ := Aside0.mk (blk_below (g := gb298) (o := .cells #[.int .u8 a0_0, .int .u16 a0_1, .int .u32 a0_2, .int .u32 a0_3, .string a0_4] 26 (0, 0)) (by (with_reducible repeat (first | refine blk_drewN ?_ _ | refine blk_drew ?_ | refine blk_alloc ?_ _)); exact BK298.out) hb); have n1_ := Aside0.mk (blk_below (g := gb299) (o := .cells #[.int .u8 a1_0, .int .u32 a1_1, .string a1_2, .int .u32 a1_3] 37 (0, 0)) (by (with_reducible repeat (first | refine blk_drewN ?_ _ | refine blk_drew ?_ | refine blk_alloc ?_ _)); exact BK299.out) hb); have n2_ := Aside0.mk (below_step (by repeat (first | (with_reducible first | exact HB.out | apply below_alloc | apply pw_below_drewN | apply below_drew1 | refine below_set ?_ GE298.out | refine below_set ?_ GE299.out) | exact HB.out)) hb); clear BK298; clear BK299; clear HB; have BK298 := n0_; have BK299 := n1_; have HB := n2_; clear n0_ n1_ n2_; (try clear hb); (try clear hb2); (try clear hk); (try clear hi)) | ((with_reducible refine gate_dst (N := 16) rfl ?_); (try (refine gate_guard (by rfl) ?_; dsimp only)); refine box_event ?hg (N := 16) ?hd (cs := #[.int .u8 0, .int .u16 0, .int .u32 0, .int .u32 0, .string (⟨#[]⟩ : ByteArray)]) (t := 26) ?hr ?_; (case hd => rfl); (case hg => rfl); (case hr => first | (go_simp; done) | (go_simp; rfl)); intro gb325 hg w50 hbox hb; have n0_ := Aside0.mk (blk_below (g := gb298) (o := .cells #[.int .u8 a0_0, .int .u16 a0_1, .int .u32 a0_2, .int .u32 a0_3, .string a0_4] 26 (0, 0)) (by (with_reducible repeat (first | refine blk_drewN ?_ _ | refine blk_drew ?_ | refine blk_alloc ?_ _)); exact BK298.out) hb); have n1_ := Aside0.mk (blk_below (g := gb299) (o := .cells #[.int .u8 a1_0, .int .u32 a1_1, .string a1_2, .int .u32 a1_3] 37 (0, 0)) (by (with_reducible repeat (first | refine blk_drewN ?_ _ | refine blk_drew ?_ | refine blk_alloc ?_ _)); exact BK299.out) hb); have n2_ := Aside0.mk (below_step (by repeat (first | (with_reducible first | exact HB.out | apply below_alloc | apply pw_below_drewN | apply below_drew1 | refine below_set ?_ GE298.out | refine below_set ?_ GE299.out) | exact HB.out)) hb); have n3_ := Aside0.mk (hbox); have n4_ := Aside0.mk ((by rw [hg]; exact (below_size (by repeat (first | (with_reducible first | exact HB.out | apply below_alloc | apply pw_below_drewN | apply below_drew1 | refine below_set ?_ GE298.out | refine below_set ?_ GE299.out) | exact HB.out))) : w.heap.size ≤ gb325)); have n5_ := Aside0.mk ((by rw [hg]; exact (below_size (by repeat (first | (with_reducible first | exact HB.out | apply below_alloc | apply pw_below_drewN | apply below_drew1 | refine below_set ?_ GE298.out | refine below_set ?_ GE299.out) | exact HB.out))) : w.heap.size ≤ gb325)); have n6_ := Aside0.mk ((by rw [hg]; exact Nat.ne_of_lt (blk_lt (g := gb298) (o := .cells #[.int .u8 a0_0, .int .u16 a0_1, .int .u32 a0_2, .int .u32 a0_3, .string a0_4] 26 (0, 0)) (by (with_reducible repeat (first | refine blk_drewN ?_ _ | refine blk_drew ?_ | refine blk_alloc ?_ _)); exact BK298.out)) : gb298 ≠ gb325)); have n7_ := Aside0.mk ((by rw [hg]; exact Nat.ne_of_gt (blk_lt (g := gb298) (o := .cells #[.int .u8 a0_0, .int .u16 a0_1, .int .u32 a0_2, .int .u32 a0_3, .string a0_4] 26 (0, 0)) (by (with_reducible repeat (first | refine blk_drewN ?_ _ | refine blk_drew ?_ | refine blk_alloc ?_ _)); exact BK298.out)) : gb325 ≠ gb298)); have n8_ := Aside0.mk ((by rw [hg]; exact Nat.ne_of_lt (blk_lt (g := gb299) (o := .cells #[.int .u8 a1_0, .int .u32 a1_1, .string a1_2, .int .u32 a1_3] 37 (0, 0)) (by (with_reducible repeat (first | refine blk_drewN ?_ _ | refine blk_drew ?_ | refine blk_alloc ?_ _)); exact BK299.out)) : gb299 ≠ gb325)); have n9_ := Aside0.mk ((by rw [hg]; exact Nat.ne_of_gt (blk_lt (g := gb299) (o := .cells #[.int .u8 a1_0, .int .u32 a1_1, .string a1_2, .int .u32 a1_3] 37 (0, 0)) (by (with_reducible repeat (first | refine blk_drewN ?_ _ | refine blk_drew ?_ | refine blk_alloc ?_ _)); exact BK299.out)) : gb325 ≠ gb299)); clear BK298; clear BK299; clear HB; have BK298 := n0_; have BK299 := n1_; have HB := n2_; have BK325 := n3_; have GW325 := n4_; have GE325 := n5_; have NB298_325 := n6_; have NB325_298 := n7_; have NB299_325 := n8_; have NB325_299 := n9_; clear n0_ n1_ n2_ n3_ n4_ n5_ n6_ n7_ n8_ n9_; clear hb hbox hg; have hnb51 := NB325_298.out; have hnc51 := NB298_325.out; have hnb52 := NB325_299.out; have hnc52 := NB299_325.out; have hcz53_0 : w50.cell? ⟨gb325, 0, none⟩ = some (.int .u8 0) := (blk_cell BK325.out 0).trans rfl; have hcz53_1 : w50.cell? ⟨gb325, 1, none⟩ = some (.int .u16 0) := (blk_cell BK325.out 1).trans rfl; have hcz53_2 : w50.cell? ⟨gb325, 2, none⟩ = some (.int .u32 0) := (blk_cell BK325.out 2).trans rfl; have hcz53_3 : w50.cell? ⟨gb325, 3, none⟩ = some (.int .u32 0) := (blk_cell BK325.out 3).trans rfl; have hcz53_4 : w50.cell? ⟨gb325, 4, none⟩ = some (.string (⟨#[]⟩ : ByteArray)) := (blk_cell BK325.out 4).trans rfl; have hfz53_0 := blk_frozen BK325.out 0; have hfz53_1 := blk_frozen BK325.out 1; have hfz53_2 := blk_frozen BK325.out 2; have hfz53_3 := blk_frozen BK325.out 3; have hfz53_4 := blk_frozen BK325.out 4))
            (try simp only [Act.put, List.setIfInBounds_toArray, List.set_cons_zero, List.set_cons_succ])
            go_cut [] (fun wc => ∃ (kq : Nat), Aside0 (cambiumlaw12_InodeBack.j2 kq a2 = some r) ∧ Aside0 (kq ≤ kj25) ∧ Aside0 (wc.heap[gb298]? = some (.cells #[.int .u8 a0_0, .int .u16 a0_1, .int .u32 a0_2, .int .u32 a0_3, .string a0_4] 26 (0, 0))) ∧ Aside0 (wc.heap[gb299]? = some (.cells #[.int .u8 a1_0, .int .u32 a1_1, .string a1_2, .int .u32 a1_3] 37 (0, 0))) ∧ Aside0 (wc.heap[gb325]? = some (.cells #[.int .u8 t319, .int .u16 t320, .int .u32 t321, .int .u32 t322, .string t323] 26 (0, 0))) ∧ Aside0 (Below w.heap.size w wc))
            case first =>
              have H := HC48.out
              clear HC48
              by_cases c54 : t324 = 0
              · rw [if_pos c54] at H
                have c54b0 : (t324 == 0) = true := beq_iff_eq.mpr c54
                have c54b1 : (t324 != 0) = false := bne_eq_false_iff_eq.mpr c54
                clear c54
                (first | rw [c54b0] | (simp only [i64_w, i32_w]; rw [c54b0]) | skip)
                replace H := Option.bind_eq_some_iff.mp H
                obtain ⟨⟨t326, t327⟩, A550, H⟩ := H
                replace H : (if t326.toList = a2.toList then (if t327 = 0 then (cambiumlaw12_InodeBack.j2 kj25 a2) else (some false)) else (some false)) = some r := H
                have A55 := Aside0.mk A550
                clear A550
                by_cases c56 : t326.toList = a2.toList
                · rw [if_pos c56] at H
                  have c56b0 : (t326.toList == a2.toList) = true := beq_iff_eq.mpr c56
                  have c56b1 : (t326.toList != a2.toList) = false := bne_eq_false_iff_eq.mpr c56
                  clear c56
                  by_cases c57 : t327 = 0
                  · rw [if_pos c57] at H
                    have c57b0 : (t327 == 0) = true := beq_iff_eq.mpr c57
                    have c57b1 : (t327 != 0) = false := bne_eq_false_iff_eq.mpr c57
                    clear c57
                    have H' := Aside0.mk H
                    clear H
                    have hnb58 := NB325_298.out
                    have hnc58 := NB298_325.out
                    have hnb59 := NB325_299.out
                    have hnc59 := NB299_325.out
                    have hcz60_0 : w50.cell? ⟨gb325, 0, none⟩ = some (.int .u8 0) := (blk_cell BK325.out 0).trans rfl
                    have hcz60_1 : w50.cell? ⟨gb325, 1, none⟩ = some (.int .u16 0) := (blk_cell BK325.out 1).trans rfl
                    have hcz60_2 : w50.cell? ⟨gb325, 2, none⟩ = some (.int .u32 0) := (blk_cell BK325.out 2).trans rfl
                    have hcz60_3 : w50.cell? ⟨gb325, 3, none⟩ = some (.int .u32 0) := (blk_cell BK325.out 3).trans rfl
                    have hcz60_4 : w50.cell? ⟨gb325, 4, none⟩ = some (.string (⟨#[]⟩ : ByteArray)) := (blk_cell BK325.out 4).trans rfl
                    have hfz60_0 := blk_frozen BK325.out 0
                    have hfz60_1 := blk_frozen BK325.out 1
                    have hfz60_2 := blk_frozen BK325.out 2
                    have hfz60_3 := blk_frozen BK325.out 3
                    have hfz60_4 := blk_frozen BK325.out 4
                    go_wp2_with (first | ((with_reducible refine gate_callee (f := 8) rfl ?_); refine goesL_ (some 89) rfl rfl Try.func8 (by kernel_rfl) rfl #[.agg #[.int .u8 t319, .int .u16 t320, .int .u32 t321, .int .u32 t322, .string t323]] rfl (by (try simp only [List.map_toArray, List.map_cons, List.map_nil]); first | done | rfl | (simp only [List.length_drop, List.length_take]; rfl)) ?_; (with_reducible refine (inode_Encode.calls kj25 t319 t320 t321 t322 t323 t326 t327 _ A55.out).mono ?_); rintro e w61 ⟨rfl, hb⟩; refine ⟨_, rfl, ?_⟩; have n0_ := Aside0.mk (blk_below (g := gb298) (o := .cells #[.int .u8 a0_0, .int .u16 a0_1, .int .u32 a0_2, .int .u32 a0_3, .string a0_4] 26 (0, 0)) (by (with_reducible repeat (first | refine blk_drewN ?_ _ | refine blk_drew ?_ | refine blk_alloc ?_ _)); refine blk_far ?_ NB298_325.out _; (with_reducible repeat (first | refine blk_drewN ?_ _ | refine blk_drew ?_ | refine blk_alloc ?_ _)); refine blk_far ?_ NB298_325.out _; (with_reducible repeat (first | refine blk_drewN ?_ _ | refine blk_drew ?_ | refine blk_alloc ?_ _)); refine blk_far ?_ NB298_325.out _; (with_reducible repeat (first | refine blk_drewN ?_ _ | refine blk_drew ?_ | refine blk_alloc ?_ _)); refine blk_far ?_ NB298_325.out _; (with_reducible repeat (first | refine blk_drewN ?_ _ | refine blk_drew ?_ | refine blk_alloc ?_ _)); refine blk_far ?_ NB298_325.out _; (with_reducible repeat (first | refine blk_drewN ?_ _ | refine blk_drew ?_ | refine blk_alloc ?_ _)); exact BK298.out) hb); have n1_ := Aside0.mk (blk_below (g := gb299) (o := .cells #[.int .u8 a1_0, .int .u32 a1_1, .string a1_2, .int .u32 a1_3] 37 (0, 0)) (by (with_reducible repeat (first | refine blk_drewN ?_ _ | refine blk_drew ?_ | refine blk_alloc ?_ _)); refine blk_far ?_ NB299_325.out _; (with_reducible repeat (first | refine blk_drewN ?_ _ | refine blk_drew ?_ | refine blk_alloc ?_ _)); refine blk_far ?_ NB299_325.out _; (with_reducible repeat (first | refine blk_drewN ?_ _ | refine blk_drew ?_ | refine blk_alloc ?_ _)); refine blk_far ?_ NB299_325.out _; (with_reducible repeat (first | refine blk_drewN ?_ _ | refine blk_drew ?_ | refine blk_alloc ?_ _)); refine blk_far ?_ NB299_325.out _; (with_reducible repeat (first | refine blk_drewN ?_ _ | refine blk_drew ?_ | refine blk_alloc ?_ _)); refine blk_far ?_ NB299_325.out _; (with_reducible repeat (first | refine blk_drewN ?_ _ | refine blk_drew ?_ | refine blk_alloc ?_ _)); exact BK299.out) hb); have n2_ := Aside0.mk (blk_below (g := gb325) (o := .cells #[.int .u8 t319, .int .u16 t320, .int .u32 t321, .int .u32 t322, .string t323] 26 (0, 0)) (by (with_reducible repeat (first | refine blk_drewN ?_ _ | refine blk_drew ?_ | refine blk_alloc ?_ _)); refine blk_put (cs := #[.int .u8 t319, .int .u16 t320, .int .u32 t321, .int .u32 t322, .string (⟨#[]⟩ : ByteArray)]) ?_ 4 _ rfl; (with_reducible repeat (first | refine blk_drewN ?_ _ | refine blk_drew ?_ | refine blk_alloc ?_ _)); refine blk_put (cs := #[.int .u8 t319, .int .u16 t320, .int .u32 t321, .int .u32 0, .string (⟨#[]⟩ : ByteArray)]) ?_ 3 _ rfl; (with_reducible repeat (first | refine blk_drewN ?_ _ | refine blk_drew ?_ | refine blk_alloc ?_ _)); refine blk_put (cs := #[.int .u8 t319, .int .u16 t320, .int .u32 0, .int .u32 0, .string (⟨#[]⟩ : ByteArray)]) ?_ 2 _ rfl; (with_reducible repeat (first | refine blk_drewN ?_ _ | refine blk_drew ?_ | refine blk_alloc ?_ _)); refine blk_put (cs := #[.int .u8 t319, .int .u16 0, .int .u32 0, .int .u32 0, .string (⟨#[]⟩ : ByteArray)]) ?_ 1 _ rfl; (with_reducible repeat (first | refine blk_drewN ?_ _ | refine blk_drew ?_ | refine blk_alloc ?_ _)); refine blk_put (cs := #[.int .u8 0, .int .u16 0, .int .u32 0, .int .u32 0, .string (⟨#[]⟩ : ByteArray)]) ?_ 0 _ rfl; (with_reducible repeat (first | refine blk_drewN ?_ _ | refine blk_drew ?_ | refine blk_alloc ?_ _)); exact BK325.out) hb); have n3_ := Aside0.mk (below_step (by repeat (first | (with_reducible first | exact HB.out | apply below_alloc | apply pw_below_drewN | apply below_drew1 | refine below_set ?_ GE298.out | refine below_set ?_ GE299.out | refine below_set ?_ GE325.out) | exact HB.out)) hb); clear BK298; clear BK299; clear BK325; clear HB; have BK298 := n0_; have BK299 := n1_; have BK325 := n2_; have HB := n3_; clear n0_ n1_ n2_ n3_; (try clear hb); (try clear hb2); (try clear hk); (try clear hi)))
                    go_meet
                    case rel => exact ⟨_, H', ⟨by have := HJ6.out; have := HJ25.out; first | omega | exact Nat.le_refl _⟩, ⟨by (with_reducible repeat (first | refine blk_drewN ?_ _ | refine blk_drew ?_ | refine blk_alloc ?_ _)); exact BK298.out⟩, ⟨by (with_reducible repeat (first | refine blk_drewN ?_ _ | refine blk_drew ?_ | refine blk_alloc ?_ _)); exact BK299.out⟩, ⟨by (with_reducible repeat (first | refine blk_drewN ?_ _ | refine blk_drew ?_ | refine blk_alloc ?_ _)); exact BK325.out⟩, ⟨by repeat (first | (with_reducible first | exact HB.out | apply below_alloc | apply pw_below_drewN | apply below_drew1 | refine below_set ?_ GE298.out | refine below_set ?_ GE299.out | refine below_set ?_ GE325.out) | exact HB.out)⟩⟩
                  · rw [if_neg c57] at H
                    have c57b0 : (t327 == 0) = false := beq_eq_false_iff_ne.mpr c57
                    have c57b1 : (t327 != 0) = true := bne_iff_ne.mpr c57
                    exact absurd ((Option.some.inj H).trans HT_.out) (by simp)
                · rw [if_neg c56] at H
                  have c56b0 : (t326.toList == a2.toList) = false := beq_eq_false_iff_ne.mpr c56
                  have c56b1 : (t326.toList != a2.toList) = true := bne_iff_ne.mpr c56
                  exact absurd ((Option.some.inj H).trans HT_.out) (by simp)
              · rw [if_neg c54] at H
                have c54b0 : (t324 == 0) = false := beq_eq_false_iff_ne.mpr c54
                have c54b1 : (t324 != 0) = true := bne_iff_ne.mpr c54
                (first | rw [c54b0] | (simp only [i64_w, i32_w]; rw [c54b0]) | skip)
                have H' := Aside0.mk H
                clear H
                go_wp2
                go_meet
                case rel => exact ⟨_, H', ⟨by have := HJ6.out; have := HJ25.out; first | omega | exact Nat.le_refl _⟩, ⟨by (with_reducible repeat (first | refine blk_drewN ?_ _ | refine blk_drew ?_ | refine blk_alloc ?_ _)); refine blk_far ?_ NB298_325.out _; (with_reducible repeat (first | refine blk_drewN ?_ _ | refine blk_drew ?_ | refine blk_alloc ?_ _)); refine blk_far ?_ NB298_325.out _; (with_reducible repeat (first | refine blk_drewN ?_ _ | refine blk_drew ?_ | refine blk_alloc ?_ _)); refine blk_far ?_ NB298_325.out _; (with_reducible repeat (first | refine blk_drewN ?_ _ | refine blk_drew ?_ | refine blk_alloc ?_ _)); refine blk_far ?_ NB298_325.out _; (with_reducible repeat (first | refine blk_drewN ?_ _ | refine blk_drew ?_ | refine blk_alloc ?_ _)); refine blk_far ?_ NB298_325.out _; (with_reducible repeat (first | refine blk_drewN ?_ _ | refine blk_drew ?_ | refine blk_alloc ?_ _)); exact BK298.out⟩, ⟨by (with_reducible repeat (first | refine blk_drewN ?_ _ | refine blk_drew ?_ | refine blk_alloc ?_ _)); refine blk_far ?_ NB299_325.out _; (with_reducible repeat (first | refine blk_drewN ?_ _ | refine blk_drew ?_ | refine blk_alloc ?_ _)); refine blk_far ?_ NB299_325.out _; (with_reducible repeat (first | refine blk_drewN ?_ _ | refine blk_drew ?_ | refine blk_alloc ?_ _)); refine blk_far ?_ NB299_325.out _; (with_reducible repeat (first | refine blk_drewN ?_ _ | refine blk_drew ?_ | refine blk_alloc ?_ _)); refine blk_far ?_ NB299_325.out _; (with_reducible repeat (first | refine blk_drewN ?_ _ | refine blk_drew ?_ | refine blk_alloc ?_ _)); refine blk_far ?_ NB299_325.out _; (with_reducible repeat (first | refine blk_drewN ?_ _ | refine blk_drew ?_ | refine blk_alloc ?_ _)); exact BK299.out⟩, ⟨by (with_reducible repeat (first | refine blk_drewN ?_ _ | refine blk_drew ?_ | refine blk_alloc ?_ _)); refine blk_put (cs := #[.int .u8 t319, .int .u16 t320, .int .u32 t321, .int .u32 t322, .string (⟨#[]⟩ : ByteArray)]) ?_ 4 _ rfl; (with_reducible repeat (first | refine blk_drewN ?_ _ | refine blk_drew ?_ | refine blk_alloc ?_ _)); refine blk_put (cs := #[.int .u8 t319, .int .u16 t320, .int .u32 t321, .int .u32 0, .string (⟨#[]⟩ : ByteArray)]) ?_ 3 _ rfl; (with_reducible repeat (first | refine blk_drewN ?_ _ | refine blk_drew ?_ | refine blk_alloc ?_ _)); refine blk_put (cs := #[.int .u8 t319, .int .u16 t320, .int .u32 0, .int .u32 0, .string (⟨#[]⟩ : ByteArray)]) ?_ 2 _ rfl; (with_reducible repeat (first | refine blk_drewN ?_ _ | refine blk_drew ?_ | refine blk_alloc ?_ _)); refine blk_put (cs := #[.int .u8 t319, .int .u16 0, .int .u32 0, .int .u32 0, .string (⟨#[]⟩ : ByteArray)]) ?_ 1 _ rfl; (with_reducible repeat (first | refine blk_drewN ?_ _ | refine blk_drew ?_ | refine blk_alloc ?_ _)); refine blk_put (cs := #[.int .u8 0, .int .u16 0, .int .u32 0, .int .u32 0, .string (⟨#[]⟩ : ByteArray)]) ?_ 0 _ rfl; (with_reducible repeat (first | refine blk_drewN ?_ _ | refine blk_drew ?_ | refine blk_alloc ?_ _)); exact BK325.out⟩, ⟨by repeat (first | (with_reducible first | exact HB.out | apply below_alloc | apply pw_below_drewN | apply below_drew1 | refine below_set ?_ GE298.out | refine below_set ?_ GE299.out | refine below_set ?_ GE325.out) | exact HB.out)⟩⟩
            case rest =>
              clear HC48
              try clear c1
              try clear c2
              try clear p2
              try clear c3
              try clear c4
              try clear c5
              try clear c8
              try clear c10
              try clear c11
              try clear c12
              try clear c14
              try clear c14b0
              try clear c14b1
              try clear c15
              try clear c16
              try clear c16b0
              try clear c17
              try clear c17b0
              try clear c17b1
              try clear c19
              try clear c20
              try clear c21
              try clear c23
              try clear c27
              try clear c30
              try clear c30b0
              try clear c30b1
              try clear c33
              try clear c33b0
              try clear c34
              try clear c34b0
              try clear c34b1
              try clear c35
              try clear c35b0
              try clear c35b1
              try clear c36
              try clear c36b0
              try clear c36b1
              try clear c37
              try clear c37b0
              try clear c37b1
              try clear c38
              try clear c43
              try clear c44
              try clear c51
              try clear c52
              try clear c54
              try clear c54b0
              try clear c54b1
              try clear c56
              try clear c56b0
              try clear c56b1
              try clear c57
              try clear c57b0
              try clear c57b1
              try clear c58
              try clear c59
              try clear hcz12_0
              try clear hcz12_1
              try clear hcz12_2
              try clear hcz12_3
              try clear hcz12_4
              try clear hcz22_0
              try clear hcz22_1
              try clear hcz22_2
              try clear hcz22_3
              try clear hcz22_4
              try clear hcz24_0
              try clear hcz24_1
              try clear hcz24_2
              try clear hcz24_3
              try clear hcz24_4
              try clear hcz28_0
              try clear hcz28_1
              try clear hcz28_2
              try clear hcz28_3
              try clear hcz39_0
              try clear hcz39_1
              try clear hcz39_2
              try clear hcz39_3
              try clear hcz45_0
              try clear hcz45_1
              try clear hcz45_2
              try clear hcz45_3
              try clear hcz46_0
              try clear hcz46_1
              try clear hcz46_2
              try clear hcz46_3
              try clear hcz53_0
              try clear hcz53_1
              try clear hcz53_2
              try clear hcz53_3
              try clear hcz53_4
              try clear hcz60_0
              try clear hcz60_1
              try clear hcz60_2
              try clear hcz60_3
              try clear hcz60_4
              try clear hfz12_0
              try clear hfz12_1
              try clear hfz12_2
              try clear hfz12_3
              try clear hfz12_4
              try clear hfz22_0
              try clear hfz22_1
              try clear hfz22_2
              try clear hfz22_3
              try clear hfz22_4
              try clear hfz24_0
              try clear hfz24_1
              try clear hfz24_2
              try clear hfz24_3
              try clear hfz24_4
              try clear hfz28_0
              try clear hfz28_1
              try clear hfz28_2
              try clear hfz28_3
              try clear hfz39_0
              try clear hfz39_1
              try clear hfz39_2
              try clear hfz39_3
              try clear hfz45_0
              try clear hfz45_1
              try clear hfz45_2
              try clear hfz45_3
              try clear hfz46_0
              try clear hfz46_1
              try clear hfz46_2
              try clear hfz46_3
              try clear hfz53_0
              try clear hfz53_1
              try clear hfz53_2
              try clear hfz53_3
              try clear hfz53_4
              try clear hfz60_0
              try clear hfz60_1
              try clear hfz60_2
              try clear hfz60_3
              try clear hfz60_4
              try clear p2
              obtain ⟨kq, HA, HJ47, BK298, BK299, BK325, HB⟩ := hcut
              cases kq with
              | zero => exact absurd HA.out (by simp [cambiumlaw12_InodeBack.j2])
              | succ kj47 =>
                have H := HA.out
                clear HA
                simp only [cambiumlaw12_InodeBack.j2] at H
                replace H := Option.bind_eq_some_iff.mp H
                obtain ⟨⟨t328, t329, t330, t331, t332⟩, A620, H⟩ := H
                replace H : (if t332 = 0 then ((inode_Key.f kj47 t328 t329 t330 t331).bind fun bt334 => (if bt334.1.toList = a2.toList then (if bt334.2 = 0 then (some (decide ((bt334.1.size : Int) ≤ 48))) else (some false)) else (some false))) else (some true)) = some r := H
                have A62 := Aside0.mk A620
                clear A620
                by_cases c63 : t332 = 0
                · rw [if_pos c63] at H
                  have c63b0 : (t332 == 0) = true := beq_iff_eq.mpr c63
                  have c63b1 : (t332 != 0) = false := bne_eq_false_iff_eq.mpr c63
                  clear c63
                  replace H := Option.bind_eq_some_iff.mp H
                  obtain ⟨⟨t334, t335⟩, A640, H⟩ := H
                  replace H : (if t334.toList = a2.toList then (if t335 = 0 then (some (decide ((t334.size : Int) ≤ 48))) else (some false)) else (some false)) = some r := H
                  have A64 := Aside0.mk A640
                  clear A640
                  by_cases c65 : t334.toList = a2.toList
                  · rw [if_pos c65] at H
                    have c65b0 : (t334.toList == a2.toList) = true := beq_iff_eq.mpr c65
                    have c65b1 : (t334.toList != a2.toList) = false := bne_eq_false_iff_eq.mpr c65
                    clear c65
                    by_cases c66 : t335 = 0
                    · rw [if_pos c66] at H
                      have c66b0 : (t335 == 0) = true := beq_iff_eq.mpr c66
                      have c66b1 : (t335 != 0) = false := bne_eq_false_iff_eq.mpr c66
                      clear c66
                      obtain rfl := Option.some.inj H
                      go_wp2_with (first | ((with_reducible refine gate_callee (f := 17) rfl ?_); refine goesL_ (some 101) rfl rfl Try.func17 (by kernel_rfl) rfl #[.string a2] rfl (by (try simp only [List.map_toArray, List.map_cons, List.map_nil]); first | done | rfl | (simp only [List.length_drop, List.length_take]; rfl)) ?_; (with_reducible refine (inode_Parse.calls kj47 a2 t328 t329 t330 t331 t332 _ A62.out).mono ?_); rintro e w67 ⟨rfl, hb⟩; refine ⟨_, rfl, ?_⟩; have n0_ := Aside0.mk (blk_below (g := gb298) (o := .cells #[.int .u8 a0_0, .int .u16 a0_1, .int .u32 a0_2, .int .u32 a0_3, .string a0_4] 26 (0, 0)) (by (with_reducible repeat (first | refine blk_drewN ?_ _ | refine blk_drew ?_ | refine blk_alloc ?_ _)); exact BK298.out) hb); have n1_ := Aside0.mk (blk_below (g := gb299) (o := .cells #[.int .u8 a1_0, .int .u32 a1_1, .string a1_2, .int .u32 a1_3] 37 (0, 0)) (by (with_reducible repeat (first | refine blk_drewN ?_ _ | refine blk_drew ?_ | refine blk_alloc ?_ _)); exact BK299.out) hb); have n2_ := Aside0.mk (blk_below (g := gb325) (o := .cells #[.int .u8 t319, .int .u16 t320, .int .u32 t321, .int .u32 t322, .string t323] 26 (0, 0)) (by (with_reducible repeat (first | refine blk_drewN ?_ _ | refine blk_drew ?_ | refine blk_alloc ?_ _)); exact BK325.out) hb); have n3_ := Aside0.mk (below_step (by repeat (first | (with_reducible first | exact HB.out | apply below_alloc | apply pw_below_drewN | apply below_drew1 | refine below_set ?_ GE298.out | refine below_set ?_ GE299.out | refine below_set ?_ GE325.out) | exact HB.out)) hb); clear BK298; clear BK299; clear BK325; clear HB; have BK298 := n0_; have BK299 := n1_; have BK325 := n2_; have HB := n3_; clear n0_ n1_ n2_ n3_; (try clear hb); (try clear hb2); (try clear hk); (try clear hi)) | ((with_reducible refine gate_dst (N := 20) rfl ?_); (try (refine gate_guard (by rfl) ?_; dsimp only)); refine box_event ?hg (N := 20) ?hd (cs := #[.int .u8 0, .int .u32 0, .string (⟨#[]⟩ : ByteArray), .int .u32 0]) (t := 37) ?hr ?_; (case hd => rfl); (case hg => rfl); (case hr => first | (go_simp; done) | (go_simp; rfl)); intro gb333 hg w68 hbox hb; have n0_ := Aside0.mk (blk_below (g := gb298) (o := .cells #[.int .u8 a0_0, .int .u16 a0_1, .int .u32 a0_2, .int .u32 a0_3, .string a0_4] 26 (0, 0)) (by (with_reducible repeat (first | refine blk_drewN ?_ _ | refine blk_drew ?_ | refine blk_alloc ?_ _)); exact BK298.out) hb); have n1_ := Aside0.mk (blk_below (g := gb299) (o := .cells #[.int .u8 a1_0, .int .u32 a1_1, .string a1_2, .int .u32 a1_3] 37 (0, 0)) (by (with_reducible repeat (first | refine blk_drewN ?_ _ | refine blk_drew ?_ | refine blk_alloc ?_ _)); exact BK299.out) hb); have n2_ := Aside0.mk (blk_below (g := gb325) (o := .cells #[.int .u8 t319, .int .u16 t320, .int .u32 t321, .int .u32 t322, .string t323] 26 (0, 0)) (by (with_reducible repeat (first | refine blk_drewN ?_ _ | refine blk_drew ?_ | refine blk_alloc ?_ _)); exact BK325.out) hb); have n3_ := Aside0.mk (below_step (by repeat (first | (with_reducible first | exact HB.out | apply below_alloc | apply pw_below_drewN | apply below_drew1 | refine below_set ?_ GE298.out | refine below_set ?_ GE299.out | refine below_set ?_ GE325.out) | exact HB.out)) hb); have n4_ := Aside0.mk (hbox); have n5_ := Aside0.mk ((by rw [hg]; exact (below_size (by repeat (first | (with_reducible first | exact HB.out | apply below_alloc | apply pw_below_drewN | apply below_drew1 | refine below_set ?_ GE298.out | refine below_set ?_ GE299.out | refine below_set ?_ GE325.out) | exact HB.out))) : w.heap.size ≤ gb333)); have n6_ := Aside0.mk ((by rw [hg]; exact (below_size (by repeat (first | (with_reducible first | exact HB.out | apply below_alloc | apply pw_below_drewN | apply below_drew1 | refine below_set ?_ GE298.out | refine below_set ?_ GE299.out | refine below_set ?_ GE325.out) | exact HB.out))) : w.heap.size ≤ gb333)); have n7_ := Aside0.mk ((by rw [hg]; exact Nat.ne_of_lt (blk_lt (g := gb298) (o := .cells #[.int .u8 a0_0, .int .u16 a0_1, .int .u32 a0_2, .int .u32 a0_3, .string a0_4] 26 (0, 0)) (by (with_reducible repeat (first | refine blk_drewN ?_ _ | refine blk_drew ?_ | refine blk_alloc ?_ _)); exact BK298.out)) : gb298 ≠ gb333)); have n8_ := Aside0.mk ((by rw [hg]; exact Nat.ne_of_gt (blk_lt (g := gb298) (o := .cells #[.int .u8 a0_0, .int .u16 a0_1, .int .u32 a0_2, .int .u32 a0_3, .string a0_4] 26 (0, 0)) (by (with_reducible repeat (first | refine blk_drewN ?_ _ | refine blk_drew ?_ | refine blk_alloc ?_ _)); exact BK298.out)) : gb333 ≠ gb298)); have n9_ := Aside0.mk ((by rw [hg]; exact Nat.ne_of_lt (blk_lt (g := gb299) (o := .cells #[.int .u8 a1_0, .int .u32 a1_1, .string a1_2, .int .u32 a1_3] 37 (0, 0)) (by (with_reducible repeat (first | refine blk_drewN ?_ _ | refine blk_drew ?_ | refine blk_alloc ?_ _)); exact BK299.out)) : gb299 ≠ gb333)); have n10_ := Aside0.mk ((by rw [hg]; exact Nat.ne_of_gt (blk_lt (g := gb299) (o := .cells #[.int .u8 a1_0, .int .u32 a1_1, .string a1_2, .int .u32 a1_3] 37 (0, 0)) (by (with_reducible repeat (first | refine blk_drewN ?_ _ | refine blk_drew ?_ | refine blk_alloc ?_ _)); exact BK299.out)) : gb333 ≠ gb299)); have n11_ := Aside0.mk ((by rw [hg]; exact Nat.ne_of_lt (blk_lt (g := gb325) (o := .cells #[.int .u8 t319, .int .u16 t320, .int .u32 t321, .int .u32 t322, .string t323] 26 (0, 0)) (by (with_reducible repeat (first | refine blk_drewN ?_ _ | refine blk_drew ?_ | refine blk_alloc ?_ _)); exact BK325.out)) : gb325 ≠ gb333)); have n12_ := Aside0.mk ((by rw [hg]; exact Nat.ne_of_gt (blk_lt (g := gb325) (o := .cells #[.int .u8 t319, .int .u16 t320, .int .u32 t321, .int .u32 t322, .string t323] 26 (0, 0)) (by (with_reducible repeat (first | refine blk_drewN ?_ _ | refine blk_drew ?_ | refine blk_alloc ?_ _)); exact BK325.out)) : gb333 ≠ gb325)); clear BK298; clear BK299; clear BK325; clear HB; have BK298 := n0_; have BK299 := n1_; have BK325 := n2_; have HB := n3_; have BK333 := n4_; have GW333 := n5_; have GE333 := n6_; have NB298_333 := n7_; have NB333_298 := n8_; have NB299_333 := n9_; have NB333_299 := n10_; have NB325_333 := n11_; have NB333_325 := n12_; clear n0_ n1_ n2_ n3_ n4_ n5_ n6_ n7_ n8_ n9_ n10_ n11_ n12_; clear hb hbox hg; have hnb69 := NB333_298.out; have hnc69 := NB298_333.out; have hnb70 := NB333_299.out; have hnc70 := NB299_333.out; have hnb71 := NB333_325.out; have hnc71 := NB325_333.out; have hcz72_0 : w68.cell? ⟨gb333, 0, none⟩ = some (.int .u8 0) := (blk_cell BK333.out 0).trans rfl; have hcz72_1 : w68.cell? ⟨gb333, 1, none⟩ = some (.int .u32 0) := (blk_cell BK333.out 1).trans rfl; have hcz72_2 : w68.cell? ⟨gb333, 2, none⟩ = some (.string (⟨#[]⟩ : ByteArray)) := (blk_cell BK333.out 2).trans rfl; have hcz72_3 : w68.cell? ⟨gb333, 3, none⟩ = some (.int .u32 0) := (blk_cell BK333.out 3).trans rfl; have hfz72_0 := blk_frozen BK333.out 0; have hfz72_1 := blk_frozen BK333.out 1; have hfz72_2 := blk_frozen BK333.out 2; have hfz72_3 := blk_frozen BK333.out 3) | ((with_reducible refine gate_callee (f := 15) rfl ?_); refine goesL_ (some 108) rfl rfl Try.func15 (by kernel_rfl) rfl #[.agg #[.int .u8 t328, .int .u32 t329, .string t330, .int .u32 t331]] rfl (by (try simp only [List.map_toArray, List.map_cons, List.map_nil]); first | done | rfl | (simp only [List.length_drop, List.length_take]; rfl)) ?_; (with_reducible refine (inode_Key.calls kj47 t328 t329 t330 t331 t334 t335 _ A64.out).mono ?_); rintro e w73 ⟨rfl, hb⟩; refine ⟨_, rfl, ?_⟩; have n0_ := Aside0.mk (blk_below (g := gb298) (o := .cells #[.int .u8 a0_0, .int .u16 a0_1, .int .u32 a0_2, .int .u32 a0_3, .string a0_4] 26 (0, 0)) (by (with_reducible repeat (first | refine blk_drewN ?_ _ | refine blk_drew ?_ | refine blk_alloc ?_ _)); refine blk_far ?_ NB298_333.out _; (with_reducible repeat (first | refine blk_drewN ?_ _ | refine blk_drew ?_ | refine blk_alloc ?_ _)); refine blk_far ?_ NB298_333.out _; (with_reducible repeat (first | refine blk_drewN ?_ _ | refine blk_drew ?_ | refine blk_alloc ?_ _)); refine blk_far ?_ NB298_333.out _; (with_reducible repeat (first | refine blk_drewN ?_ _ | refine blk_drew ?_ | refine blk_alloc ?_ _)); refine blk_far ?_ NB298_333.out _; (with_reducible repeat (first | refine blk_drewN ?_ _ | refine blk_drew ?_ | refine blk_alloc ?_ _)); exact BK298.out) hb); have n1_ := Aside0.mk (blk_below (g := gb299) (o := .cells #[.int .u8 a1_0, .int .u32 a1_1, .string a1_2, .int .u32 a1_3] 37 (0, 0)) (by (with_reducible repeat (first | refine blk_drewN ?_ _ | refine blk_drew ?_ | refine blk_alloc ?_ _)); refine blk_far ?_ NB299_333.out _; (with_reducible repeat (first | refine blk_drewN ?_ _ | refine blk_drew ?_ | refine blk_alloc ?_ _)); refine blk_far ?_ NB299_333.out _; (with_reducible repeat (first | refine blk_drewN ?_ _ | refine blk_drew ?_ | refine blk_alloc ?_ _)); refine blk_far ?_ NB299_333.out _; (with_reducible repeat (first | refine blk_drewN ?_ _ | refine blk_drew ?_ | refine blk_alloc ?_ _)); refine blk_far ?_ NB299_333.out _; (with_reducible repeat (first | refine blk_drewN ?_ _ | refine blk_drew ?_ | refine blk_alloc ?_ _)); exact BK299.out) hb); have n2_ := Aside0.mk (blk_below (g := gb325) (o := .cells #[.int .u8 t319, .int .u16 t320, .int .u32 t321, .int .u32 t322, .string t323] 26 (0, 0)) (by (with_reducible repeat (first | refine blk_drewN ?_ _ | refine blk_drew ?_ | refine blk_alloc ?_ _)); refine blk_far ?_ NB325_333.out _; (with_reducible repeat (first | refine blk_drewN ?_ _ | refine blk_drew ?_ | refine blk_alloc ?_ _)); refine blk_far ?_ NB325_333.out _; (with_reducible repeat (first | refine blk_drewN ?_ _ | refine blk_drew ?_ | refine blk_alloc ?_ _)); refine blk_far ?_ NB325_333.out _; (with_reducible repeat (first | refine blk_drewN ?_ _ | refine blk_drew ?_ | refine blk_alloc ?_ _)); refine blk_far ?_ NB325_333.out _; (with_reducible repeat (first | refine blk_drewN ?_ _ | refine blk_drew ?_ | refine blk_alloc ?_ _)); exact BK325.out) hb); have n3_ := Aside0.mk (blk_below (g := gb333) (o := .cells #[.int .u8 t328, .int .u32 t329, .string t330, .int .u32 t331] 37 (0, 0)) (by (with_reducible repeat (first | refine blk_drewN ?_ _ | refine blk_drew ?_ | refine blk_alloc ?_ _)); refine blk_put (cs := #[.int .u8 t328, .int .u32 t329, .string t330, .int .u32 0]) ?_ 3 _ rfl; (with_reducible repeat (first | refine blk_drewN ?_ _ | refine blk_drew ?_ | refine blk_alloc ?_ _)); refine blk_put (cs := #[.int .u8 t328, .int .u32 t329, .string (⟨#[]⟩ : ByteArray), .int .u32 0]) ?_ 2 _ rfl; (with_reducible repeat (first | refine blk_drewN ?_ _ | refine blk_drew ?_ | refine blk_alloc ?_ _)); refine blk_put (cs := #[.int .u8 t328, .int .u32 0, .string (⟨#[]⟩ : ByteArray), .int .u32 0]) ?_ 1 _ rfl; (with_reducible repeat (first | refine blk_drewN ?_ _ | refine blk_drew ?_ | refine blk_alloc ?_ _)); refine blk_put (cs := #[.int .u8 0, .int .u32 0, .string (⟨#[]⟩ : ByteArray), .int .u32 0]) ?_ 0 _ rfl; (with_reducible repeat (first | refine blk_drewN ?_ _ | refine blk_drew ?_ | refine blk_alloc ?_ _)); exact BK333.out) hb); have n4_ := Aside0.mk (below_step (by repeat (first | (with_reducible first | exact HB.out | apply below_alloc | apply pw_below_drewN | apply below_drew1 | refine below_set ?_ GE298.out | refine below_set ?_ GE299.out | refine below_set ?_ GE325.out | refine below_set ?_ GE333.out) | exact HB.out)) hb); clear BK298; clear BK299; clear BK325; clear BK333; clear HB; have BK298 := n0_; have BK299 := n1_; have BK325 := n2_; have BK333 := n3_; have HB := n4_; clear n0_ n1_ n2_ n3_ n4_; (try clear hb); (try clear hb2); (try clear hk); (try clear hi)))
                      go_ret
                      exact ⟨by first | rfl | (simp [errW_none, errW_some] <;> rfl) | (simp [*, errW_none, errW_some] <;> rfl), by repeat (first | (with_reducible first | exact HB.out | apply below_alloc | apply pw_below_drewN | apply below_drew1 | refine below_set ?_ GE298.out | refine below_set ?_ GE299.out | refine below_set ?_ GE325.out | refine below_set ?_ GE333.out) | exact HB.out)⟩
                    · rw [if_neg c66] at H
                      have c66b0 : (t335 == 0) = false := beq_eq_false_iff_ne.mpr c66
                      have c66b1 : (t335 != 0) = true := bne_iff_ne.mpr c66
                      exact absurd ((Option.some.inj H).trans HT_.out) (by simp)
                  · rw [if_neg c65] at H
                    have c65b0 : (t334.toList == a2.toList) = false := beq_eq_false_iff_ne.mpr c65
                    have c65b1 : (t334.toList != a2.toList) = true := bne_iff_ne.mpr c65
                    exact absurd ((Option.some.inj H).trans HT_.out) (by simp)
                · rw [if_neg c63] at H
                  have c63b0 : (t332 == 0) = false := beq_eq_false_iff_ne.mpr c63
                  have c63b1 : (t332 != 0) = true := bne_iff_ne.mpr c63
                  obtain rfl := Option.some.inj H
                  go_wp2_with (first | ((with_reducible refine gate_callee (f := 17) rfl ?_); refine goesL_ (some 101) rfl rfl Try.func17 (by kernel_rfl) rfl #[.string a2] rfl (by (try simp only [List.map_toArray, List.map_cons, List.map_nil]); first | done | rfl | (simp only [List.length_drop, List.length_take]; rfl)) ?_; (with_reducible refine (inode_Parse.calls kj47 a2 t328 t329 t330 t331 t332 _ A62.out).mono ?_); rintro e w74 ⟨rfl, hb⟩; refine ⟨_, rfl, ?_⟩; have n0_ := Aside0.mk (blk_below (g := gb298) (o := .cells #[.int .u8 a0_0, .int .u16 a0_1, .int .u32 a0_2, .int .u32 a0_3, .string a0_4] 26 (0, 0)) (by (with_reducible repeat (first | refine blk_drewN ?_ _ | refine blk_drew ?_ | refine blk_alloc ?_ _)); exact BK298.out) hb); have n1_ := Aside0.mk (blk_below (g := gb299) (o := .cells #[.int .u8 a1_0, .int .u32 a1_1, .string a1_2, .int .u32 a1_3] 37 (0, 0)) (by (with_reducible repeat (first | refine blk_drewN ?_ _ | refine blk_drew ?_ | refine blk_alloc ?_ _)); exact BK299.out) hb); have n2_ := Aside0.mk (blk_below (g := gb325) (o := .cells #[.int .u8 t319, .int .u16 t320, .int .u32 t321, .int .u32 t322, .string t323] 26 (0, 0)) (by (with_reducible repeat (first | refine blk_drewN ?_ _ | refine blk_drew ?_ | refine blk_alloc ?_ _)); exact BK325.out) hb); have n3_ := Aside0.mk (below_step (by repeat (first | (with_reducible first | exact HB.out | apply below_alloc | apply pw_below_drewN | apply below_drew1 | refine below_set ?_ GE298.out | refine below_set ?_ GE299.out | refine below_set ?_ GE325.out) | exact HB.out)) hb); clear BK298; clear BK299; clear BK325; clear HB; have BK298 := n0_; have BK299 := n1_; have BK325 := n2_; have HB := n3_; clear n0_ n1_ n2_ n3_; (try clear hb); (try clear hb2); (try clear hk); (try clear hi)) | ((with_reducible refine gate_dst (N := 20) rfl ?_); (try (refine gate_guard (by rfl) ?_; dsimp only)); refine box_event ?hg (N := 20) ?hd (cs := #[.int .u8 0, .int .u32 0, .string (⟨#[]⟩ : ByteArray), .int .u32 0]) (t := 37) ?hr ?_; (case hd => rfl); (case hg => rfl); (case hr => first | (go_simp; done) | (go_simp; rfl)); intro gb333 hg w75 hbox hb; have n0_ := Aside0.mk (blk_below (g := gb298) (o := .cells #[.int .u8 a0_0, .int .u16 a0_1, .int .u32 a0_2, .int .u32 a0_3, .string a0_4] 26 (0, 0)) (by (with_reducible repeat (first | refine blk_drewN ?_ _ | refine blk_drew ?_ | refine blk_alloc ?_ _)); exact BK298.out) hb); have n1_ := Aside0.mk (blk_below (g := gb299) (o := .cells #[.int .u8 a1_0, .int .u32 a1_1, .string a1_2, .int .u32 a1_3] 37 (0, 0)) (by (with_reducible repeat (first | refine blk_drewN ?_ _ | refine blk_drew ?_ | refine blk_alloc ?_ _)); exact BK299.out) hb); have n2_ := Aside0.mk (blk_below (g := gb325) (o := .cells #[.int .u8 t319, .int .u16 t320, .int .u32 t321, .int .u32 t322, .string t323] 26 (0, 0)) (by (with_reducible repeat (first | refine blk_drewN ?_ _ | refine blk_drew ?_ | refine blk_alloc ?_ _)); exact BK325.out) hb); have n3_ := Aside0.mk (below_step (by repeat (first | (with_reducible first | exact HB.out | apply below_alloc | apply pw_below_drewN | apply below_drew1 | refine below_set ?_ GE298.out | refine below_set ?_ GE299.out | refine below_set ?_ GE325.out) | exact HB.out)) hb); have n4_ := Aside0.mk (hbox); have n5_ := Aside0.mk ((by rw [hg]; exact (below_size (by repeat (first | (with_reducible first | exact HB.out | apply below_alloc | apply pw_below_drewN | apply below_drew1 | refine below_set ?_ GE298.out | refine below_set ?_ GE299.out | refine below_set ?_ GE325.out) | exact HB.out))) : w.heap.size ≤ gb333)); have n6_ := Aside0.mk ((by rw [hg]; exact (below_size (by repeat (first | (with_reducible first | exact HB.out | apply below_alloc | apply pw_below_drewN | apply below_drew1 | refine below_set ?_ GE298.out | refine below_set ?_ GE299.out | refine below_set ?_ GE325.out) | exact HB.out))) : w.heap.size ≤ gb333)); have n7_ := Aside0.mk ((by rw [hg]; exact Nat.ne_of_lt (blk_lt (g := gb298) (o := .cells #[.int .u8 a0_0, .int .u16 a0_1, .int .u32 a0_2, .int .u32 a0_3, .string a0_4] 26 (0, 0)) (by (with_reducible repeat (first | refine blk_drewN ?_ _ | refine blk_drew ?_ | refine blk_alloc ?_ _)); exact BK298.out)) : gb298 ≠ gb333)); have n8_ := Aside0.mk ((by rw [hg]; exact Nat.ne_of_gt (blk_lt (g := gb298) (o := .cells #[.int .u8 a0_0, .int .u16 a0_1, .int .u32 a0_2, .int .u32 a0_3, .string a0_4] 26 (0, 0)) (by (with_reducible repeat (first | refine blk_drewN ?_ _ | refine blk_drew ?_ | refine blk_alloc ?_ _)); exact BK298.out)) : gb333 ≠ gb298)); have n9_ := Aside0.mk ((by rw [hg]; exact Nat.ne_of_lt (blk_lt (g := gb299) (o := .cells #[.int .u8 a1_0, .int .u32 a1_1, .string a1_2, .int .u32 a1_3] 37 (0, 0)) (by (with_reducible repeat (first | refine blk_drewN ?_ _ | refine blk_drew ?_ | refine blk_alloc ?_ _)); exact BK299.out)) : gb299 ≠ gb333)); have n10_ := Aside0.mk ((by rw [hg]; exact Nat.ne_of_gt (blk_lt (g := gb299) (o := .cells #[.int .u8 a1_0, .int .u32 a1_1, .string a1_2, .int .u32 a1_3] 37 (0, 0)) (by (with_reducible repeat (first | refine blk_drewN ?_ _ | refine blk_drew ?_ | refine blk_alloc ?_ _)); exact BK299.out)) : gb333 ≠ gb299)); have n11_ := Aside0.mk ((by rw [hg]; exact Nat.ne_of_lt (blk_lt (g := gb325) (o := .cells #[.int .u8 t319, .int .u16 t320, .int .u32 t321, .int .u32 t322, .string t323] 26 (0, 0)) (by (with_reducible repeat (first | refine blk_drewN ?_ _ | refine blk_drew ?_ | refine blk_alloc ?_ _)); exact BK325.out)) : gb325 ≠ gb333)); have n12_ := Aside0.mk ((by rw [hg]; exact Nat.ne_of_gt (blk_lt (g := gb325) (o := .cells #[.int .u8 t319, .int .u16 t320, .int .u32 t321, .int .u32 t322, .string t323] 26 (0, 0)) (by (with_reducible repeat (first | refine blk_drewN ?_ _ | refine blk_drew ?_ | refine blk_alloc ?_ _)); exact BK325.out)) : gb333 ≠ gb325)); clear BK298; clear BK299; clear BK325; clear HB; have BK298 := n0_; have BK299 := n1_; have BK325 := n2_; have HB := n3_; have BK333 := n4_; have GW333 := n5_; have GE333 := n6_; have NB298_333 := n7_; have NB333_298 := n8_; have NB299_333 := n9_; have NB333_299 := n10_; have NB325_333 := n11_; have NB333_325 := n12_; clear n0_ n1_ n2_ n3_ n4_ n5_ n6_ n7_ n8_ n9_ n10_ n11_ n12_; clear hb hbox hg; have hnb76 := NB333_298.out; have hnc76 := NB298_333.out; have hnb77 := NB333_299.out; have hnc77 := NB299_333.out; have hnb78 := NB333_325.out; have hnc78 := NB325_333.out; have hcz79_0 : w75.cell? ⟨gb333, 0, none⟩ = some (.int .u8 0) := (blk_cell BK333.out 0).trans rfl; have hcz79_1 : w75.cell? ⟨gb333, 1, none⟩ = some (.int .u32 0) := (blk_cell BK333.out 1).trans rfl; have hcz79_2 : w75.cell? ⟨gb333, 2, none⟩ = some (.string (⟨#[]⟩ : ByteArray)) := (blk_cell BK333.out 2).trans rfl; have hcz79_3 : w75.cell? ⟨gb333, 3, none⟩ = some (.int .u32 0) := (blk_cell BK333.out 3).trans rfl; have hfz79_0 := blk_frozen BK333.out 0; have hfz79_1 := blk_frozen BK333.out 1; have hfz79_2 := blk_frozen BK333.out 2; have hfz79_3 := blk_frozen BK333.out 3))
                  go_ret
                  exact ⟨by first | rfl | (simp [errW_none, errW_some] <;> rfl) | (simp [*, errW_none, errW_some] <;> rfl), by repeat (first | (with_reducible first | exact HB.out | apply below_alloc | apply pw_below_drewN | apply below_drew1 | refine below_set ?_ GE298.out | refine below_set ?_ GE299.out | refine below_set ?_ GE325.out | refine below_set ?_ GE333.out) | exact HB.out)⟩
  · replace c5 := Bool.eq_false_iff.mpr c5
    subst c5
    have H1 : (some false) = some r := by rw [if_neg (show ¬ (false = true) by decide)] at H; exact H
    clear H
    have H := H1
    clear H1
    exact absurd ((Option.some.inj H).trans HT_.out) (by simp)

end Go.Proofs.Ytocmpidbeagimaa.Z
end

section
/- InodeBack, over numbers and lists: the law's function answers true. -/
namespace Go.Proofs.Ytocmpidbeagimaa.Pure
open Go.RowKit Go.Proofs.Ytocmpidbeagimaa Go.Proofs.Ytocmpidbeagimaa.Z Go.Proofs.YtocmpidbeagimaaW.PrintWords Go.Proofs.Ytocmpidbeagimaa.PM
theorem decS_ok {l : List UInt8} (h : (decS l).2.2.2.2.2 = 0) : whole l ∧ okN (f1 l) (f3 l) (f4 l) (d13 l) = true ∧ decS l = (f1 l, f2 l, f3 l, f4 l, d13 l, 0) := by
  by_cases hc : whole l ∧ okN (f1 l) (f3 l) (f4 l) (d13 l) = true
  · refine ⟨hc.1, hc.2, ?_⟩
    unfold decS
    rw [if_pos hc]
  · unfold decS at h
    rw [if_neg hc] at h
    exact absurd h (by decide)
theorem back2 (b : ByteArray) (hb : b.size ≤ 140737488351232) : Ev (fun r => cambiumlaw12_InodeBack.j2 r b) true := by
  have hp := parse_f b (by omega)
  rcases hP : parsS b.data.toList with ⟨K, I, N, C, E⟩
  rw [hP] at hp
  refine Ev.step (fun k => by rw [cambiumlaw12_InodeBack.j2]) (Ev.bind hp ?_)
  by_cases h : E = 0
  · refine Ev.ifp h ?_
    obtain ⟨hr, hk, hi, hc⟩ := key_pars hP h
    have hk0 : 0 ≤ K := by
      unfold rightK at hr
      have := (of_decide_eq_true hr).2
      omega
    have hf := key_f K I (ba N) C hk0 hi hc
    rw [ba_data] at hf
    have e : keyS K I N C = (b.data.toList, 0) := by
      unfold keyS
      rw [if_pos hr, hk]
    rw [e] at hf
    have hl := key_len hr
    rw [hk] at hl
    refine Ev.bind hf (Ev.ifp (by rw [data_ba]) (Ev.ifp rfl (Ev.const ?_)))
    rw [ba_size]
    simp
    have := size_len b
    omega
  · exact Ev.ifn h (Ev.const rfl)
theorem back1 (b : ByteArray) (hb : b.size ≤ 140737488351232) : Ev (fun r => cambiumlaw12_InodeBack.j1 r b) true := by
  refine Ev.step (fun k => by rw [cambiumlaw12_InodeBack.j1]) (Ev.bind (decode_f b (by omega)) ?_)
  by_cases h : (decS b.data.toList).2.2.2.2.2 = 0
  · refine Ev.ifp h ?_
    obtain ⟨hw, hok, hd⟩ := decS_ok h
    obtain ⟨r1, r2, r3, r4⟩ := f_range _ hw
    have hf := encode_f (f1 b.data.toList) (f2 b.data.toList) (f3 b.data.toList) (f4 b.data.toList) (ba (d13 b.data.toList)) r1 r2 r3 r4
    rw [ba_data] at hf
    have e : encS (f1 b.data.toList) (f2 b.data.toList) (f3 b.data.toList) (f4 b.data.toList) (d13 b.data.toList) = (b.data.toList, 0) := by
      unfold encS
      rw [if_pos hok, enc_dec hw]
    rw [e] at hf
    rw [hd]
    refine Ev.bind hf (Ev.ifp (by rw [data_ba]) (Ev.ifp rfl (back2 b hb)))
  · exact Ev.ifn h (back2 b hb)
theorem back0 (b : ByteArray) (hb : b.size ≤ 140737488351232) (k i : Int) (n : ByteArray) (c : Int) (hk : 0 ≤ k) (hi : 0 ≤ i ∧ i < 4294967296) (hc : 0 ≤ c) : Ev (fun r => cambiumlaw12_InodeBack.j0 r b k i n c) true := by
  refine Ev.step (fun k => by rw [cambiumlaw12_InodeBack.j0]) (Ev.bind (key_f k i n c hk hi hc) ?_)
  by_cases h : rightK k i n.data.toList c = true
  · have e : keyS k i n.data.toList c = (keyL k i n.data.toList c, 0) := by unfold keyS; rw [if_pos h]
    rw [e]
    have hl := key_len h
    have hp := parse_f (ba (keyL k i n.data.toList c)) (by rw [ba_size]; omega)
    rw [ba_data, pars_key h hi hc] at hp
    have hpl := prefL_len (i := i) (lett_ne h)
    refine Ev.ifp rfl (Ev.bind (prefix_f k i hk hi) (Ev.bind hp (Ev.ifn ?_ (Ev.ifp rfl (Ev.ifp (by rw [ba_size]; omega) (Ev.ifp (by simp only [ba_size]; omega) (Ev.ifp ?_ (back1 b hb))))))))
    · unfold baK
      rw [data_ba]
      simp
    · rw [ext_front, ba_toList, ba_toList, ba_data]
      unfold keyL
      exact tk hpl
  · have e : keyS k i n.data.toList c = ([], 4) := by unfold keyS; rw [if_neg h]
    rw [e]
    exact Ev.ifn (by decide) (back1 b hb)
theorem InodeBack : ∀ (a0_0 : Int) (a0_1 : Int) (a0_2 : Int) (a0_3 : Int) (a0_4 : ByteArray) (a1_0 : Int) (a1_1 : Int) (a1_2 : ByteArray) (a1_3 : Int) (a2 : ByteArray), (Lit.int .u8 a0_0).wf = true → (Lit.int .u16 a0_1).wf = true → (Lit.int .u32 a0_2).wf = true → (Lit.int .u32 a0_3).wf = true → a0_4.size ≤ maxLen → (Lit.int .u8 a1_0).wf = true → (Lit.int .u32 a1_1).wf = true → a1_2.size ≤ maxLen → (Lit.int .u32 a1_3).wf = true → a2.size ≤ 140737488351232 → ∃ k, Z.cambiumlaw12_InodeBack.f k a0_0 a0_1 a0_2 a0_3 a0_4 a1_0 a1_1 a1_2 a1_3 a2 = some true := by
  intro k m l s t q i n c b hk hm hl hs ht hq hi hn hc hb
  refine Ev.rounds (g := fun r => Z.cambiumlaw12_InodeBack.f r k m l s t q i n c b) ?_
  have hk := wf8 hk
  have hm := wf16 hm
  have hl := wf32 hl
  have hs := wf32 hs
  have hq := wf8 hq
  have hi := wf32 hi
  have hc := wf32 hc
  unfold cambiumlaw12_InodeBack.f
  refine Ev.bind lives_f (Ev.ifp rfl (Ev.bind (encode_f k m l s t hk hm hl hs) ?_))
  by_cases h : okN k l s t.data.toList = true
  · have e : encS k m l s t.data.toList = (enc k m l s t.data.toList, 0) := by unfold encS; rw [if_pos h]
    rw [e]
    have h64 := okN_size h
    have hd := decode_f (ba (enc k m l s t.data.toList)) (by rw [ba_size]; unfold enc; simp only [List.length_append, be_len]; omega)
    rw [ba_data, dec_enc h hk hm hl hs] at hd
    refine Ev.ifp rfl (Ev.bind hd (Ev.ifn ?_ (Ev.ifp rfl (back0 b hb q i n c hq.1 hi hc.1))))
    unfold baI
    rw [data_ba]
    simp
  · have e : encS k m l s t.data.toList = ([], 4) := by unfold encS; rw [if_neg h]
    rw [e]
    exact Ev.ifn (by decide) (back0 b hb q i n c hq.1 hi hc.1)
end Go.Proofs.Ytocmpidbeagimaa.Pure
end

section
/- cambium/cambiumlaw12.InodeBack: at every input the law's function returns true, and each argument reads afterwards as before. Conditions: none beyond the row's own. Printed by a program of this session (mp.py) over the pure statement in YtocmpidbeagimaaPureInodeBack. -/
namespace Go.Proofs.Ytocmpidbeagimaa.inodeBack
open Go.ChangeShapes Go.WideShapes Go.ChangeAt Go.RowKit
open Go.ChangeMaps (open_string shut_string)
set_option linter.unusedVariables false
set_option linter.unusedSimpArgs false
theorem own : ownKnob Try.prog.godebug = none := by kernel_rfl
theorem laidOut : laidOutB Try.prog = true := by kernel_rfl
theorem lstOf4 {α : Type} (l : List α) (h : l.length = 4) : ∃ z0 z1 z2 z3, l = [z0, z1, z2, z3] := by
  match l, h with
  | [z0, z1, z2, z3], _ => exact ⟨z0, z1, z2, z3, rfl⟩
theorem arrOf4 {α : Type} (a : Array α) (h : a.toList.length = 4) : ∃ z0 z1 z2 z3, a = #[z0, z1, z2, z3] := by
  obtain ⟨l⟩ := a
  obtain ⟨z0, z1, z2, z3, rfl⟩ := lstOf4 l h
  exact ⟨z0, z1, z2, z3, rfl⟩
theorem lstOf5 {α : Type} (l : List α) (h : l.length = 5) : ∃ z0 z1 z2 z3 z4, l = [z0, z1, z2, z3, z4] := by
  match l, h with
  | [z0, z1, z2, z3, z4], _ => exact ⟨z0, z1, z2, z3, z4, rfl⟩
theorem arrOf5 {α : Type} (a : Array α) (h : a.toList.length = 5) : ∃ z0 z1 z2 z3 z4, a = #[z0, z1, z2, z3, z4] := by
  obtain ⟨l⟩ := a
  obtain ⟨z0, z1, z2, z3, z4, rfl⟩ := lstOf5 l h
  exact ⟨z0, z1, z2, z3, z4, rfl⟩
set_option maxHeartbeats 1000000 in
set_option maxRecDepth 100000 in
theorem lifted (os : Os) (started : os.Started) (H : Type) (enc : TypeId × Value → H) :
    ReturnsInHanded {} Try.checked os 5 .any (Rows.inodeBackSpec.pre6 enc Try.prog Try.f5 Rows.inodeBackRow.domain false) (Rows.inodeBackSpec.post enc Try.prog Try.f5 false true false false) := by
  refine returnsInHanded_of_change_sized (C := Try.checked) own started (by kernel_rfl) Try.func5
    (ChangeSpec.witness6 (enc := enc) (C := Try.checked) false ⟨#[], #[.agg #[.int .u8 0, .int .u16 0, .int .u32 0, .int .u32 0, .string ByteArray.empty], .agg #[.int .u8 0, .int .u32 0, .string ByteArray.empty, .int .u32 0], .string ByteArray.empty], []⟩ 8 (by kernel_rfl) (by kernel_rfl) (by kernel_rfl) (by kernel_rfl)) ?_
  intro W base args ds gs before hval0 hW hcnd hwz_ _
  have hsz : (DataW.weightsEach Try.prog (Try.f5.params.toList ++ Rows.inodeBackSpec.plain.varTypes Try.prog) (ds ++ gs)).all (· ≤ reachBytes) = true := hwz_
  have hval : ∀ (j : Nat) t v, Try.f5.params[j]? = some t → args[j]? = some v → Value.okWide Try.prog W .any base t v := hval0
  have hW' := hW
  obtain ⟨p, q, hA0, hV, rfl, hfz, hnd⟩ := hW
  have hA : DataW.TrodAll enc Try.prog W 0 (fun _ => true) true Try.f5.params.toList args.toList ds p := hA0
  rw [Try.params5] at hA hval hsz
  obtain ⟨v0, vs0, d0, ds0, p0, q0, hargs, rfl, rfl, h0, r0⟩ := trodAll_cons hA
  obtain ⟨v1, vs1, d1, ds1, p1, q1, rfl, rfl, rfl, h1, r1⟩ := trodAll_cons r0
  obtain ⟨v2, vs2, d2, ds2, p2, q2, rfl, rfl, rfl, h2, r2⟩ := trodAll_cons r1
  obtain ⟨rfl, rfl, rfl⟩ := trodAll_nil r2
  obtain rfl : args = #[v0, v1, v2] := by cases args; simp_all
  obtain ⟨rfl, rfl⟩ := trodVars_none hV
  have k0 := h0
  have lt0 : ∀ x ∈ p0, x.block < W.heap.size := by obtain ⟨m, hm⟩ := k0; exact DataW.trod_lt m _ _ _ hm
  obtain ⟨cs0, rfl, hsz_0⟩ := okWide_struct Try.underlying26 (hval 0 26 v0 rfl rfl)
  obtain ⟨fuel0, hf0⟩ := h0
  obtain ⟨ys0, n0, hl0, hy0, hx0, hfs0⟩ := Z.flat_fields Try.underlying26 (by kernel_rfl) (by kernel_rfl) hf0
  obtain ⟨q0_0, q0_1, q0_2, q0_3, q0_4, rfl⟩ := arrOf5 cs0 hl0
  obtain ⟨r0_0, r0_1, r0_2, r0_3, r0_4, rfl⟩ := lstOf5 ys0 hy0
  obtain ⟨a0_0, hk0_0, hG0_0, hB0_0⟩ := (Z.Opens.int Try.underlying22 (by kernel_rfl)).2 (hfs0 0 _ q0_0 rfl rfl)
  have hk0_0' : [q0_0] = [.int .u8 a0_0] := hk0_0
  simp only [List.cons.injEq, and_true] at hk0_0'
  subst hk0_0'
  clear hk0_0
  obtain ⟨a0_1, hk0_1, hG0_1, hB0_1⟩ := (Z.Opens.int Try.underlying23 (by kernel_rfl)).2 (hfs0 1 _ q0_1 rfl rfl)
  have hk0_1' : [q0_1] = [.int .u16 a0_1] := hk0_1
  simp only [List.cons.injEq, and_true] at hk0_1'
  subst hk0_1'
  clear hk0_1
  obtain ⟨a0_2, hk0_2, hG0_2, hB0_2⟩ := (Z.Opens.int Try.underlying24 (by kernel_rfl)).2 (hfs0 2 _ q0_2 rfl rfl)
  have hk0_2' : [q0_2] = [.int .u32 a0_2] := hk0_2
  simp only [List.cons.injEq, and_true] at hk0_2'
  subst hk0_2'
  clear hk0_2
  obtain ⟨a0_3, hk0_3, hG0_3, hB0_3⟩ := (Z.Opens.int Try.underlying24 (by kernel_rfl)).2 (hfs0 3 _ q0_3 rfl rfl)
  have hk0_3' : [q0_3] = [.int .u32 a0_3] := hk0_3
  simp only [List.cons.injEq, and_true] at hk0_3'
  subst hk0_3'
  clear hk0_3
  obtain ⟨a0_4, hk0_4, hG0_4, hB0_4⟩ := (Z.Opens.string Try.underlying9 (by kernel_rfl)).2 (hfs0 4 _ q0_4 rfl rfl)
  have hk0_4' : [q0_4] = [.string a0_4] := hk0_4
  simp only [List.cons.injEq, and_true] at hk0_4'
  subst hk0_4'
  clear hk0_4
  have k1 := h1
  have lt1 : ∀ x ∈ p1, x.block < W.heap.size := by obtain ⟨m, hm⟩ := k1; exact DataW.trod_lt m _ _ _ hm
  obtain ⟨cs1, rfl, hsz_1⟩ := okWide_struct Try.underlying37 (hval 1 37 v1 rfl rfl)
  obtain ⟨fuel1, hf1⟩ := h1
  obtain ⟨ys1, n1, hl1, hy1, hx1, hfs1⟩ := Z.flat_fields Try.underlying37 (by kernel_rfl) (by kernel_rfl) hf1
  obtain ⟨q1_0, q1_1, q1_2, q1_3, rfl⟩ := arrOf4 cs1 hl1
  obtain ⟨r1_0, r1_1, r1_2, r1_3, rfl⟩ := lstOf4 ys1 hy1
  obtain ⟨a1_0, hk1_0, hG1_0, hB1_0⟩ := (Z.Opens.int Try.underlying35 (by kernel_rfl)).2 (hfs1 0 _ q1_0 rfl rfl)
  have hk1_0' : [q1_0] = [.int .u8 a1_0] := hk1_0
  simp only [List.cons.injEq, and_true] at hk1_0'
  subst hk1_0'
  clear hk1_0
  obtain ⟨a1_1, hk1_1, hG1_1, hB1_1⟩ := (Z.Opens.int Try.underlying24 (by kernel_rfl)).2 (hfs1 1 _ q1_1 rfl rfl)
  have hk1_1' : [q1_1] = [.int .u32 a1_1] := hk1_1
  simp only [List.cons.injEq, and_true] at hk1_1'
  subst hk1_1'
  clear hk1_1
  obtain ⟨a1_2, hk1_2, hG1_2, hB1_2⟩ := (Z.Opens.string Try.underlying9 (by kernel_rfl)).2 (hfs1 2 _ q1_2 rfl rfl)
  have hk1_2' : [q1_2] = [.string a1_2] := hk1_2
  simp only [List.cons.injEq, and_true] at hk1_2'
  subst hk1_2'
  clear hk1_2
  obtain ⟨a1_3, hk1_3, hG1_3, hB1_3⟩ := (Z.Opens.int Try.underlying24 (by kernel_rfl)).2 (hfs1 3 _ q1_3 rfl rfl)
  have hk1_3' : [q1_3] = [.int .u32 a1_3] := hk1_3
  simp only [List.cons.injEq, and_true] at hk1_3'
  subst hk1_3'
  clear hk1_3
  have k2 := h2
  have lt2 : ∀ x ∈ p2, x.block < W.heap.size := by obtain ⟨m, hm⟩ := k2; exact DataW.trod_lt m _ _ _ hm
  obtain ⟨a2, rfl, rfl, rfl, y2⟩ := open_string Try.underlying9 (hval 2 9 v2 rfl rfl) h2
  have w2 : a2.size ≤ 140737488351232 := by
    have z := sized_string hsz (j := 2) (t := 9) rfl rfl
    rw [Array.length_toList] at z
    exact z
  have hP := Pure.InodeBack a0_0 a0_1 a0_2 a0_3 a0_4 a1_0 a1_1 a1_2 a1_3 a2 hG0_0 hG0_1 hG0_2 hG0_3 hG0_4 hG1_0 hG1_1 hG1_2 hG1_3 w2
  obtain ⟨k, hk⟩ := hP
  refine (Z.cambiumlaw12_InodeBack.calls k a0_0 a0_1 a0_2 a0_3 a0_4 a1_0 a1_1 a1_2 a1_3 a2 true W  hk).mono fun e W' ⟨he, bel0⟩ => ?_
  have bel : Below W.heap.size W W' := bel0
  subst he
  exact ⟨_, rfl, _, _, _, [], _, [], hW', trodAll_mk1 (shut_bool Try.underlying4 _), (trodAll_cons_mk (Below.trod laidOut (by kernel_rfl) (of_decide_eq_true (by kernel_rfl)) k0 bel lt0) (trodAll_cons_mk (Below.trod laidOut (by kernel_rfl) (of_decide_eq_true (by kernel_rfl)) k1 bel lt1) (trodAll_cons_mk (Below.trod laidOut (by kernel_rfl) (of_decide_eq_true (by kernel_rfl)) k2 bel lt2) trodAll_mk0))), rfl, bel.frame _, fun h => by cases h⟩
theorem over : Rows.inodeBackRow.holds Try.pinned (OpenSpec.ofChange Rows.inodeBackSpec) :=
  OpenClaim.holds_of_wide 5 Try.f5 rfl rfl rfl rfl rfl rfl rfl ⟨rfl, rfl, rfl, rfl, rfl⟩ rfl rfl rfl rfl rfl (by kernel_rfl) Try.func5 (by kernel_rfl)
    (of_decide_eq_true (by kernel_rfl)) (by unfold Func.isWrapper; first | (rw [if_pos (by decide +kernel)]; kernel_rfl) | (rw [if_neg (by decide +kernel)]; exact ⟨rfl, rfl⟩))
    (fun os started H enc _ => lifted os started H enc)
end Go.Proofs.Ytocmpidbeagimaa.inodeBack
namespace Go.Proofs.Ytocmpidbeagimaa
theorem inodeBack_holds : Rows.InodeBackSaid := inodeBack.over
#print axioms inodeBack_holds
end Go.Proofs.Ytocmpidbeagimaa
end
